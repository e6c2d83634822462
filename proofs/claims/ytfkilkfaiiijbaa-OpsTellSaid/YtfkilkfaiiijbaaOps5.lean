/- Walks and laws. -/
import Derived.Test.YtfkilkfaiiijbaaOps4
import Derived.Test.YtfkilkfaiiijbaaLibB
set_option maxRecDepth 100000
set_option maxHeartbeats 0
set_option linter.unusedSimpArgs false
set_option linter.unusedVariables false
namespace Go.Ops
open Go Go.Abs Go.Proofs
def rfitP (l a n : Int) : Prop := (l = 1 ∧ a = 1 ∧ -1073741824 ≤ n ∧ n ≤ 1073741824) ∨ ((l = 2 ∨ l = 3) ∧ a = 3 ∧ n = 0) ∨ (l = 4 ∧ (a = 1 ∨ a = 2) ∧ n = 0) ∨ (l = 5 ∧ (a = 4 ∨ a = 2) ∧ n = 0)
instance (l a n : Int) : Decidable (rfitP l a n) := by unfold rfitP; infer_instance
theorem r_fits (l a n : Int) : EvD Try.prog 99 [.sc (.int .i64 l), .sc (.int .i64 a), .sc (.int .i64 n)] (.sc (.bool (decide (rfitP l a n)))) := by
  refine EvD.body Try.func99 rfl rfl rfl ?_
  refine AWP.seq ?_
  refine AWP.reg ?_
  refine DerQ.run ((True) ∧ (True)) ⟨[(I6 l), (I6 a), (I6 n), U6, U6, U6, (B6 false)] ++ UU 46, []⟩ (by kernel_rfl) ⟨trivial, trivial⟩ ?_
  refine AWP.seq ?_
  refine AWP.seq ?_
  refine AWP.reg ?_
  refine DerQ.run ((True) ∧ (True)) ⟨[(I6 l), (I6 a), (I6 n), U6, U6, U6, (B6 false), (I6 l)] ++ UU 45, []⟩ (by kernel_rfl) ⟨trivial, trivial⟩ ?_
  refine AWP.block ?_
  refine AWP.seq ?_
  refine AWP.reg ?_
  refine DerQ.run (TT 2) ⟨[(I6 l), (I6 a), (I6 n), U6, U6, U6, (B6 false), (I6 l), (B6 (l == 1)), (B6 (l == 1))] ++ UU 43, []⟩ (by kernel_rfl) (tt 2) ?_
  refine AWP.cond (b := l == 1) (by kernel_rfl) (fun h1 => ?_) (fun h1 => ?_)
  · have h1' := eq_of_beq h1
    refine AWP.seq ?_
    refine AWP.reg ?_
    refine DerQ.pre 3 (TT 3) ⟨[(I6 l), (I6 a), (I6 n), U6, U6, U6, (B6 false), (I6 l), (B6 (l == 1)), (B6 (l == 1)), (I6 a), (B6 (a == 1)), (B6 (a == 1))] ++ UU 40, []⟩ (by kernel_rfl) (tt 3) ?_
    cases h2 : (a == 1)
    · have h2' := ne_of_beq_false h2
      refine DerQ.run (TT 4) ⟨[(I6 l), (I6 a), (I6 n), U6, U6, U6, (B6 false), (I6 l), (B6 (l == 1)), (B6 (l == 1)), (I6 a), (B6 false), (B6 false), .tup [], .tup [], (B6 false), (B6 false), .tup [], .tup [], (B6 false)] ++ UU 33, []⟩ (by kernel_rfl) (tt 4) ?_
      refine AWP.ret ?_
      refine EvF.fin (.sc (.bool false)) _ (by simp) (by kernel_rfl) ?_
      refine Shrink.all ?_ rfl
      (congr 2; rw [Bool.eq_iff_iff]; simp [rfitP, *] <;> omega; done)
    · have h2' := eq_of_beq h2
      refine DerQ.pre 4 (TT 4) ⟨[(I6 l), (I6 a), (I6 n), U6, U6, U6, (B6 false), (I6 l), (B6 (l == 1)), (B6 (l == 1)), (I6 a), (B6 true), (B6 true), (I6 n), (B6 (decide (n ≥ -1073741824))), (B6 (decide (n ≥ -1073741824))), (B6 (decide (n ≥ -1073741824)))] ++ UU 36, []⟩ (by kernel_rfl) (tt 4) ?_
      cases h3 : (decide (n ≥ -1073741824))
      · have h3' := of_decide_eq_false h3
        refine DerQ.run (TT 2) ⟨[(I6 l), (I6 a), (I6 n), U6, U6, U6, (B6 false), (I6 l), (B6 (l == 1)), (B6 (l == 1)), (I6 a), (B6 true), (B6 true), (I6 n), (B6 false), (B6 false), (B6 false), .tup [], .tup [], (B6 false)] ++ UU 33, []⟩ (by kernel_rfl) (tt 2) ?_
        refine AWP.ret ?_
        refine EvF.fin (.sc (.bool false)) _ (by simp) (by kernel_rfl) ?_
        refine Shrink.all ?_ rfl
        (congr 2; rw [Bool.eq_iff_iff]; simp [rfitP, *] <;> omega; done)
      · have h3' := of_decide_eq_true h3
        refine DerQ.run (TT 4) ⟨[(I6 l), (I6 a), (I6 n), U6, U6, U6, (B6 (decide (n ≤ 1073741824))), (I6 l), (B6 (l == 1)), (B6 (l == 1)), (I6 a), (B6 true), (B6 true), (I6 n), (B6 true), (B6 true), (B6 true), (I6 n), (B6 (decide (n ≤ 1073741824))), (B6 (decide (n ≤ 1073741824)))] ++ UU 33, []⟩ (by kernel_rfl) (tt 4) ?_
        refine AWP.ret ?_
        refine EvF.fin (.sc (.bool (decide (n ≤ 1073741824)))) _ (by simp) (by kernel_rfl) ?_
        refine Shrink.all ?_ rfl
        (congr 2; rw [Bool.eq_iff_iff]; simp [rfitP, *] <;> omega; done)
  · have h1' := ne_of_beq_false h1
    refine AWP.seq ?_
    refine AWP.seq ?_
    refine AWP.reg ?_
    refine DerQ.run (TT 2) ⟨[(I6 l), (I6 a), (I6 n), U6, U6, U6, (B6 false), (I6 l), (B6 (l == 1)), (B6 (l == 1)), U6, U6, U6, U6, U6, U6, U6, U6, U6, U6, (B6 (l == 2)), (B6 (l == 2))] ++ UU 31, []⟩ (by kernel_rfl) (tt 2) ?_
    refine AWP.cond (b := l == 2) (by kernel_rfl) (fun h2 => ?_) (fun h2 => ?_)
    · have h2' := eq_of_beq h2
      refine AWP.skip ?_
      refine AWP.cond (b := l == 2) (by kernel_rfl) (fun h3 => ?_) (fun h3 => ?_)
      · have h3' := eq_of_beq h3
        refine AWP.seq ?_
        refine AWP.reg ?_
        refine DerQ.pre 3 (TT 3) ⟨[(I6 l), (I6 a), (I6 n), U6, U6, U6, (B6 false), (I6 l), (B6 (l == 1)), (B6 (l == 1)), U6, U6, U6, U6, U6, U6, U6, U6, U6, U6, (B6 (l == 2)), (B6 (l == 2)), U6, (I6 a), (B6 (a == 3)), (B6 (a == 3))] ++ UU 27, []⟩ (by kernel_rfl) (tt 3) ?_
        cases h4 : (a == 3)
        · have h4' := ne_of_beq_false h4
          refine DerQ.run (TT 2) ⟨[(I6 l), (I6 a), (I6 n), U6, U6, U6, (B6 false), (I6 l), (B6 (l == 1)), (B6 (l == 1)), U6, U6, U6, U6, U6, U6, U6, U6, U6, U6, (B6 (l == 2)), (B6 (l == 2)), U6, (I6 a), (B6 false), (B6 false), .tup [], .tup [], (B6 false)] ++ UU 24, []⟩ (by kernel_rfl) (tt 2) ?_
          refine AWP.ret ?_
          refine EvF.fin (.sc (.bool false)) _ (by simp) (by kernel_rfl) ?_
          refine Shrink.all ?_ rfl
          (congr 2; rw [Bool.eq_iff_iff]; simp [rfitP, *] <;> omega; done)
        · have h4' := eq_of_beq h4
          refine DerQ.run (TT 4) ⟨[(I6 l), (I6 a), (I6 n), U6, U6, U6, (B6 (n == 0)), (I6 l), (B6 (l == 1)), (B6 (l == 1)), U6, U6, U6, U6, U6, U6, U6, U6, U6, U6, (B6 (l == 2)), (B6 (l == 2)), U6, (I6 a), (B6 true), (B6 true), (I6 n), (B6 (n == 0)), (B6 (n == 0))] ++ UU 24, []⟩ (by kernel_rfl) (tt 4) ?_
          refine AWP.ret ?_
          refine EvF.fin (.sc (.bool (n == 0))) _ (by simp) (by kernel_rfl) ?_
          refine Shrink.all ?_ rfl
          (congr 2; rw [Bool.eq_iff_iff]; simp [rfitP, *] <;> omega; done)
      · have h3' := ne_of_beq_false h3
        exfalso; omega
    · have h2' := ne_of_beq_false h2
      refine AWP.reg ?_
      refine DerQ.run (TT 2) ⟨[(I6 l), (I6 a), (I6 n), U6, U6, U6, (B6 false), (I6 l), (B6 (l == 1)), (B6 (l == 1)), U6, U6, U6, U6, U6, U6, U6, U6, U6, U6, (B6 (l == 3)), (B6 (l == 2)), (B6 (l == 3))] ++ UU 30, []⟩ (by kernel_rfl) (tt 2) ?_
      refine AWP.cond (b := l == 3) (by kernel_rfl) (fun h3 => ?_) (fun h3 => ?_)
      · have h3' := eq_of_beq h3
        refine AWP.seq ?_
        refine AWP.reg ?_
        refine DerQ.pre 3 (TT 3) ⟨[(I6 l), (I6 a), (I6 n), U6, U6, U6, (B6 false), (I6 l), (B6 (l == 1)), (B6 (l == 1)), U6, U6, U6, U6, U6, U6, U6, U6, U6, U6, (B6 (l == 3)), (B6 (l == 2)), (B6 (l == 3)), (I6 a), (B6 (a == 3)), (B6 (a == 3))] ++ UU 27, []⟩ (by kernel_rfl) (tt 3) ?_
        cases h4 : (a == 3)
        · have h4' := ne_of_beq_false h4
          refine DerQ.run (TT 2) ⟨[(I6 l), (I6 a), (I6 n), U6, U6, U6, (B6 false), (I6 l), (B6 (l == 1)), (B6 (l == 1)), U6, U6, U6, U6, U6, U6, U6, U6, U6, U6, (B6 (l == 3)), (B6 (l == 2)), (B6 (l == 3)), (I6 a), (B6 false), (B6 false), .tup [], .tup [], (B6 false)] ++ UU 24, []⟩ (by kernel_rfl) (tt 2) ?_
          refine AWP.ret ?_
          refine EvF.fin (.sc (.bool false)) _ (by simp) (by kernel_rfl) ?_
          refine Shrink.all ?_ rfl
          (congr 2; rw [Bool.eq_iff_iff]; simp [rfitP, *] <;> omega; done)
        · have h4' := eq_of_beq h4
          refine DerQ.run (TT 4) ⟨[(I6 l), (I6 a), (I6 n), U6, U6, U6, (B6 (n == 0)), (I6 l), (B6 (l == 1)), (B6 (l == 1)), U6, U6, U6, U6, U6, U6, U6, U6, U6, U6, (B6 (l == 3)), (B6 (l == 2)), (B6 (l == 3)), (I6 a), (B6 true), (B6 true), (I6 n), (B6 (n == 0)), (B6 (n == 0))] ++ UU 24, []⟩ (by kernel_rfl) (tt 4) ?_
          refine AWP.ret ?_
          refine EvF.fin (.sc (.bool (n == 0))) _ (by simp) (by kernel_rfl) ?_
          refine Shrink.all ?_ rfl
          (congr 2; rw [Bool.eq_iff_iff]; simp [rfitP, *] <;> omega; done)
      · have h3' := ne_of_beq_false h3
        refine AWP.seq ?_
        refine AWP.reg ?_
        refine DerQ.run (TT 2) ⟨[(I6 l), (I6 a), (I6 n), U6, U6, U6, (B6 false), (I6 l), (B6 (l == 1)), (B6 (l == 1)), U6, U6, U6, U6, U6, U6, U6, U6, U6, U6, (B6 (l == 3)), (B6 (l == 2)), (B6 (l == 3)), U6, U6, U6, U6, U6, U6, (B6 (l == 4)), (B6 (l == 4))] ++ UU 22, []⟩ (by kernel_rfl) (tt 2) ?_
        refine AWP.cond (b := l == 4) (by kernel_rfl) (fun h4 => ?_) (fun h4 => ?_)
        · have h4' := eq_of_beq h4
          refine AWP.seq ?_
          refine AWP.reg ?_
          refine DerQ.pre 3 (TT 3) ⟨[(I6 l), (I6 a), (I6 n), U6, U6, U6, (B6 false), (I6 l), (B6 (l == 1)), (B6 (l == 1)), U6, U6, U6, U6, U6, U6, U6, U6, U6, U6, (B6 (l == 3)), (B6 (l == 2)), (B6 (l == 3)), U6, U6, U6, U6, U6, U6, (B6 (l == 4)), (B6 (l == 4)), (I6 a), (B6 (a == 1)), (B6 (a == 1))] ++ UU 19, []⟩ (by kernel_rfl) (tt 3) ?_
          cases h5 : (a == 1)
          · have h5' := ne_of_beq_false h5
            refine DerQ.pre 4 (TT 4) ⟨[(I6 l), (I6 a), (I6 n), U6, U6, U6, (B6 false), (I6 l), (B6 (l == 1)), (B6 (l == 1)), U6, U6, U6, U6, U6, U6, U6, U6, U6, U6, (B6 (l == 3)), (B6 (l == 2)), (B6 (l == 3)), U6, U6, U6, U6, U6, U6, (B6 (l == 4)), (B6 (l == 4)), (I6 a), (B6 false), (B6 false), (I6 a), (B6 (a == 2)), (B6 (a == 2)), (B6 (a == 2))] ++ UU 15, []⟩ (by kernel_rfl) (tt 4) ?_
            cases h6 : (a == 2)
            · have h6' := ne_of_beq_false h6
              refine DerQ.run (TT 2) ⟨[(I6 l), (I6 a), (I6 n), U6, U6, U6, (B6 false), (I6 l), (B6 (l == 1)), (B6 (l == 1)), U6, U6, U6, U6, U6, U6, U6, U6, U6, U6, (B6 (l == 3)), (B6 (l == 2)), (B6 (l == 3)), U6, U6, U6, U6, U6, U6, (B6 (l == 4)), (B6 (l == 4)), (I6 a), (B6 false), (B6 false), (I6 a), (B6 false), (B6 false), (B6 false), .tup [], .tup [], (B6 false)] ++ UU 12, []⟩ (by kernel_rfl) (tt 2) ?_
              refine AWP.ret ?_
              refine EvF.fin (.sc (.bool false)) _ (by simp) (by kernel_rfl) ?_
              refine Shrink.all ?_ rfl
              (congr 2; rw [Bool.eq_iff_iff]; simp [rfitP, *] <;> omega; done)
            · have h6' := eq_of_beq h6
              refine DerQ.run (TT 4) ⟨[(I6 l), (I6 a), (I6 n), U6, U6, U6, (B6 (n == 0)), (I6 l), (B6 (l == 1)), (B6 (l == 1)), U6, U6, U6, U6, U6, U6, U6, U6, U6, U6, (B6 (l == 3)), (B6 (l == 2)), (B6 (l == 3)), U6, U6, U6, U6, U6, U6, (B6 (l == 4)), (B6 (l == 4)), (I6 a), (B6 false), (B6 false), (I6 a), (B6 true), (B6 true), (B6 true), (I6 n), (B6 (n == 0)), (B6 (n == 0))] ++ UU 12, []⟩ (by kernel_rfl) (tt 4) ?_
              refine AWP.ret ?_
              refine EvF.fin (.sc (.bool (n == 0))) _ (by simp) (by kernel_rfl) ?_
              refine Shrink.all ?_ rfl
              (congr 2; rw [Bool.eq_iff_iff]; simp [rfitP, *] <;> omega; done)
          · have h5' := eq_of_beq h5
            refine DerQ.run (TT 6) ⟨[(I6 l), (I6 a), (I6 n), U6, U6, U6, (B6 (n == 0)), (I6 l), (B6 (l == 1)), (B6 (l == 1)), U6, U6, U6, U6, U6, U6, U6, U6, U6, U6, (B6 (l == 3)), (B6 (l == 2)), (B6 (l == 3)), U6, U6, U6, U6, U6, U6, (B6 (l == 4)), (B6 (l == 4)), (I6 a), (B6 true), (B6 true), .tup [], .tup [], (B6 true), (B6 true), (I6 n), (B6 (n == 0)), (B6 (n == 0))] ++ UU 12, []⟩ (by kernel_rfl) (tt 6) ?_
            refine AWP.ret ?_
            refine EvF.fin (.sc (.bool (n == 0))) _ (by simp) (by kernel_rfl) ?_
            refine Shrink.all ?_ rfl
            (congr 2; rw [Bool.eq_iff_iff]; simp [rfitP, *] <;> omega; done)
        · have h4' := ne_of_beq_false h4
          refine AWP.seq ?_
          refine AWP.reg ?_
          refine DerQ.run (TT 2) ⟨[(I6 l), (I6 a), (I6 n), U6, U6, U6, (B6 false), (I6 l), (B6 (l == 1)), (B6 (l == 1)), U6, U6, U6, U6, U6, U6, U6, U6, U6, U6, (B6 (l == 3)), (B6 (l == 2)), (B6 (l == 3)), U6, U6, U6, U6, U6, U6, (B6 (l == 4)), (B6 (l == 4)), U6, U6, U6, U6, U6, U6, U6, U6, U6, U6, (B6 (l == 5)), (B6 (l == 5))] ++ UU 10, []⟩ (by kernel_rfl) (tt 2) ?_
          refine AWP.cond (b := l == 5) (by kernel_rfl) (fun h5 => ?_) (fun h5 => ?_)
          · have h5' := eq_of_beq h5
            refine AWP.seq ?_
            refine AWP.reg ?_
            refine DerQ.pre 3 (TT 3) ⟨[(I6 l), (I6 a), (I6 n), U6, U6, U6, (B6 false), (I6 l), (B6 (l == 1)), (B6 (l == 1)), U6, U6, U6, U6, U6, U6, U6, U6, U6, U6, (B6 (l == 3)), (B6 (l == 2)), (B6 (l == 3)), U6, U6, U6, U6, U6, U6, (B6 (l == 4)), (B6 (l == 4)), U6, U6, U6, U6, U6, U6, U6, U6, U6, U6, (B6 (l == 5)), (B6 (l == 5)), (I6 a), (B6 (a == 4)), (B6 (a == 4))] ++ UU 7, []⟩ (by kernel_rfl) (tt 3) ?_
            cases h6 : (a == 4)
            · have h6' := ne_of_beq_false h6
              refine DerQ.pre 4 (TT 4) ⟨[(I6 l), (I6 a), (I6 n), U6, U6, U6, (B6 false), (I6 l), (B6 (l == 1)), (B6 (l == 1)), U6, U6, U6, U6, U6, U6, U6, U6, U6, U6, (B6 (l == 3)), (B6 (l == 2)), (B6 (l == 3)), U6, U6, U6, U6, U6, U6, (B6 (l == 4)), (B6 (l == 4)), U6, U6, U6, U6, U6, U6, U6, U6, U6, U6, (B6 (l == 5)), (B6 (l == 5)), (I6 a), (B6 false), (B6 false), (I6 a), (B6 (a == 2)), (B6 (a == 2)), (B6 (a == 2)), U6, U6, .undef], []⟩ (by kernel_rfl) (tt 4) ?_
              cases h7 : (a == 2)
              · have h7' := ne_of_beq_false h7
                refine DerQ.run (TT 2) ⟨[(I6 l), (I6 a), (I6 n), U6, U6, U6, (B6 false), (I6 l), (B6 (l == 1)), (B6 (l == 1)), U6, U6, U6, U6, U6, U6, U6, U6, U6, U6, (B6 (l == 3)), (B6 (l == 2)), (B6 (l == 3)), U6, U6, U6, U6, U6, U6, (B6 (l == 4)), (B6 (l == 4)), U6, U6, U6, U6, U6, U6, U6, U6, U6, U6, (B6 (l == 5)), (B6 (l == 5)), (I6 a), (B6 false), (B6 false), (I6 a), (B6 false), (B6 false), (B6 false), .tup [], .tup [], (B6 false)], []⟩ (by kernel_rfl) (tt 2) ?_
                refine AWP.ret ?_
                refine EvF.fin (.sc (.bool false)) _ (by simp) (by kernel_rfl) ?_
                refine Shrink.all ?_ rfl
                (congr 2; rw [Bool.eq_iff_iff]; simp [rfitP, *] <;> omega; done)
              · have h7' := eq_of_beq h7
                refine DerQ.run (TT 4) ⟨[(I6 l), (I6 a), (I6 n), U6, U6, U6, (B6 (n == 0)), (I6 l), (B6 (l == 1)), (B6 (l == 1)), U6, U6, U6, U6, U6, U6, U6, U6, U6, U6, (B6 (l == 3)), (B6 (l == 2)), (B6 (l == 3)), U6, U6, U6, U6, U6, U6, (B6 (l == 4)), (B6 (l == 4)), U6, U6, U6, U6, U6, U6, U6, U6, U6, U6, (B6 (l == 5)), (B6 (l == 5)), (I6 a), (B6 false), (B6 false), (I6 a), (B6 true), (B6 true), (B6 true), (I6 n), (B6 (n == 0)), (B6 (n == 0))], []⟩ (by kernel_rfl) (tt 4) ?_
                refine AWP.ret ?_
                refine EvF.fin (.sc (.bool (n == 0))) _ (by simp) (by kernel_rfl) ?_
                refine Shrink.all ?_ rfl
                (congr 2; rw [Bool.eq_iff_iff]; simp [rfitP, *] <;> omega; done)
            · have h6' := eq_of_beq h6
              refine DerQ.run (TT 6) ⟨[(I6 l), (I6 a), (I6 n), U6, U6, U6, (B6 (n == 0)), (I6 l), (B6 (l == 1)), (B6 (l == 1)), U6, U6, U6, U6, U6, U6, U6, U6, U6, U6, (B6 (l == 3)), (B6 (l == 2)), (B6 (l == 3)), U6, U6, U6, U6, U6, U6, (B6 (l == 4)), (B6 (l == 4)), U6, U6, U6, U6, U6, U6, U6, U6, U6, U6, (B6 (l == 5)), (B6 (l == 5)), (I6 a), (B6 true), (B6 true), .tup [], .tup [], (B6 true), (B6 true), (I6 n), (B6 (n == 0)), (B6 (n == 0))], []⟩ (by kernel_rfl) (tt 6) ?_
              refine AWP.ret ?_
              refine EvF.fin (.sc (.bool (n == 0))) _ (by simp) (by kernel_rfl) ?_
              refine Shrink.all ?_ rfl
              (congr 2; rw [Bool.eq_iff_iff]; simp [rfitP, *] <;> omega; done)
          · have h5' := ne_of_beq_false h5
            refine AWP.skip ?_
            refine AWP.seq ?_
            refine AWP.reg ?_
            refine DerQ.run ((True) ∧ (True)) ⟨[(I6 l), (I6 a), (I6 n), U6, U6, U6, (B6 false), (I6 l), (B6 (l == 1)), (B6 (l == 1)), U6, U6, U6, U6, U6, U6, U6, U6, U6, U6, (B6 (l == 3)), (B6 (l == 2)), (B6 (l == 3)), U6, U6, U6, U6, U6, U6, (B6 (l == 4)), (B6 (l == 4)), U6, U6, U6, U6, U6, U6, U6, U6, U6, U6, (B6 (l == 5)), (B6 (l == 5))] ++ UU 10, []⟩ (by kernel_rfl) ⟨trivial, trivial⟩ ?_
            refine AWP.ret ?_
            refine EvF.fin (.sc (.bool false)) _ (by simp) (by kernel_rfl) ?_
            refine Shrink.all ?_ rfl
            (congr 2; rw [Bool.eq_iff_iff]; simp [rfitP, *] <;> omega; done)
def rtextP (l a : Int) (t : ByteArray) : Prop := ((l = 1 ∨ a = 5 ∨ (l = 5 ∧ a = 2)) ∧ t.size = 0) ∨ (¬ (l = 1 ∨ a = 5 ∨ (l = 5 ∧ a = 2)) ∧ t.size ≤ 64)
instance (l a : Int) (t : ByteArray) : Decidable (rtextP l a t) := by unfold rtextP; infer_instance
theorem r_texts (l a : Int) (t : ByteArray) : EvD Try.prog 100 [.sc (.int .i64 l), .sc (.int .i64 a), .sc (.string t)] (.sc (.bool (decide (rtextP l a t)))) := by
  refine EvD.body Try.func100 rfl rfl rfl ?_
  refine AWP.seq ?_
  refine AWP.reg ?_
  refine DerQ.run ((True) ∧ (True)) ⟨[(I6 l), (I6 a), (S6 t), U6, U6, U6, (B6 false)] ++ UU 19, []⟩ (by kernel_rfl) ⟨trivial, trivial⟩ ?_
  refine AWP.seq ?_
  refine AWP.seq ?_
  refine AWP.reg ?_
  refine DerQ.pre 3 (TT 3) ⟨[(I6 l), (I6 a), (S6 t), U6, U6, U6, (B6 false), (I6 l), (B6 (l == 1)), (B6 (l == 1))] ++ UU 16, []⟩ (by kernel_rfl) (tt 3) ?_
  cases h1 : (l == 1)
  · have h1' := ne_of_beq_false h1
    refine DerQ.pre 4 (TT 4) ⟨[(I6 l), (I6 a), (S6 t), U6, U6, U6, (B6 false), (I6 l), (B6 false), (B6 false), (I6 a), (B6 (a == 5)), (B6 (a == 5)), (B6 (a == 5))] ++ UU 12, []⟩ (by kernel_rfl) (tt 4) ?_
    cases h2 : (a == 5)
    · have h2' := ne_of_beq_false h2
      refine DerQ.pre 3 (TT 3) ⟨[(I6 l), (I6 a), (S6 t), U6, U6, U6, (B6 false), (I6 l), (B6 false), (B6 false), (I6 a), (B6 false), (B6 false), (B6 false), (I6 l), (B6 (l == 5)), (B6 (l == 5))] ++ UU 9, []⟩ (by kernel_rfl) (tt 3) ?_
      cases h3 : (l == 5)
      · have h3' := ne_of_beq_false h3
        refine DerQ.run (TT 2) ⟨[(I6 l), (I6 a), (S6 t), U6, U6, U6, (B6 false), (I6 l), (B6 false), (B6 false), (I6 a), (B6 false), (B6 false), (B6 false), (I6 l), (B6 false), (B6 false), .tup [], .tup [], (B6 false), (B6 false)] ++ UU 5, []⟩ (by kernel_rfl) (tt 2) ?_
        refine AWP.cond (b := false) (by kernel_rfl) (fun h => nomatch h) (fun _ => ?_)
        refine AWP.skip ?_
        refine AWP.seq ?_
        refine AWP.reg ?_
        refine DerQ.run (TT 4) ⟨[(I6 l), (I6 a), (S6 t), U6, U6, U6, (B6 (decide ((↑(ByteArray.size t) : Int) ≤ 64))), (I6 l), (B6 false), (B6 false), (I6 a), (B6 false), (B6 false), (B6 false), (I6 l), (B6 false), (B6 false), .tup [], .tup [], (B6 false), (B6 false), U6, U6, (S6 t), (I6 (↑(ByteArray.size t) : Int)), (B6 (decide ((↑(ByteArray.size t) : Int) ≤ 64)))], []⟩ (by kernel_rfl) (tt 4) ?_
        refine AWP.ret ?_
        refine EvF.fin (.sc (.bool (decide ((↑(ByteArray.size t) : Int) ≤ 64)))) _ (by simp) (by kernel_rfl) ?_
        refine Shrink.all ?_ rfl
        (congr 2; rw [Bool.eq_iff_iff]; simp [rtextP, *] <;> omega; done)
      · have h3' := eq_of_beq h3
        refine DerQ.run (TT 4) ⟨[(I6 l), (I6 a), (S6 t), U6, U6, U6, (B6 false), (I6 l), (B6 false), (B6 false), (I6 a), (B6 false), (B6 false), (B6 false), (I6 l), (B6 true), (B6 true), (I6 a), (B6 (a == 2)), (B6 (a == 2)), (B6 (a == 2))] ++ UU 5, []⟩ (by kernel_rfl) (tt 4) ?_
        refine AWP.cond (b := a == 2) (by kernel_rfl) (fun h4 => ?_) (fun h4 => ?_)
        · have h4' := eq_of_beq h4
          refine AWP.seq ?_
          refine AWP.reg ?_
          refine DerQ.run (TT 3) ⟨[(I6 l), (I6 a), (S6 t), U6, U6, U6, (B6 (ByteArray.toList t == ByteArray.toList { data := #[] })), (I6 l), (B6 false), (B6 false), (I6 a), (B6 false), (B6 false), (B6 false), (I6 l), (B6 true), (B6 true), (I6 a), (B6 (a == 2)), (B6 (a == 2)), (B6 (a == 2)), (S6 t), (B6 (ByteArray.toList t == ByteArray.toList { data := #[] })), U6, U6, .undef], []⟩ (by kernel_rfl) (tt 3) ?_
          rw [Go.Abs.nil_beq (t)]
          refine AWP.ret ?_
          refine EvF.fin (.sc (.bool (decide (ByteArray.size t = 0)))) _ (by simp) (by kernel_rfl) ?_
          refine Shrink.all ?_ rfl
          (congr 2; rw [Bool.eq_iff_iff]; simp [rtextP, *] <;> omega; done)
        · have h4' := ne_of_beq_false h4
          refine AWP.skip ?_
          refine AWP.seq ?_
          refine AWP.reg ?_
          refine DerQ.run (TT 4) ⟨[(I6 l), (I6 a), (S6 t), U6, U6, U6, (B6 (decide ((↑(ByteArray.size t) : Int) ≤ 64))), (I6 l), (B6 false), (B6 false), (I6 a), (B6 false), (B6 false), (B6 false), (I6 l), (B6 true), (B6 true), (I6 a), (B6 (a == 2)), (B6 (a == 2)), (B6 (a == 2)), U6, U6, (S6 t), (I6 (↑(ByteArray.size t) : Int)), (B6 (decide ((↑(ByteArray.size t) : Int) ≤ 64)))], []⟩ (by kernel_rfl) (tt 4) ?_
          refine AWP.ret ?_
          refine EvF.fin (.sc (.bool (decide ((↑(ByteArray.size t) : Int) ≤ 64)))) _ (by simp) (by kernel_rfl) ?_
          refine Shrink.all ?_ rfl
          (congr 2; rw [Bool.eq_iff_iff]; simp [rtextP, *] <;> omega; done)
    · have h2' := eq_of_beq h2
      refine DerQ.run ((True) ∧ (True)) ⟨[(I6 l), (I6 a), (S6 t), U6, U6, U6, (B6 false), (I6 l), (B6 false), (B6 false), (I6 a), (B6 true), (B6 true), (B6 true), .tup [], .tup [], .tup [], .tup [], .tup [], .tup [], (B6 true)] ++ UU 5, []⟩ (by kernel_rfl) ⟨trivial, trivial⟩ ?_
      refine AWP.cond (b := true) (by kernel_rfl) (fun _ => ?_) (fun h => nomatch h)
      refine AWP.seq ?_
      refine AWP.reg ?_
      refine DerQ.run (TT 3) ⟨[(I6 l), (I6 a), (S6 t), U6, U6, U6, (B6 (ByteArray.toList t == ByteArray.toList { data := #[] })), (I6 l), (B6 false), (B6 false), (I6 a), (B6 true), (B6 true), (B6 true), .tup [], .tup [], .tup [], .tup [], .tup [], .tup [], (B6 true), (S6 t), (B6 (ByteArray.toList t == ByteArray.toList { data := #[] })), U6, U6, .undef], []⟩ (by kernel_rfl) (tt 3) ?_
      rw [Go.Abs.nil_beq (t)]
      refine AWP.ret ?_
      refine EvF.fin (.sc (.bool (decide (ByteArray.size t = 0)))) _ (by simp) (by kernel_rfl) ?_
      refine Shrink.all ?_ rfl
      (congr 2; rw [Bool.eq_iff_iff]; simp [rtextP, *] <;> omega; done)
  · have h1' := eq_of_beq h1
    refine DerQ.run (TT 3) ⟨[(I6 l), (I6 a), (S6 t), U6, U6, U6, (B6 false), (I6 l), (B6 true), (B6 true), .tup [], .tup [], (B6 true), (B6 true), .tup [], .tup [], .tup [], .tup [], .tup [], .tup [], (B6 true)] ++ UU 5, []⟩ (by kernel_rfl) (tt 3) ?_
    refine AWP.cond (b := true) (by kernel_rfl) (fun _ => ?_) (fun h => nomatch h)
    refine AWP.seq ?_
    refine AWP.reg ?_
    refine DerQ.run (TT 3) ⟨[(I6 l), (I6 a), (S6 t), U6, U6, U6, (B6 (ByteArray.toList t == ByteArray.toList { data := #[] })), (I6 l), (B6 true), (B6 true), .tup [], .tup [], (B6 true), (B6 true), .tup [], .tup [], .tup [], .tup [], .tup [], .tup [], (B6 true), (S6 t), (B6 (ByteArray.toList t == ByteArray.toList { data := #[] })), U6, U6, .undef], []⟩ (by kernel_rfl) (tt 3) ?_
    rw [Go.Abs.nil_beq (t)]
    refine AWP.ret ?_
    refine EvF.fin (.sc (.bool (decide (ByteArray.size t = 0)))) _ (by simp) (by kernel_rfl) ?_
    refine Shrink.all ?_ rfl
    (congr 2; rw [Bool.eq_iff_iff]; simp [rtextP, *] <;> omega; done)
def shapeI (k inner : Int) (key f : ByteArray) : Int := if whereP k inner key f then leafI k inner else 0
def shapeP (k inner a n : Int) (key f t : ByteArray) : Prop := whereP k inner key f ∧ ((k = 6 ∧ a = 5 ∧ n = 0 ∧ t.size = 0) ∨ (¬ (k = 6 ∧ a = 5) ∧ rfitP (leafI k inner) a n ∧ rtextP (leafI k inner) a t))
instance (k inner a n : Int) (key f t : ByteArray) : Decidable (shapeP k inner a n key f t) := by unfold shapeP; infer_instance
theorem tupS {x y : Int} {b : Bool} {B : Prop} [Decidable B] (hx : x = y) (hb : b = true ↔ B) : AVal.tup [.sc (.int .i64 x), .sc (.bool b)] = .tup [.sc (.int .i64 y), .sc (.bool (decide B))] := by
  have h2 : b = decide B := by rw [Bool.eq_iff_iff, decide_eq_true_iff]; exact hb
  rw [hx, h2]
theorem r_shape (k inner a n : Int) (key f t : ByteArray) : EvD Try.prog 61 [.sc (.int .i64 k), .sc (.string key), .sc (.string f), .sc (.int .i64 inner), .sc (.int .i64 a), .sc (.int .i64 n), .sc (.string t)]
    (.tup [.sc (.int .i64 (shapeI k inner key f)), .sc (.bool (decide (shapeP k inner a n key f t)))]) := by
  refine EvD.body Try.func61 rfl rfl rfl ?_
  refine AWP.seq ?_
  refine AWP.reg ?_
  refine DerQ.run (TT 2) ⟨[(I6 k), (S6 key), (S6 f), (I6 inner), (I6 a), (I6 n), (S6 t), U6, U6, U6, U6, U6, U6, U6, (I6 0), (B6 false)] ++ UU 53, []⟩ (by kernel_rfl) (tt 2) ?_
  refine AWP.seq ?_
  refine AWP.seq ?_
  refine AWP.reg ?_
  refine DerQ.pre 3 (TT 3) ⟨[(I6 k), (S6 key), (S6 f), (I6 inner), (I6 a), (I6 n), (S6 t), U6, U6, U6, U6, U6, U6, U6, (I6 0), (B6 false), U6, (I6 k), (B6 (decide (k < 1))), (B6 (decide (k < 1)))] ++ UU 49, []⟩ (by kernel_rfl) (tt 3) ?_
  cases h1 : (decide (k < 1))
  · have h1' := of_decide_eq_false h1
    refine DerQ.pre 4 (TT 4) ⟨[(I6 k), (S6 key), (S6 f), (I6 inner), (I6 a), (I6 n), (S6 t), U6, U6, U6, U6, U6, U6, U6, (I6 0), (B6 false), U6, (I6 k), (B6 false), (B6 false), (I6 k), (B6 (decide (k > 6))), (B6 (decide (k > 6))), (B6 (decide (k > 6)))] ++ UU 45, []⟩ (by kernel_rfl) (tt 4) ?_
    cases h2 : (decide (k > 6))
    · have h2' := of_decide_eq_false h2
      refine DerQ.pre 1 ((True) ∧ (True)) ⟨[(I6 k), (S6 key), (S6 f), (I6 inner), (I6 a), (I6 n), (S6 t), U6, U6, U6, U6, U6, U6, U6, (I6 0), (B6 false), U6, (I6 k), (B6 false), (B6 false), (I6 k), (B6 false), (B6 false), (B6 false), (S6 key)] ++ UU 44, []⟩ (by kernel_rfl) ⟨trivial, trivial⟩ ?_
      refine DerQ.callD (r_named key) ⟨[(I6 k), (S6 key), (S6 f), (I6 inner), (I6 a), (I6 n), (S6 t), U6, U6, U6, U6, U6, U6, U6, (I6 0), (B6 false), U6, (I6 k), (B6 false), (B6 false), (I6 k), (B6 false), (B6 false), (B6 false), (S6 key), (B6 (decide (1 ≤ ByteArray.size key ∧ ByteArray.size key ≤ 64)))] ++ UU 43, []⟩ ⟨by kernel_rfl, by kernel_rfl, by kernel_rfl⟩ ?_
      refine DerQ.run (TT 2) ⟨[(I6 k), (S6 key), (S6 f), (I6 inner), (I6 a), (I6 n), (S6 t), U6, U6, U6, U6, U6, U6, U6, (I6 0), (B6 false), U6, (I6 k), (B6 false), (B6 false), (I6 k), (B6 false), (B6 false), (B6 false), (S6 key), (B6 (decide (1 ≤ ByteArray.size key ∧ ByteArray.size key ≤ 64))), (B6 (!decide (1 ≤ ByteArray.size key ∧ ByteArray.size key ≤ 64))), (B6 (!decide (1 ≤ ByteArray.size key ∧ ByteArray.size key ≤ 64)))] ++ UU 41, []⟩ (by kernel_rfl) (tt 2) ?_
      refine AWP.cond (b := !decide (1 ≤ ByteArray.size key ∧ ByteArray.size key ≤ 64)) (by kernel_rfl) (fun h3 => ?_) (fun h3 => ?_)
      · have h3' := h3
        simp only [Bool.and_eq_true, Bool.and_eq_false_iff, Bool.or_eq_true, Bool.or_eq_false_iff, Bool.not_eq_true', Bool.not_eq_false', beq_iff_eq, beq_eq_false_iff_ne, decide_eq_true_eq, decide_eq_false_iff_not, ne_eq] at h3'
        refine AWP.seq ?_
        refine AWP.reg ?_
        refine DerQ.run (TT 2) ⟨[(I6 k), (S6 key), (S6 f), (I6 inner), (I6 a), (I6 n), (S6 t), U6, U6, U6, U6, U6, U6, U6, (I6 0), (B6 false), U6, (I6 k), (B6 false), (B6 false), (I6 k), (B6 false), (B6 false), (B6 false), (S6 key), (B6 (decide (1 ≤ ByteArray.size key ∧ ByteArray.size key ≤ 64))), (B6 (!decide (1 ≤ ByteArray.size key ∧ ByteArray.size key ≤ 64))), (B6 (!decide (1 ≤ ByteArray.size key ∧ ByteArray.size key ≤ 64)))] ++ UU 41, []⟩ (by kernel_rfl) (tt 2) ?_
        refine AWP.ret ?_
        refine EvF.fin (.tup [.sc (.int .i64 0), .sc (.bool false)]) _ (by simp) (by kernel_rfl) ?_
        refine Shrink.all ?_ rfl
        (exact tupS (by grind [shapeI, leafI, whereP]) (by grind [shapeP, leafI, whereP]); done)
      · have h3' := h3
        simp only [Bool.and_eq_true, Bool.and_eq_false_iff, Bool.or_eq_true, Bool.or_eq_false_iff, Bool.not_eq_true', Bool.not_eq_false', beq_iff_eq, beq_eq_false_iff_ne, decide_eq_true_eq, decide_eq_false_iff_not, ne_eq] at h3'
        refine AWP.skip ?_
        refine AWP.seq ?_
        refine AWP.reg ?_
        refine DerQ.run (TT 2) ⟨[(I6 k), (S6 key), (S6 f), (I6 inner), (I6 a), (I6 n), (S6 t), U6, U6, U6, U6, U6, U6, U6, (I6 0), (B6 false), (I6 k), (I6 k), (B6 false), (B6 false), (I6 k), (B6 false), (B6 false), (B6 false), (S6 key), (B6 (decide (1 ≤ ByteArray.size key ∧ ByteArray.size key ≤ 64))), (B6 (!decide (1 ≤ ByteArray.size key ∧ ByteArray.size key ≤ 64))), (B6 (!decide (1 ≤ ByteArray.size key ∧ ByteArray.size key ≤ 64))), (I6 k)] ++ UU 40, []⟩ (by kernel_rfl) (tt 2) ?_
        refine AWP.seq ?_
        refine AWP.seq ?_
        refine AWP.reg ?_
        refine DerQ.run (TT 2) ⟨[(I6 k), (S6 key), (S6 f), (I6 inner), (I6 a), (I6 n), (S6 t), U6, U6, U6, U6, U6, U6, U6, (I6 0), (B6 false), (I6 k), (I6 k), (B6 false), (B6 false), (I6 k), (B6 false), (B6 false), (B6 false), (S6 key), (B6 (decide (1 ≤ ByteArray.size key ∧ ByteArray.size key ≤ 64))), (B6 (!decide (1 ≤ ByteArray.size key ∧ ByteArray.size key ≤ 64))), (B6 (!decide (1 ≤ ByteArray.size key ∧ ByteArray.size key ≤ 64))), (I6 k), (I6 k), (B6 (k == 6))] ++ UU 38, []⟩ (by kernel_rfl) (tt 2) ?_
        refine AWP.cond (b := k == 6) (by kernel_rfl) (fun h4 => ?_) (fun h4 => ?_)
        · have h4' := eq_of_beq h4
          refine AWP.seq ?_
          refine AWP.seq ?_
          refine AWP.reg ?_
          refine DerQ.pre 1 ((True) ∧ (True)) ⟨[(I6 k), (S6 key), (S6 f), (I6 inner), (I6 a), (I6 n), (S6 t), U6, U6, U6, U6, U6, U6, U6, (I6 0), (B6 false), (I6 k), (I6 k), (B6 false), (B6 false), (I6 k), (B6 false), (B6 false), (B6 false), (S6 key), (B6 (decide (1 ≤ ByteArray.size key ∧ ByteArray.size key ≤ 64))), (B6 (!decide (1 ≤ ByteArray.size key ∧ ByteArray.size key ≤ 64))), (B6 (!decide (1 ≤ ByteArray.size key ∧ ByteArray.size key ≤ 64))), (I6 k), (I6 k), (B6 (k == 6)), (S6 f)] ++ UU 37, []⟩ (by kernel_rfl) ⟨trivial, trivial⟩ ?_
          refine DerQ.callD (r_named f) ⟨[(I6 k), (S6 key), (S6 f), (I6 inner), (I6 a), (I6 n), (S6 t), U6, U6, U6, U6, U6, U6, U6, (I6 0), (B6 false), (I6 k), (I6 k), (B6 false), (B6 false), (I6 k), (B6 false), (B6 false), (B6 false), (S6 key), (B6 (decide (1 ≤ ByteArray.size key ∧ ByteArray.size key ≤ 64))), (B6 (!decide (1 ≤ ByteArray.size key ∧ ByteArray.size key ≤ 64))), (B6 (!decide (1 ≤ ByteArray.size key ∧ ByteArray.size key ≤ 64))), (I6 k), (I6 k), (B6 (k == 6)), (S6 f), (B6 (decide (1 ≤ ByteArray.size f ∧ ByteArray.size f ≤ 64)))] ++ UU 36, []⟩ ⟨by kernel_rfl, by kernel_rfl, by kernel_rfl⟩ ?_
          refine DerQ.pre 2 (TT 2) ⟨[(I6 k), (S6 key), (S6 f), (I6 inner), (I6 a), (I6 n), (S6 t), U6, U6, U6, U6, U6, U6, U6, (I6 0), (B6 false), (I6 k), (I6 k), (B6 false), (B6 false), (I6 k), (B6 false), (B6 false), (B6 false), (S6 key), (B6 (decide (1 ≤ ByteArray.size key ∧ ByteArray.size key ≤ 64))), (B6 (!decide (1 ≤ ByteArray.size key ∧ ByteArray.size key ≤ 64))), (B6 (!decide (1 ≤ ByteArray.size key ∧ ByteArray.size key ≤ 64))), (I6 k), (I6 k), (B6 (k == 6)), (S6 f), (B6 (decide (1 ≤ ByteArray.size f ∧ ByteArray.size f ≤ 64))), (B6 (!decide (1 ≤ ByteArray.size f ∧ ByteArray.size f ≤ 64))), (B6 (!decide (1 ≤ ByteArray.size f ∧ ByteArray.size f ≤ 64)))] ++ UU 34, []⟩ (by kernel_rfl) (tt 2) ?_
          cases h5 : (!decide (1 ≤ ByteArray.size f ∧ ByteArray.size f ≤ 64))
          · have h5' := h5
            simp only [Bool.and_eq_true, Bool.and_eq_false_iff, Bool.or_eq_true, Bool.or_eq_false_iff, Bool.not_eq_true', Bool.not_eq_false', beq_iff_eq, beq_eq_false_iff_ne, decide_eq_true_eq, decide_eq_false_iff_not, ne_eq] at h5'
            refine DerQ.pre 4 (TT 4) ⟨[(I6 k), (S6 key), (S6 f), (I6 inner), (I6 a), (I6 n), (S6 t), U6, U6, U6, U6, U6, U6, U6, (I6 0), (B6 false), (I6 k), (I6 k), (B6 false), (B6 false), (I6 k), (B6 false), (B6 false), (B6 false), (S6 key), (B6 (decide (1 ≤ ByteArray.size key ∧ ByteArray.size key ≤ 64))), (B6 (!decide (1 ≤ ByteArray.size key ∧ ByteArray.size key ≤ 64))), (B6 (!decide (1 ≤ ByteArray.size key ∧ ByteArray.size key ≤ 64))), (I6 k), (I6 k), (B6 (k == 6)), (S6 f), (B6 (decide (1 ≤ ByteArray.size f ∧ ByteArray.size f ≤ 64))), (B6 false), (B6 false), (I6 inner), (B6 (decide (inner < 1))), (B6 (decide (inner < 1))), (B6 (decide (inner < 1)))] ++ UU 30, []⟩ (by kernel_rfl) (tt 4) ?_
            cases h6 : (decide (inner < 1))
            · have h6' := of_decide_eq_false h6
              refine DerQ.run (TT 3) ⟨[(I6 k), (S6 key), (S6 f), (I6 inner), (I6 a), (I6 n), (S6 t), U6, U6, U6, U6, U6, U6, U6, (I6 0), (B6 false), (I6 k), (I6 k), (B6 false), (B6 false), (I6 k), (B6 false), (B6 false), (B6 false), (S6 key), (B6 (decide (1 ≤ ByteArray.size key ∧ ByteArray.size key ≤ 64))), (B6 (!decide (1 ≤ ByteArray.size key ∧ ByteArray.size key ≤ 64))), (B6 (!decide (1 ≤ ByteArray.size key ∧ ByteArray.size key ≤ 64))), (I6 k), (I6 k), (B6 (k == 6)), (S6 f), (B6 (decide (1 ≤ ByteArray.size f ∧ ByteArray.size f ≤ 64))), (B6 false), (B6 false), (I6 inner), (B6 false), (B6 false), (B6 false), (I6 inner), (B6 (decide (inner > 5))), (B6 (decide (inner > 5)))] ++ UU 27, []⟩ (by kernel_rfl) (tt 3) ?_
              refine AWP.cond (b := decide (inner > 5)) (by kernel_rfl) (fun h7 => ?_) (fun h7 => ?_)
              · have h7' := of_decide_eq_true h7
                refine AWP.seq ?_
                refine AWP.reg ?_
                refine DerQ.run (TT 2) ⟨[(I6 k), (S6 key), (S6 f), (I6 inner), (I6 a), (I6 n), (S6 t), U6, U6, U6, U6, U6, U6, U6, (I6 0), (B6 false), (I6 k), (I6 k), (B6 false), (B6 false), (I6 k), (B6 false), (B6 false), (B6 false), (S6 key), (B6 (decide (1 ≤ ByteArray.size key ∧ ByteArray.size key ≤ 64))), (B6 (!decide (1 ≤ ByteArray.size key ∧ ByteArray.size key ≤ 64))), (B6 (!decide (1 ≤ ByteArray.size key ∧ ByteArray.size key ≤ 64))), (I6 k), (I6 k), (B6 (k == 6)), (S6 f), (B6 (decide (1 ≤ ByteArray.size f ∧ ByteArray.size f ≤ 64))), (B6 false), (B6 false), (I6 inner), (B6 false), (B6 false), (B6 false), (I6 inner), (B6 (decide (inner > 5))), (B6 (decide (inner > 5)))] ++ UU 27, []⟩ (by kernel_rfl) (tt 2) ?_
                refine AWP.ret ?_
                refine EvF.fin (.tup [.sc (.int .i64 0), .sc (.bool false)]) _ (by simp) (by kernel_rfl) ?_
                refine Shrink.all ?_ rfl
                (exact tupS (by grind [shapeI, leafI, whereP]) (by grind [shapeP, leafI, whereP]); done)
              · have h7' := of_decide_eq_false h7
                refine AWP.skip ?_
                refine AWP.seq ?_
                refine AWP.reg ?_
                refine DerQ.run (TT 2) ⟨[(I6 k), (S6 key), (S6 f), (I6 inner), (I6 a), (I6 n), (S6 t), U6, U6, U6, U6, U6, U6, U6, (I6 0), (B6 false), (I6 inner), (I6 k), (B6 false), (B6 false), (I6 k), (B6 false), (B6 false), (B6 false), (S6 key), (B6 (decide (1 ≤ ByteArray.size key ∧ ByteArray.size key ≤ 64))), (B6 (!decide (1 ≤ ByteArray.size key ∧ ByteArray.size key ≤ 64))), (B6 (!decide (1 ≤ ByteArray.size key ∧ ByteArray.size key ≤ 64))), (I6 k), (I6 k), (B6 (k == 6)), (S6 f), (B6 (decide (1 ≤ ByteArray.size f ∧ ByteArray.size f ≤ 64))), (B6 false), (B6 false), (I6 inner), (B6 false), (B6 false), (B6 false), (I6 inner), (B6 (decide (inner > 5))), (B6 (decide (inner > 5))), (I6 inner)] ++ UU 26, []⟩ (by kernel_rfl) (tt 2) ?_
                refine AWP.seq ?_
                refine AWP.reg ?_
                refine DerQ.run (TT 2) ⟨[(I6 k), (S6 key), (S6 f), (I6 inner), (I6 a), (I6 n), (S6 t), U6, U6, U6, U6, U6, U6, U6, (I6 0), (B6 false), (I6 inner), (I6 k), (B6 false), (B6 false), (I6 k), (B6 false), (B6 false), (B6 false), (S6 key), (B6 (decide (1 ≤ ByteArray.size key ∧ ByteArray.size key ≤ 64))), (B6 (!decide (1 ≤ ByteArray.size key ∧ ByteArray.size key ≤ 64))), (B6 (!decide (1 ≤ ByteArray.size key ∧ ByteArray.size key ≤ 64))), (I6 k), (I6 k), (B6 (k == 6)), (S6 f), (B6 (decide (1 ≤ ByteArray.size f ∧ ByteArray.size f ≤ 64))), (B6 false), (B6 false), (I6 inner), (B6 false), (B6 false), (B6 false), (I6 inner), (B6 (decide (inner > 5))), (B6 (decide (inner > 5))), (I6 inner), (I6 a), (B6 (a == 5))] ++ UU 24, []⟩ (by kernel_rfl) (tt 2) ?_
                refine AWP.cond (b := a == 5) (by kernel_rfl) (fun h8 => ?_) (fun h8 => ?_)
                · have h8' := eq_of_beq h8
                  refine AWP.seq ?_
                  refine AWP.reg ?_
                  refine DerQ.pre 4 (TT 4) ⟨[(I6 k), (S6 key), (S6 f), (I6 inner), (I6 a), (I6 n), (S6 t), U6, U6, U6, U6, U6, U6, U6, (I6 0), (B6 false), (I6 inner), (I6 k), (B6 false), (B6 false), (I6 k), (B6 false), (B6 false), (B6 false), (S6 key), (B6 (decide (1 ≤ ByteArray.size key ∧ ByteArray.size key ≤ 64))), (B6 (!decide (1 ≤ ByteArray.size key ∧ ByteArray.size key ≤ 64))), (B6 (!decide (1 ≤ ByteArray.size key ∧ ByteArray.size key ≤ 64))), (I6 k), (I6 k), (B6 (k == 6)), (S6 f), (B6 (decide (1 ≤ ByteArray.size f ∧ ByteArray.size f ≤ 64))), (B6 false), (B6 false), (I6 inner), (B6 false), (B6 false), (B6 false), (I6 inner), (B6 (decide (inner > 5))), (B6 (decide (inner > 5))), (I6 inner), (I6 a), (B6 (a == 5)), (I6 inner), (I6 n), (B6 (n == 0)), (B6 (n == 0))] ++ UU 20, []⟩ (by kernel_rfl) (tt 4) ?_
                  cases h9 : (n == 0)
                  · have h9' := ne_of_beq_false h9
                    refine DerQ.run (TT 3) ⟨[(I6 k), (S6 key), (S6 f), (I6 inner), (I6 a), (I6 n), (S6 t), U6, U6, U6, U6, U6, U6, U6, (I6 inner), (B6 false), (I6 inner), (I6 k), (B6 false), (B6 false), (I6 k), (B6 false), (B6 false), (B6 false), (S6 key), (B6 (decide (1 ≤ ByteArray.size key ∧ ByteArray.size key ≤ 64))), (B6 (!decide (1 ≤ ByteArray.size key ∧ ByteArray.size key ≤ 64))), (B6 (!decide (1 ≤ ByteArray.size key ∧ ByteArray.size key ≤ 64))), (I6 k), (I6 k), (B6 (k == 6)), (S6 f), (B6 (decide (1 ≤ ByteArray.size f ∧ ByteArray.size f ≤ 64))), (B6 false), (B6 false), (I6 inner), (B6 false), (B6 false), (B6 false), (I6 inner), (B6 (decide (inner > 5))), (B6 (decide (inner > 5))), (I6 inner), (I6 a), (B6 (a == 5)), (I6 inner), (I6 n), (B6 false), (B6 false), .tup [], .tup [], (B6 false)] ++ UU 17, []⟩ (by kernel_rfl) (tt 3) ?_
                    refine AWP.ret ?_
                    refine EvF.fin (.tup [.sc (.int .i64 (inner)), .sc (.bool false)]) _ (by simp) (by kernel_rfl) ?_
                    refine Shrink.all ?_ rfl
                    (exact tupS (by grind [shapeI, leafI, whereP]) (by grind [shapeP, leafI, whereP]); done)
                  · have h9' := eq_of_beq h9
                    refine DerQ.run (TT 5) ⟨[(I6 k), (S6 key), (S6 f), (I6 inner), (I6 a), (I6 n), (S6 t), U6, U6, U6, U6, U6, U6, U6, (I6 inner), (B6 (ByteArray.toList t == ByteArray.toList { data := #[] })), (I6 inner), (I6 k), (B6 false), (B6 false), (I6 k), (B6 false), (B6 false), (B6 false), (S6 key), (B6 (decide (1 ≤ ByteArray.size key ∧ ByteArray.size key ≤ 64))), (B6 (!decide (1 ≤ ByteArray.size key ∧ ByteArray.size key ≤ 64))), (B6 (!decide (1 ≤ ByteArray.size key ∧ ByteArray.size key ≤ 64))), (I6 k), (I6 k), (B6 (k == 6)), (S6 f), (B6 (decide (1 ≤ ByteArray.size f ∧ ByteArray.size f ≤ 64))), (B6 false), (B6 false), (I6 inner), (B6 false), (B6 false), (B6 false), (I6 inner), (B6 (decide (inner > 5))), (B6 (decide (inner > 5))), (I6 inner), (I6 a), (B6 (a == 5)), (I6 inner), (I6 n), (B6 true), (B6 true), (S6 t), (B6 (ByteArray.toList t == ByteArray.toList { data := #[] })), (B6 (ByteArray.toList t == ByteArray.toList { data := #[] }))] ++ UU 17, []⟩ (by kernel_rfl) (tt 5) ?_
                    rw [Go.Abs.nil_beq (t)]
                    refine AWP.ret ?_
                    refine EvF.fin (.tup [.sc (.int .i64 (inner)), .sc (.bool (decide (ByteArray.size t = 0)))]) _ (by simp) (by kernel_rfl) ?_
                    refine Shrink.all ?_ rfl
                    (exact tupS (by grind [shapeI, leafI, whereP]) (by grind [shapeP, leafI, whereP]); done)
                · have h8' := ne_of_beq_false h8
                  refine AWP.skip ?_
                  refine AWP.seq ?_
                  refine AWP.reg ?_
                  refine DerQ.pre 4 (TT 4) ⟨[(I6 k), (S6 key), (S6 f), (I6 inner), (I6 a), (I6 n), (S6 t), U6, U6, U6, U6, U6, U6, U6, (I6 0), (B6 false), (I6 inner), (I6 k), (B6 false), (B6 false), (I6 k), (B6 false), (B6 false), (B6 false), (S6 key), (B6 (decide (1 ≤ ByteArray.size key ∧ ByteArray.size key ≤ 64))), (B6 (!decide (1 ≤ ByteArray.size key ∧ ByteArray.size key ≤ 64))), (B6 (!decide (1 ≤ ByteArray.size key ∧ ByteArray.size key ≤ 64))), (I6 k), (I6 k), (B6 (k == 6)), (S6 f), (B6 (decide (1 ≤ ByteArray.size f ∧ ByteArray.size f ≤ 64))), (B6 false), (B6 false), (I6 inner), (B6 false), (B6 false), (B6 false), (I6 inner), (B6 (decide (inner > 5))), (B6 (decide (inner > 5))), (I6 inner), (I6 a), (B6 (a == 5)), U6, U6, U6, U6, U6, U6, U6, U6, U6, U6, U6, U6, U6, (I6 inner), (I6 inner), (I6 a), (I6 n)] ++ UU 7, []⟩ (by kernel_rfl) (tt 4) ?_
                  refine DerQ.callD (r_fits inner a n) ⟨[(I6 k), (S6 key), (S6 f), (I6 inner), (I6 a), (I6 n), (S6 t), U6, U6, U6, U6, U6, U6, U6, (I6 0), (B6 false), (I6 inner), (I6 k), (B6 false), (B6 false), (I6 k), (B6 false), (B6 false), (B6 false), (S6 key), (B6 (decide (1 ≤ ByteArray.size key ∧ ByteArray.size key ≤ 64))), (B6 (!decide (1 ≤ ByteArray.size key ∧ ByteArray.size key ≤ 64))), (B6 (!decide (1 ≤ ByteArray.size key ∧ ByteArray.size key ≤ 64))), (I6 k), (I6 k), (B6 (k == 6)), (S6 f), (B6 (decide (1 ≤ ByteArray.size f ∧ ByteArray.size f ≤ 64))), (B6 false), (B6 false), (I6 inner), (B6 false), (B6 false), (B6 false), (I6 inner), (B6 (decide (inner > 5))), (B6 (decide (inner > 5))), (I6 inner), (I6 a), (B6 (a == 5)), U6, U6, U6, U6, U6, U6, U6, U6, U6, U6, U6, U6, U6, (I6 inner), (I6 inner), (I6 a), (I6 n), (B6 (decide (rfitP inner a n)))] ++ UU 6, []⟩ ⟨by kernel_rfl, by kernel_rfl, by kernel_rfl⟩ ?_
                  refine DerQ.pre 1 ((True) ∧ (True)) ⟨[(I6 k), (S6 key), (S6 f), (I6 inner), (I6 a), (I6 n), (S6 t), U6, U6, U6, U6, U6, U6, U6, (I6 0), (B6 false), (I6 inner), (I6 k), (B6 false), (B6 false), (I6 k), (B6 false), (B6 false), (B6 false), (S6 key), (B6 (decide (1 ≤ ByteArray.size key ∧ ByteArray.size key ≤ 64))), (B6 (!decide (1 ≤ ByteArray.size key ∧ ByteArray.size key ≤ 64))), (B6 (!decide (1 ≤ ByteArray.size key ∧ ByteArray.size key ≤ 64))), (I6 k), (I6 k), (B6 (k == 6)), (S6 f), (B6 (decide (1 ≤ ByteArray.size f ∧ ByteArray.size f ≤ 64))), (B6 false), (B6 false), (I6 inner), (B6 false), (B6 false), (B6 false), (I6 inner), (B6 (decide (inner > 5))), (B6 (decide (inner > 5))), (I6 inner), (I6 a), (B6 (a == 5)), U6, U6, U6, U6, U6, U6, U6, U6, U6, U6, U6, U6, U6, (I6 inner), (I6 inner), (I6 a), (I6 n), (B6 (decide (rfitP inner a n))), (B6 (decide (rfitP inner a n)))] ++ UU 5, []⟩ (by kernel_rfl) ⟨trivial, trivial⟩ ?_
                  cases h9 : (decide (rfitP inner a n))
                  · have h9' := of_decide_eq_false h9
                    refine DerQ.run (TT 3) ⟨[(I6 k), (S6 key), (S6 f), (I6 inner), (I6 a), (I6 n), (S6 t), U6, U6, U6, U6, U6, U6, U6, (I6 inner), (B6 false), (I6 inner), (I6 k), (B6 false), (B6 false), (I6 k), (B6 false), (B6 false), (B6 false), (S6 key), (B6 (decide (1 ≤ ByteArray.size key ∧ ByteArray.size key ≤ 64))), (B6 (!decide (1 ≤ ByteArray.size key ∧ ByteArray.size key ≤ 64))), (B6 (!decide (1 ≤ ByteArray.size key ∧ ByteArray.size key ≤ 64))), (I6 k), (I6 k), (B6 (k == 6)), (S6 f), (B6 (decide (1 ≤ ByteArray.size f ∧ ByteArray.size f ≤ 64))), (B6 false), (B6 false), (I6 inner), (B6 false), (B6 false), (B6 false), (I6 inner), (B6 (decide (inner > 5))), (B6 (decide (inner > 5))), (I6 inner), (I6 a), (B6 (a == 5)), U6, U6, U6, U6, U6, U6, U6, U6, U6, U6, U6, U6, U6, (I6 inner), (I6 inner), (I6 a), (I6 n), (B6 false), (B6 false), .tup [], .tup [], .tup [], .tup [], (B6 false)], []⟩ (by kernel_rfl) (tt 3) ?_
                    refine AWP.ret ?_
                    refine EvF.fin (.tup [.sc (.int .i64 (inner)), .sc (.bool false)]) _ (by simp) (by kernel_rfl) ?_
                    refine Shrink.all ?_ rfl
                    (exact tupS (by grind [shapeI, leafI, whereP]) (by grind [shapeP, leafI, whereP]); done)
                  · have h9' := of_decide_eq_true h9
                    refine DerQ.pre 3 (TT 3) ⟨[(I6 k), (S6 key), (S6 f), (I6 inner), (I6 a), (I6 n), (S6 t), U6, U6, U6, U6, U6, U6, U6, (I6 0), (B6 false), (I6 inner), (I6 k), (B6 false), (B6 false), (I6 k), (B6 false), (B6 false), (B6 false), (S6 key), (B6 (decide (1 ≤ ByteArray.size key ∧ ByteArray.size key ≤ 64))), (B6 (!decide (1 ≤ ByteArray.size key ∧ ByteArray.size key ≤ 64))), (B6 (!decide (1 ≤ ByteArray.size key ∧ ByteArray.size key ≤ 64))), (I6 k), (I6 k), (B6 (k == 6)), (S6 f), (B6 (decide (1 ≤ ByteArray.size f ∧ ByteArray.size f ≤ 64))), (B6 false), (B6 false), (I6 inner), (B6 false), (B6 false), (B6 false), (I6 inner), (B6 (decide (inner > 5))), (B6 (decide (inner > 5))), (I6 inner), (I6 a), (B6 (a == 5)), U6, U6, U6, U6, U6, U6, U6, U6, U6, U6, U6, U6, U6, (I6 inner), (I6 inner), (I6 a), (I6 n), (B6 true), (B6 true), (I6 inner), (I6 a), (S6 t), U6, .undef], []⟩ (by kernel_rfl) (tt 3) ?_
                    refine DerQ.callD (r_texts inner a t) ⟨[(I6 k), (S6 key), (S6 f), (I6 inner), (I6 a), (I6 n), (S6 t), U6, U6, U6, U6, U6, U6, U6, (I6 0), (B6 false), (I6 inner), (I6 k), (B6 false), (B6 false), (I6 k), (B6 false), (B6 false), (B6 false), (S6 key), (B6 (decide (1 ≤ ByteArray.size key ∧ ByteArray.size key ≤ 64))), (B6 (!decide (1 ≤ ByteArray.size key ∧ ByteArray.size key ≤ 64))), (B6 (!decide (1 ≤ ByteArray.size key ∧ ByteArray.size key ≤ 64))), (I6 k), (I6 k), (B6 (k == 6)), (S6 f), (B6 (decide (1 ≤ ByteArray.size f ∧ ByteArray.size f ≤ 64))), (B6 false), (B6 false), (I6 inner), (B6 false), (B6 false), (B6 false), (I6 inner), (B6 (decide (inner > 5))), (B6 (decide (inner > 5))), (I6 inner), (I6 a), (B6 (a == 5)), U6, U6, U6, U6, U6, U6, U6, U6, U6, U6, U6, U6, U6, (I6 inner), (I6 inner), (I6 a), (I6 n), (B6 true), (B6 true), (I6 inner), (I6 a), (S6 t), (B6 (decide (rtextP inner a t))), .undef], []⟩ ⟨by kernel_rfl, by kernel_rfl, by kernel_rfl⟩ ?_
                    refine DerQ.run (TT 3) ⟨[(I6 k), (S6 key), (S6 f), (I6 inner), (I6 a), (I6 n), (S6 t), U6, U6, U6, U6, U6, U6, U6, (I6 inner), (B6 (decide (rtextP inner a t))), (I6 inner), (I6 k), (B6 false), (B6 false), (I6 k), (B6 false), (B6 false), (B6 false), (S6 key), (B6 (decide (1 ≤ ByteArray.size key ∧ ByteArray.size key ≤ 64))), (B6 (!decide (1 ≤ ByteArray.size key ∧ ByteArray.size key ≤ 64))), (B6 (!decide (1 ≤ ByteArray.size key ∧ ByteArray.size key ≤ 64))), (I6 k), (I6 k), (B6 (k == 6)), (S6 f), (B6 (decide (1 ≤ ByteArray.size f ∧ ByteArray.size f ≤ 64))), (B6 false), (B6 false), (I6 inner), (B6 false), (B6 false), (B6 false), (I6 inner), (B6 (decide (inner > 5))), (B6 (decide (inner > 5))), (I6 inner), (I6 a), (B6 (a == 5)), U6, U6, U6, U6, U6, U6, U6, U6, U6, U6, U6, U6, U6, (I6 inner), (I6 inner), (I6 a), (I6 n), (B6 true), (B6 true), (I6 inner), (I6 a), (S6 t), (B6 (decide (rtextP inner a t))), (B6 (decide (rtextP inner a t)))], []⟩ (by kernel_rfl) (tt 3) ?_
                    refine AWP.ret ?_
                    refine EvF.fin (.tup [.sc (.int .i64 (inner)), .sc (.bool (decide (rtextP inner a t)))]) _ (by simp) (by kernel_rfl) ?_
                    refine Shrink.all ?_ rfl
                    (exact tupS (by grind [shapeI, leafI, whereP]) (by grind [shapeP, leafI, whereP]); done)
            · have h6' := of_decide_eq_true h6
              refine DerQ.run ((True) ∧ (True)) ⟨[(I6 k), (S6 key), (S6 f), (I6 inner), (I6 a), (I6 n), (S6 t), U6, U6, U6, U6, U6, U6, U6, (I6 0), (B6 false), (I6 k), (I6 k), (B6 false), (B6 false), (I6 k), (B6 false), (B6 false), (B6 false), (S6 key), (B6 (decide (1 ≤ ByteArray.size key ∧ ByteArray.size key ≤ 64))), (B6 (!decide (1 ≤ ByteArray.size key ∧ ByteArray.size key ≤ 64))), (B6 (!decide (1 ≤ ByteArray.size key ∧ ByteArray.size key ≤ 64))), (I6 k), (I6 k), (B6 (k == 6)), (S6 f), (B6 (decide (1 ≤ ByteArray.size f ∧ ByteArray.size f ≤ 64))), (B6 false), (B6 false), (I6 inner), (B6 true), (B6 true), (B6 true), .tup [], .tup [], (B6 true)] ++ UU 27, []⟩ (by kernel_rfl) ⟨trivial, trivial⟩ ?_
              refine AWP.cond (b := true) (by kernel_rfl) (fun _ => ?_) (fun h => nomatch h)
              refine AWP.seq ?_
              refine AWP.reg ?_
              refine DerQ.run (TT 2) ⟨[(I6 k), (S6 key), (S6 f), (I6 inner), (I6 a), (I6 n), (S6 t), U6, U6, U6, U6, U6, U6, U6, (I6 0), (B6 false), (I6 k), (I6 k), (B6 false), (B6 false), (I6 k), (B6 false), (B6 false), (B6 false), (S6 key), (B6 (decide (1 ≤ ByteArray.size key ∧ ByteArray.size key ≤ 64))), (B6 (!decide (1 ≤ ByteArray.size key ∧ ByteArray.size key ≤ 64))), (B6 (!decide (1 ≤ ByteArray.size key ∧ ByteArray.size key ≤ 64))), (I6 k), (I6 k), (B6 (k == 6)), (S6 f), (B6 (decide (1 ≤ ByteArray.size f ∧ ByteArray.size f ≤ 64))), (B6 false), (B6 false), (I6 inner), (B6 true), (B6 true), (B6 true), .tup [], .tup [], (B6 true)] ++ UU 27, []⟩ (by kernel_rfl) (tt 2) ?_
              refine AWP.ret ?_
              refine EvF.fin (.tup [.sc (.int .i64 0), .sc (.bool false)]) _ (by simp) (by kernel_rfl) ?_
              refine Shrink.all ?_ rfl
              (exact tupS (by grind [shapeI, leafI, whereP]) (by grind [shapeP, leafI, whereP]); done)
          · have h5' := h5
            simp only [Bool.and_eq_true, Bool.and_eq_false_iff, Bool.or_eq_true, Bool.or_eq_false_iff, Bool.not_eq_true', Bool.not_eq_false', beq_iff_eq, beq_eq_false_iff_ne, decide_eq_true_eq, decide_eq_false_iff_not, ne_eq] at h5'
            refine DerQ.run (TT 3) ⟨[(I6 k), (S6 key), (S6 f), (I6 inner), (I6 a), (I6 n), (S6 t), U6, U6, U6, U6, U6, U6, U6, (I6 0), (B6 false), (I6 k), (I6 k), (B6 false), (B6 false), (I6 k), (B6 false), (B6 false), (B6 false), (S6 key), (B6 (decide (1 ≤ ByteArray.size key ∧ ByteArray.size key ≤ 64))), (B6 (!decide (1 ≤ ByteArray.size key ∧ ByteArray.size key ≤ 64))), (B6 (!decide (1 ≤ ByteArray.size key ∧ ByteArray.size key ≤ 64))), (I6 k), (I6 k), (B6 (k == 6)), (S6 f), (B6 (decide (1 ≤ ByteArray.size f ∧ ByteArray.size f ≤ 64))), (B6 true), (B6 true), .tup [], .tup [], (B6 true), (B6 true), .tup [], .tup [], (B6 true)] ++ UU 27, []⟩ (by kernel_rfl) (tt 3) ?_
            refine AWP.cond (b := true) (by kernel_rfl) (fun _ => ?_) (fun h => nomatch h)
            refine AWP.seq ?_
            refine AWP.reg ?_
            refine DerQ.run (TT 2) ⟨[(I6 k), (S6 key), (S6 f), (I6 inner), (I6 a), (I6 n), (S6 t), U6, U6, U6, U6, U6, U6, U6, (I6 0), (B6 false), (I6 k), (I6 k), (B6 false), (B6 false), (I6 k), (B6 false), (B6 false), (B6 false), (S6 key), (B6 (decide (1 ≤ ByteArray.size key ∧ ByteArray.size key ≤ 64))), (B6 (!decide (1 ≤ ByteArray.size key ∧ ByteArray.size key ≤ 64))), (B6 (!decide (1 ≤ ByteArray.size key ∧ ByteArray.size key ≤ 64))), (I6 k), (I6 k), (B6 (k == 6)), (S6 f), (B6 (decide (1 ≤ ByteArray.size f ∧ ByteArray.size f ≤ 64))), (B6 true), (B6 true), .tup [], .tup [], (B6 true), (B6 true), .tup [], .tup [], (B6 true)] ++ UU 27, []⟩ (by kernel_rfl) (tt 2) ?_
            refine AWP.ret ?_
            refine EvF.fin (.tup [.sc (.int .i64 0), .sc (.bool false)]) _ (by simp) (by kernel_rfl) ?_
            refine Shrink.all ?_ rfl
            (exact tupS (by grind [shapeI, leafI, whereP]) (by grind [shapeP, leafI, whereP]); done)
        · have h4' := ne_of_beq_false h4
          refine AWP.seq ?_
          refine AWP.reg ?_
          refine DerQ.pre 3 (TT 3) ⟨[(I6 k), (S6 key), (S6 f), (I6 inner), (I6 a), (I6 n), (S6 t), U6, U6, U6, U6, U6, U6, U6, (I6 0), (B6 false), (I6 k), (I6 k), (B6 false), (B6 false), (I6 k), (B6 false), (B6 false), (B6 false), (S6 key), (B6 (decide (1 ≤ ByteArray.size key ∧ ByteArray.size key ≤ 64))), (B6 (!decide (1 ≤ ByteArray.size key ∧ ByteArray.size key ≤ 64))), (B6 (!decide (1 ≤ ByteArray.size key ∧ ByteArray.size key ≤ 64))), (I6 k), (I6 k), (B6 (k == 6)), U6, U6, U6, U6, U6, U6, U6, U6, U6, U6, U6, U6, U6, U6, U6, U6, U6, U6, U6, U6, U6, (S6 f), (B6 (!ByteArray.toList f == ByteArray.toList { data := #[] })), (B6 (!ByteArray.toList f == ByteArray.toList { data := #[] }))] ++ UU 14, []⟩ (by kernel_rfl) (tt 3) ?_
          rw [Go.Abs.nil_beq (f)]
          cases h5 : (!decide (ByteArray.size f = 0))
          · have h5' := h5
            simp only [Bool.and_eq_true, Bool.and_eq_false_iff, Bool.or_eq_true, Bool.or_eq_false_iff, Bool.not_eq_true', Bool.not_eq_false', beq_iff_eq, beq_eq_false_iff_ne, decide_eq_true_eq, decide_eq_false_iff_not, ne_eq] at h5'
            refine DerQ.run (TT 3) ⟨[(I6 k), (S6 key), (S6 f), (I6 inner), (I6 a), (I6 n), (S6 t), U6, U6, U6, U6, U6, U6, U6, (I6 0), (B6 false), (I6 k), (I6 k), (B6 false), (B6 false), (I6 k), (B6 false), (B6 false), (B6 false), (S6 key), (B6 (decide (1 ≤ ByteArray.size key ∧ ByteArray.size key ≤ 64))), (B6 (!decide (1 ≤ ByteArray.size key ∧ ByteArray.size key ≤ 64))), (B6 (!decide (1 ≤ ByteArray.size key ∧ ByteArray.size key ≤ 64))), (I6 k), (I6 k), (B6 (k == 6)), U6, U6, U6, U6, U6, U6, U6, U6, U6, U6, U6, U6, U6, U6, U6, U6, U6, U6, U6, U6, U6, (S6 f), (B6 false), (B6 false), (I6 inner), (B6 (inner != 0)), (B6 (inner != 0))] ++ UU 11, []⟩ (by kernel_rfl) (tt 3) ?_
            refine AWP.cond (b := inner != 0) (by kernel_rfl) (fun h6 => ?_) (fun h6 => ?_)
            · have h6' := bne_iff_ne.1 h6
              refine AWP.seq ?_
              refine AWP.reg ?_
              refine DerQ.run (TT 2) ⟨[(I6 k), (S6 key), (S6 f), (I6 inner), (I6 a), (I6 n), (S6 t), U6, U6, U6, U6, U6, U6, U6, (I6 0), (B6 false), (I6 k), (I6 k), (B6 false), (B6 false), (I6 k), (B6 false), (B6 false), (B6 false), (S6 key), (B6 (decide (1 ≤ ByteArray.size key ∧ ByteArray.size key ≤ 64))), (B6 (!decide (1 ≤ ByteArray.size key ∧ ByteArray.size key ≤ 64))), (B6 (!decide (1 ≤ ByteArray.size key ∧ ByteArray.size key ≤ 64))), (I6 k), (I6 k), (B6 (k == 6)), U6, U6, U6, U6, U6, U6, U6, U6, U6, U6, U6, U6, U6, U6, U6, U6, U6, U6, U6, U6, U6, (S6 f), (B6 false), (B6 false), (I6 inner), (B6 (inner != 0)), (B6 (inner != 0))] ++ UU 11, []⟩ (by kernel_rfl) (tt 2) ?_
              refine AWP.ret ?_
              refine EvF.fin (.tup [.sc (.int .i64 0), .sc (.bool false)]) _ (by simp) (by kernel_rfl) ?_
              refine Shrink.all ?_ rfl
              (exact tupS (by grind [shapeI, leafI, whereP]) (by grind [shapeP, leafI, whereP]); done)
            · have h6' := bne_eq_false_iff_eq.1 h6
              refine AWP.skip ?_
              refine AWP.seq ?_
              refine AWP.reg ?_
              refine DerQ.pre 4 (TT 4) ⟨[(I6 k), (S6 key), (S6 f), (I6 inner), (I6 a), (I6 n), (S6 t), U6, U6, U6, U6, U6, U6, U6, (I6 0), (B6 false), (I6 k), (I6 k), (B6 false), (B6 false), (I6 k), (B6 false), (B6 false), (B6 false), (S6 key), (B6 (decide (1 ≤ ByteArray.size key ∧ ByteArray.size key ≤ 64))), (B6 (!decide (1 ≤ ByteArray.size key ∧ ByteArray.size key ≤ 64))), (B6 (!decide (1 ≤ ByteArray.size key ∧ ByteArray.size key ≤ 64))), (I6 k), (I6 k), (B6 (k == 6)), U6, U6, U6, U6, U6, U6, U6, U6, U6, U6, U6, U6, U6, U6, U6, U6, U6, U6, U6, U6, U6, (S6 f), (B6 false), (B6 false), (I6 inner), (B6 (inner != 0)), (B6 (inner != 0)), (I6 k), (I6 k), (I6 a), (I6 n)] ++ UU 7, []⟩ (by kernel_rfl) (tt 4) ?_
              refine DerQ.callD (r_fits k a n) ⟨[(I6 k), (S6 key), (S6 f), (I6 inner), (I6 a), (I6 n), (S6 t), U6, U6, U6, U6, U6, U6, U6, (I6 0), (B6 false), (I6 k), (I6 k), (B6 false), (B6 false), (I6 k), (B6 false), (B6 false), (B6 false), (S6 key), (B6 (decide (1 ≤ ByteArray.size key ∧ ByteArray.size key ≤ 64))), (B6 (!decide (1 ≤ ByteArray.size key ∧ ByteArray.size key ≤ 64))), (B6 (!decide (1 ≤ ByteArray.size key ∧ ByteArray.size key ≤ 64))), (I6 k), (I6 k), (B6 (k == 6)), U6, U6, U6, U6, U6, U6, U6, U6, U6, U6, U6, U6, U6, U6, U6, U6, U6, U6, U6, U6, U6, (S6 f), (B6 false), (B6 false), (I6 inner), (B6 (inner != 0)), (B6 (inner != 0)), (I6 k), (I6 k), (I6 a), (I6 n), (B6 (decide (rfitP k a n)))] ++ UU 6, []⟩ ⟨by kernel_rfl, by kernel_rfl, by kernel_rfl⟩ ?_
              refine DerQ.pre 1 ((True) ∧ (True)) ⟨[(I6 k), (S6 key), (S6 f), (I6 inner), (I6 a), (I6 n), (S6 t), U6, U6, U6, U6, U6, U6, U6, (I6 0), (B6 false), (I6 k), (I6 k), (B6 false), (B6 false), (I6 k), (B6 false), (B6 false), (B6 false), (S6 key), (B6 (decide (1 ≤ ByteArray.size key ∧ ByteArray.size key ≤ 64))), (B6 (!decide (1 ≤ ByteArray.size key ∧ ByteArray.size key ≤ 64))), (B6 (!decide (1 ≤ ByteArray.size key ∧ ByteArray.size key ≤ 64))), (I6 k), (I6 k), (B6 (k == 6)), U6, U6, U6, U6, U6, U6, U6, U6, U6, U6, U6, U6, U6, U6, U6, U6, U6, U6, U6, U6, U6, (S6 f), (B6 false), (B6 false), (I6 inner), (B6 (inner != 0)), (B6 (inner != 0)), (I6 k), (I6 k), (I6 a), (I6 n), (B6 (decide (rfitP k a n))), (B6 (decide (rfitP k a n)))] ++ UU 5, []⟩ (by kernel_rfl) ⟨trivial, trivial⟩ ?_
              cases h7 : (decide (rfitP k a n))
              · have h7' := of_decide_eq_false h7
                refine DerQ.run (TT 3) ⟨[(I6 k), (S6 key), (S6 f), (I6 inner), (I6 a), (I6 n), (S6 t), U6, U6, U6, U6, U6, U6, U6, (I6 k), (B6 false), (I6 k), (I6 k), (B6 false), (B6 false), (I6 k), (B6 false), (B6 false), (B6 false), (S6 key), (B6 (decide (1 ≤ ByteArray.size key ∧ ByteArray.size key ≤ 64))), (B6 (!decide (1 ≤ ByteArray.size key ∧ ByteArray.size key ≤ 64))), (B6 (!decide (1 ≤ ByteArray.size key ∧ ByteArray.size key ≤ 64))), (I6 k), (I6 k), (B6 (k == 6)), U6, U6, U6, U6, U6, U6, U6, U6, U6, U6, U6, U6, U6, U6, U6, U6, U6, U6, U6, U6, U6, (S6 f), (B6 false), (B6 false), (I6 inner), (B6 (inner != 0)), (B6 (inner != 0)), (I6 k), (I6 k), (I6 a), (I6 n), (B6 false), (B6 false), .tup [], .tup [], .tup [], .tup [], (B6 false)], []⟩ (by kernel_rfl) (tt 3) ?_
                refine AWP.ret ?_
                refine EvF.fin (.tup [.sc (.int .i64 (k)), .sc (.bool false)]) _ (by simp) (by kernel_rfl) ?_
                refine Shrink.all ?_ rfl
                (exact tupS (by grind [shapeI, leafI, whereP]) (by grind [shapeP, leafI, whereP]); done)
              · have h7' := of_decide_eq_true h7
                refine DerQ.pre 3 (TT 3) ⟨[(I6 k), (S6 key), (S6 f), (I6 inner), (I6 a), (I6 n), (S6 t), U6, U6, U6, U6, U6, U6, U6, (I6 0), (B6 false), (I6 k), (I6 k), (B6 false), (B6 false), (I6 k), (B6 false), (B6 false), (B6 false), (S6 key), (B6 (decide (1 ≤ ByteArray.size key ∧ ByteArray.size key ≤ 64))), (B6 (!decide (1 ≤ ByteArray.size key ∧ ByteArray.size key ≤ 64))), (B6 (!decide (1 ≤ ByteArray.size key ∧ ByteArray.size key ≤ 64))), (I6 k), (I6 k), (B6 (k == 6)), U6, U6, U6, U6, U6, U6, U6, U6, U6, U6, U6, U6, U6, U6, U6, U6, U6, U6, U6, U6, U6, (S6 f), (B6 false), (B6 false), (I6 inner), (B6 (inner != 0)), (B6 (inner != 0)), (I6 k), (I6 k), (I6 a), (I6 n), (B6 true), (B6 true), (I6 k), (I6 a), (S6 t), U6, .undef], []⟩ (by kernel_rfl) (tt 3) ?_
                refine DerQ.callD (r_texts k a t) ⟨[(I6 k), (S6 key), (S6 f), (I6 inner), (I6 a), (I6 n), (S6 t), U6, U6, U6, U6, U6, U6, U6, (I6 0), (B6 false), (I6 k), (I6 k), (B6 false), (B6 false), (I6 k), (B6 false), (B6 false), (B6 false), (S6 key), (B6 (decide (1 ≤ ByteArray.size key ∧ ByteArray.size key ≤ 64))), (B6 (!decide (1 ≤ ByteArray.size key ∧ ByteArray.size key ≤ 64))), (B6 (!decide (1 ≤ ByteArray.size key ∧ ByteArray.size key ≤ 64))), (I6 k), (I6 k), (B6 (k == 6)), U6, U6, U6, U6, U6, U6, U6, U6, U6, U6, U6, U6, U6, U6, U6, U6, U6, U6, U6, U6, U6, (S6 f), (B6 false), (B6 false), (I6 inner), (B6 (inner != 0)), (B6 (inner != 0)), (I6 k), (I6 k), (I6 a), (I6 n), (B6 true), (B6 true), (I6 k), (I6 a), (S6 t), (B6 (decide (rtextP k a t))), .undef], []⟩ ⟨by kernel_rfl, by kernel_rfl, by kernel_rfl⟩ ?_
                refine DerQ.run (TT 3) ⟨[(I6 k), (S6 key), (S6 f), (I6 inner), (I6 a), (I6 n), (S6 t), U6, U6, U6, U6, U6, U6, U6, (I6 k), (B6 (decide (rtextP k a t))), (I6 k), (I6 k), (B6 false), (B6 false), (I6 k), (B6 false), (B6 false), (B6 false), (S6 key), (B6 (decide (1 ≤ ByteArray.size key ∧ ByteArray.size key ≤ 64))), (B6 (!decide (1 ≤ ByteArray.size key ∧ ByteArray.size key ≤ 64))), (B6 (!decide (1 ≤ ByteArray.size key ∧ ByteArray.size key ≤ 64))), (I6 k), (I6 k), (B6 (k == 6)), U6, U6, U6, U6, U6, U6, U6, U6, U6, U6, U6, U6, U6, U6, U6, U6, U6, U6, U6, U6, U6, (S6 f), (B6 false), (B6 false), (I6 inner), (B6 (inner != 0)), (B6 (inner != 0)), (I6 k), (I6 k), (I6 a), (I6 n), (B6 true), (B6 true), (I6 k), (I6 a), (S6 t), (B6 (decide (rtextP k a t))), (B6 (decide (rtextP k a t)))], []⟩ (by kernel_rfl) (tt 3) ?_
                refine AWP.ret ?_
                refine EvF.fin (.tup [.sc (.int .i64 (k)), .sc (.bool (decide (rtextP k a t)))]) _ (by simp) (by kernel_rfl) ?_
                refine Shrink.all ?_ rfl
                (exact tupS (by grind [shapeI, leafI, whereP]) (by grind [shapeP, leafI, whereP]); done)
          · have h5' := h5
            simp only [Bool.and_eq_true, Bool.and_eq_false_iff, Bool.or_eq_true, Bool.or_eq_false_iff, Bool.not_eq_true', Bool.not_eq_false', beq_iff_eq, beq_eq_false_iff_ne, decide_eq_true_eq, decide_eq_false_iff_not, ne_eq] at h5'
            refine DerQ.run ((True) ∧ (True)) ⟨[(I6 k), (S6 key), (S6 f), (I6 inner), (I6 a), (I6 n), (S6 t), U6, U6, U6, U6, U6, U6, U6, (I6 0), (B6 false), (I6 k), (I6 k), (B6 false), (B6 false), (I6 k), (B6 false), (B6 false), (B6 false), (S6 key), (B6 (decide (1 ≤ ByteArray.size key ∧ ByteArray.size key ≤ 64))), (B6 (!decide (1 ≤ ByteArray.size key ∧ ByteArray.size key ≤ 64))), (B6 (!decide (1 ≤ ByteArray.size key ∧ ByteArray.size key ≤ 64))), (I6 k), (I6 k), (B6 (k == 6)), U6, U6, U6, U6, U6, U6, U6, U6, U6, U6, U6, U6, U6, U6, U6, U6, U6, U6, U6, U6, U6, (S6 f), (B6 true), (B6 true), .tup [], .tup [], (B6 true)] ++ UU 11, []⟩ (by kernel_rfl) ⟨trivial, trivial⟩ ?_
            refine AWP.cond (b := true) (by kernel_rfl) (fun _ => ?_) (fun h => nomatch h)
            refine AWP.seq ?_
            refine AWP.reg ?_
            refine DerQ.run (TT 2) ⟨[(I6 k), (S6 key), (S6 f), (I6 inner), (I6 a), (I6 n), (S6 t), U6, U6, U6, U6, U6, U6, U6, (I6 0), (B6 false), (I6 k), (I6 k), (B6 false), (B6 false), (I6 k), (B6 false), (B6 false), (B6 false), (S6 key), (B6 (decide (1 ≤ ByteArray.size key ∧ ByteArray.size key ≤ 64))), (B6 (!decide (1 ≤ ByteArray.size key ∧ ByteArray.size key ≤ 64))), (B6 (!decide (1 ≤ ByteArray.size key ∧ ByteArray.size key ≤ 64))), (I6 k), (I6 k), (B6 (k == 6)), U6, U6, U6, U6, U6, U6, U6, U6, U6, U6, U6, U6, U6, U6, U6, U6, U6, U6, U6, U6, U6, (S6 f), (B6 true), (B6 true), .tup [], .tup [], (B6 true)] ++ UU 11, []⟩ (by kernel_rfl) (tt 2) ?_
            refine AWP.ret ?_
            refine EvF.fin (.tup [.sc (.int .i64 0), .sc (.bool false)]) _ (by simp) (by kernel_rfl) ?_
            refine Shrink.all ?_ rfl
            (exact tupS (by grind [shapeI, leafI, whereP]) (by grind [shapeP, leafI, whereP]); done)
    · have h2' := of_decide_eq_true h2
      refine DerQ.run ((True) ∧ (True)) ⟨[(I6 k), (S6 key), (S6 f), (I6 inner), (I6 a), (I6 n), (S6 t), U6, U6, U6, U6, U6, U6, U6, (I6 0), (B6 false), U6, (I6 k), (B6 false), (B6 false), (I6 k), (B6 true), (B6 true), (B6 true), .tup [], .tup [], .tup [], (B6 true)] ++ UU 41, []⟩ (by kernel_rfl) ⟨trivial, trivial⟩ ?_
      refine AWP.cond (b := true) (by kernel_rfl) (fun _ => ?_) (fun h => nomatch h)
      refine AWP.seq ?_
      refine AWP.reg ?_
      refine DerQ.run (TT 2) ⟨[(I6 k), (S6 key), (S6 f), (I6 inner), (I6 a), (I6 n), (S6 t), U6, U6, U6, U6, U6, U6, U6, (I6 0), (B6 false), U6, (I6 k), (B6 false), (B6 false), (I6 k), (B6 true), (B6 true), (B6 true), .tup [], .tup [], .tup [], (B6 true)] ++ UU 41, []⟩ (by kernel_rfl) (tt 2) ?_
      refine AWP.ret ?_
      refine EvF.fin (.tup [.sc (.int .i64 0), .sc (.bool false)]) _ (by simp) (by kernel_rfl) ?_
      refine Shrink.all ?_ rfl
      (exact tupS (by grind [shapeI, leafI, whereP]) (by grind [shapeP, leafI, whereP]); done)
  · have h1' := of_decide_eq_true h1
    refine DerQ.run (TT 3) ⟨[(I6 k), (S6 key), (S6 f), (I6 inner), (I6 a), (I6 n), (S6 t), U6, U6, U6, U6, U6, U6, U6, (I6 0), (B6 false), U6, (I6 k), (B6 true), (B6 true), .tup [], .tup [], (B6 true), (B6 true), .tup [], .tup [], .tup [], (B6 true)] ++ UU 41, []⟩ (by kernel_rfl) (tt 3) ?_
    refine AWP.cond (b := true) (by kernel_rfl) (fun _ => ?_) (fun h => nomatch h)
    refine AWP.seq ?_
    refine AWP.reg ?_
    refine DerQ.run (TT 2) ⟨[(I6 k), (S6 key), (S6 f), (I6 inner), (I6 a), (I6 n), (S6 t), U6, U6, U6, U6, U6, U6, U6, (I6 0), (B6 false), U6, (I6 k), (B6 true), (B6 true), .tup [], .tup [], (B6 true), (B6 true), .tup [], .tup [], .tup [], (B6 true)] ++ UU 41, []⟩ (by kernel_rfl) (tt 2) ?_
    refine AWP.ret ?_
    refine EvF.fin (.tup [.sc (.int .i64 0), .sc (.bool false)]) _ (by simp) (by kernel_rfl) ?_
    refine Shrink.all ?_ rfl
    (exact tupS (by grind [shapeI, leafI, whereP]) (by grind [shapeP, leafI, whereP]); done)
theorem r_places (l a : Int) : EvD Try.prog 62 [.sc (.int .i64 l), .sc (.int .i64 a)] (.sc (.bool (decide (l = 5 ∧ a ≠ 5)))) := by
  refine EvD.body Try.func62 rfl rfl rfl ?_
  refine AWP.seq ?_
  refine AWP.reg ?_
  refine DerQ.run ((True) ∧ (True)) ⟨[(I6 l), (I6 a), U6, U6, (B6 false)] ++ UU 6, []⟩ (by kernel_rfl) ⟨trivial, trivial⟩ ?_
  refine AWP.seq ?_
  refine AWP.reg ?_
  refine DerQ.pre 3 (TT 3) ⟨[(I6 l), (I6 a), U6, U6, (B6 false), (I6 l), (B6 (l == 5)), (B6 (l == 5)), U6, U6, .undef], []⟩ (by kernel_rfl) (tt 3) ?_
  cases h1 : (l == 5)
  · have h1' := ne_of_beq_false h1
    refine DerQ.run (TT 2) ⟨[(I6 l), (I6 a), U6, U6, (B6 false), (I6 l), (B6 false), (B6 false), .tup [], .tup [], (B6 false)], []⟩ (by kernel_rfl) (tt 2) ?_
    refine AWP.ret ?_
    refine EvF.fin (.sc (.bool false)) _ (by simp) (by kernel_rfl) ?_
    refine Shrink.all ?_ rfl
    (congr 2; rw [Bool.eq_iff_iff]; simp only [decide_eq_true_eq, Bool.false_eq_true, false_iff, true_iff, Bool.and_eq_true, Bool.or_eq_true, Bool.not_eq_true', Bool.not_eq_true, Bool.not_eq_false', decide_eq_false_iff_not, iff_true, iff_false, beq_iff_eq, beq_eq_false_iff_ne, ge_iff_le, gt_iff_lt, ne_eq, bne_iff_ne, not_true_eq_false, not_false_eq_true] at *; omega; done)
  · have h1' := eq_of_beq h1
    refine DerQ.run (TT 4) ⟨[(I6 l), (I6 a), U6, U6, (B6 (a != 5)), (I6 l), (B6 true), (B6 true), (I6 a), (B6 (a != 5)), (B6 (a != 5))], []⟩ (by kernel_rfl) (tt 4) ?_
    refine AWP.ret ?_
    refine EvF.fin (.sc (.bool (a != 5))) _ (by simp) (by kernel_rfl) ?_
    refine Shrink.all ?_ rfl
    (congr 2; rw [Bool.eq_iff_iff]; simp only [decide_eq_true_eq, Bool.false_eq_true, false_iff, true_iff, Bool.and_eq_true, Bool.or_eq_true, Bool.not_eq_true', Bool.not_eq_true, Bool.not_eq_false', decide_eq_false_iff_not, iff_true, iff_false, beq_iff_eq, beq_eq_false_iff_ne, ge_iff_le, gt_iff_lt, ne_eq, bne_iff_ne, not_true_eq_false, not_false_eq_true] at *; omega; done)
/-- The document's shape is the one that fits. -/
theorem shape_fit (k inner a n : Int) (key f t : ByteArray) : shapeP k inner a n key f t ↔ fitP k inner a n key f t := by
  have := @leaf_if k inner
  unfold shapeP fitP rfitP rtextP okP rangeP numP textP
  constructor
  · rintro ⟨h1, h2⟩
    refine ⟨?_, h1, ?_, ?_, ?_⟩ <;> omega
  · rintro ⟨h1, h2, h3, h4, h5⟩
    refine ⟨h2, ?_⟩
    omega
theorem shape_place (k inner a n : Int) (key f t : ByteArray) (h : fitP k inner a n key f t) : (shapeI k inner key f = 5 ∧ a ≠ 5) ↔ plP k inner a n key f t := by
  have := @leaf_if k inner
  have h2 := h.2.1
  have h3 := h.1
  have h4 := h.2.2.1
  have h5 : whereP k inner key f := h2
  unfold shapeI plP
  rw [if_pos h5]
  unfold placeP
  unfold okP at h3
  constructor
  · rintro ⟨a1, a2⟩; exact ⟨h.1, h2, h4, by omega, a1⟩
  · rintro ⟨_, _, _, b1, b2⟩; exact ⟨b2, by omega⟩
theorem r_update (k inner a n at_ : Int) (key f t : ByteArray) : EvD Try.prog 21 [.agg [.sc (.int .i64 k), .sc (.string key), .sc (.string f), .sc (.int .i64 inner), .sc (.int .i64 a), .sc (.int .i64 n), .sc (.string t), .sc (.int .i64 at_)]] (.sc (.bool (decide (updP k inner a n at_ key f t)))) := by
  refine EvD.body Try.func21 rfl rfl rfl ?_
  have hs := shape_fit k inner a n key f t
  have hp := shape_place k inner a n key f t
  refine AWP.seq ?_
  refine AWP.reg ?_
  refine DerQ.run (TT 2) ⟨[.agg [(I6 k), (S6 key), (S6 f), (I6 inner), (I6 a), (I6 n), (S6 t), (I6 at_)], .ptr 0 0, (B6 false)] ++ UU 38, [⟨[(I6 k), (S6 key), (S6 f), (I6 inner), (I6 a), (I6 n), (S6 t), (I6 at_)], 8, .fresh⟩]⟩ (by kernel_rfl) (tt 2) ?_
  refine AWP.seq ?_
  refine AWP.reg ?_
  refine DerQ.pre 14 ((True) ∧ ((0 < List.length [(I6 k), (S6 key), (S6 f), (I6 inner), (I6 a), (I6 n), (S6 t), (I6 at_)]) ∧ ((True) ∧ ((1 < List.length [(I6 k), (S6 key), (S6 f), (I6 inner), (I6 a), (I6 n), (S6 t), (I6 at_)]) ∧ ((True) ∧ ((2 < List.length [(I6 k), (S6 key), (S6 f), (I6 inner), (I6 a), (I6 n), (S6 t), (I6 at_)]) ∧ ((True) ∧ ((3 < List.length [(I6 k), (S6 key), (S6 f), (I6 inner), (I6 a), (I6 n), (S6 t), (I6 at_)]) ∧ ((True) ∧ ((4 < List.length [(I6 k), (S6 key), (S6 f), (I6 inner), (I6 a), (I6 n), (S6 t), (I6 at_)]) ∧ ((True) ∧ ((5 < List.length [(I6 k), (S6 key), (S6 f), (I6 inner), (I6 a), (I6 n), (S6 t), (I6 at_)]) ∧ ((True) ∧ ((6 < List.length [(I6 k), (S6 key), (S6 f), (I6 inner), (I6 a), (I6 n), (S6 t), (I6 at_)]) ∧ (True))))))))))))))) ⟨[.agg [(I6 k), (S6 key), (S6 f), (I6 inner), (I6 a), (I6 n), (S6 t), (I6 at_)], .ptr 0 0, (B6 false), U6, U6, U6, .ptr 0 0, (I6 k), .ptr 0 1, (S6 key), .ptr 0 2, (S6 f), .ptr 0 3, (I6 inner), .ptr 0 4, (I6 a), .ptr 0 5, (I6 n), .ptr 0 6, (S6 t)] ++ UU 21, [⟨[(I6 k), (S6 key), (S6 f), (I6 inner), (I6 a), (I6 n), (S6 t), (I6 at_)], 8, .fresh⟩]⟩ (by kernel_rfl) ⟨trivial, ⟨(by simp), ⟨trivial, ⟨(by simp), ⟨trivial, ⟨(by simp), ⟨trivial, ⟨(by simp), ⟨trivial, ⟨(by simp), ⟨trivial, ⟨(by simp), ⟨trivial, ⟨(by simp), trivial⟩⟩⟩⟩⟩⟩⟩⟩⟩⟩⟩⟩⟩⟩ ?_
  refine DerQ.callD (r_shape k inner a n key f t) ⟨[.agg [(I6 k), (S6 key), (S6 f), (I6 inner), (I6 a), (I6 n), (S6 t), (I6 at_)], .ptr 0 0, (B6 false), U6, U6, U6, .ptr 0 0, (I6 k), .ptr 0 1, (S6 key), .ptr 0 2, (S6 f), .ptr 0 3, (I6 inner), .ptr 0 4, (I6 a), .ptr 0 5, (I6 n), .ptr 0 6, (S6 t), .tup [(I6 (shapeI k inner key f)), (B6 (decide (shapeP k inner a n key f t)))]] ++ UU 20, [⟨[(I6 k), (S6 key), (S6 f), (I6 inner), (I6 a), (I6 n), (S6 t), (I6 at_)], 8, .fresh⟩]⟩ ⟨by kernel_rfl, by kernel_rfl, by kernel_rfl⟩ ?_
  refine DerQ.run (TT 5) ⟨[.agg [(I6 k), (S6 key), (S6 f), (I6 inner), (I6 a), (I6 n), (S6 t), (I6 at_)], .ptr 0 0, (B6 false), (I6 (shapeI k inner key f)), (B6 (decide (shapeP k inner a n key f t))), .tup [(I6 (shapeI k inner key f)), (B6 (decide (shapeP k inner a n key f t)))], .ptr 0 0, (I6 k), .ptr 0 1, (S6 key), .ptr 0 2, (S6 f), .ptr 0 3, (I6 inner), .ptr 0 4, (I6 a), .ptr 0 5, (I6 n), .ptr 0 6, (S6 t), .tup [(I6 (shapeI k inner key f)), (B6 (decide (shapeP k inner a n key f t)))], (I6 (shapeI k inner key f)), (B6 (decide (shapeP k inner a n key f t)))] ++ UU 18, [⟨[(I6 k), (S6 key), (S6 f), (I6 inner), (I6 a), (I6 n), (S6 t), (I6 at_)], 8, .fresh⟩]⟩ (by kernel_rfl) (tt 5) ?_
  refine AWP.seq ?_
  refine AWP.seq ?_
  refine AWP.reg ?_
  refine DerQ.run (TT 2) ⟨[.agg [(I6 k), (S6 key), (S6 f), (I6 inner), (I6 a), (I6 n), (S6 t), (I6 at_)], .ptr 0 0, (B6 false), (I6 (shapeI k inner key f)), (B6 (decide (shapeP k inner a n key f t))), .tup [(I6 (shapeI k inner key f)), (B6 (decide (shapeP k inner a n key f t)))], .ptr 0 0, (I6 k), .ptr 0 1, (S6 key), .ptr 0 2, (S6 f), .ptr 0 3, (I6 inner), .ptr 0 4, (I6 a), .ptr 0 5, (I6 n), .ptr 0 6, (S6 t), .tup [(I6 (shapeI k inner key f)), (B6 (decide (shapeP k inner a n key f t)))], (I6 (shapeI k inner key f)), (B6 (decide (shapeP k inner a n key f t))), (B6 (decide (shapeP k inner a n key f t))), (B6 (!decide (shapeP k inner a n key f t)))] ++ UU 16, [⟨[(I6 k), (S6 key), (S6 f), (I6 inner), (I6 a), (I6 n), (S6 t), (I6 at_)], 8, .fresh⟩]⟩ (by kernel_rfl) (tt 2) ?_
  refine AWP.cond (b := !decide (shapeP k inner a n key f t)) (by kernel_rfl) (fun h1 => ?_) (fun h1 => ?_)
  · have h1' := h1
    simp only [Bool.and_eq_true, Bool.and_eq_false_iff, Bool.or_eq_true, Bool.or_eq_false_iff, Bool.not_eq_true', Bool.not_eq_false', beq_iff_eq, beq_eq_false_iff_ne, decide_eq_true_eq, decide_eq_false_iff_not, ne_eq] at h1'
    refine AWP.seq ?_
    refine AWP.reg ?_
    refine DerQ.run ((True) ∧ (True)) ⟨[.agg [(I6 k), (S6 key), (S6 f), (I6 inner), (I6 a), (I6 n), (S6 t), (I6 at_)], .ptr 0 0, (B6 false), (I6 (shapeI k inner key f)), (B6 (decide (shapeP k inner a n key f t))), .tup [(I6 (shapeI k inner key f)), (B6 (decide (shapeP k inner a n key f t)))], .ptr 0 0, (I6 k), .ptr 0 1, (S6 key), .ptr 0 2, (S6 f), .ptr 0 3, (I6 inner), .ptr 0 4, (I6 a), .ptr 0 5, (I6 n), .ptr 0 6, (S6 t), .tup [(I6 (shapeI k inner key f)), (B6 (decide (shapeP k inner a n key f t)))], (I6 (shapeI k inner key f)), (B6 (decide (shapeP k inner a n key f t))), (B6 (decide (shapeP k inner a n key f t))), (B6 (!decide (shapeP k inner a n key f t)))] ++ UU 16, [⟨[(I6 k), (S6 key), (S6 f), (I6 inner), (I6 a), (I6 n), (S6 t), (I6 at_)], 8, .fresh⟩]⟩ (by kernel_rfl) ⟨trivial, trivial⟩ ?_
    refine AWP.ret ?_
    refine EvF.fin (.sc (.bool false)) _ (by simp) (by kernel_rfl) ?_
    refine Shrink.all ?_ rfl
    (congr 2; grind [updP]; done)
  · have h1' := h1
    simp only [Bool.and_eq_true, Bool.and_eq_false_iff, Bool.or_eq_true, Bool.or_eq_false_iff, Bool.not_eq_true', Bool.not_eq_false', beq_iff_eq, beq_eq_false_iff_ne, decide_eq_true_eq, decide_eq_false_iff_not, ne_eq] at h1'
    refine AWP.skip ?_
    refine AWP.seq ?_
    refine AWP.seq ?_
    refine AWP.reg ?_
    refine DerQ.pre 3 ((True) ∧ ((True) ∧ ((4 < List.length [(I6 k), (S6 key), (S6 f), (I6 inner), (I6 a), (I6 n), (S6 t), (I6 at_)]) ∧ (True)))) ⟨[.agg [(I6 k), (S6 key), (S6 f), (I6 inner), (I6 a), (I6 n), (S6 t), (I6 at_)], .ptr 0 0, (B6 false), (I6 (shapeI k inner key f)), (B6 (decide (shapeP k inner a n key f t))), .tup [(I6 (shapeI k inner key f)), (B6 (decide (shapeP k inner a n key f t)))], .ptr 0 0, (I6 k), .ptr 0 1, (S6 key), .ptr 0 2, (S6 f), .ptr 0 3, (I6 inner), .ptr 0 4, (I6 a), .ptr 0 5, (I6 n), .ptr 0 6, (S6 t), .tup [(I6 (shapeI k inner key f)), (B6 (decide (shapeP k inner a n key f t)))], (I6 (shapeI k inner key f)), (B6 (decide (shapeP k inner a n key f t))), (B6 (decide (shapeP k inner a n key f t))), (B6 (!decide (shapeP k inner a n key f t))), (I6 (shapeI k inner key f)), .ptr 0 4, (I6 a)] ++ UU 13, [⟨[(I6 k), (S6 key), (S6 f), (I6 inner), (I6 a), (I6 n), (S6 t), (I6 at_)], 8, .fresh⟩]⟩ (by kernel_rfl) ⟨trivial, ⟨trivial, ⟨(by simp), trivial⟩⟩⟩ ?_
    refine DerQ.callD (r_places (shapeI k inner key f) a) ⟨[.agg [(I6 k), (S6 key), (S6 f), (I6 inner), (I6 a), (I6 n), (S6 t), (I6 at_)], .ptr 0 0, (B6 false), (I6 (shapeI k inner key f)), (B6 (decide (shapeP k inner a n key f t))), .tup [(I6 (shapeI k inner key f)), (B6 (decide (shapeP k inner a n key f t)))], .ptr 0 0, (I6 k), .ptr 0 1, (S6 key), .ptr 0 2, (S6 f), .ptr 0 3, (I6 inner), .ptr 0 4, (I6 a), .ptr 0 5, (I6 n), .ptr 0 6, (S6 t), .tup [(I6 (shapeI k inner key f)), (B6 (decide (shapeP k inner a n key f t)))], (I6 (shapeI k inner key f)), (B6 (decide (shapeP k inner a n key f t))), (B6 (decide (shapeP k inner a n key f t))), (B6 (!decide (shapeP k inner a n key f t))), (I6 (shapeI k inner key f)), .ptr 0 4, (I6 a), (B6 (decide (shapeI k inner key f = 5 ∧ a ≠ 5)))] ++ UU 12, [⟨[(I6 k), (S6 key), (S6 f), (I6 inner), (I6 a), (I6 n), (S6 t), (I6 at_)], 8, .fresh⟩]⟩ ⟨by kernel_rfl, by kernel_rfl, by kernel_rfl⟩ ?_
    refine DerQ.run ((True) ∧ (True)) ⟨[.agg [(I6 k), (S6 key), (S6 f), (I6 inner), (I6 a), (I6 n), (S6 t), (I6 at_)], .ptr 0 0, (B6 false), (I6 (shapeI k inner key f)), (B6 (decide (shapeP k inner a n key f t))), .tup [(I6 (shapeI k inner key f)), (B6 (decide (shapeP k inner a n key f t)))], .ptr 0 0, (I6 k), .ptr 0 1, (S6 key), .ptr 0 2, (S6 f), .ptr 0 3, (I6 inner), .ptr 0 4, (I6 a), .ptr 0 5, (I6 n), .ptr 0 6, (S6 t), .tup [(I6 (shapeI k inner key f)), (B6 (decide (shapeP k inner a n key f t)))], (I6 (shapeI k inner key f)), (B6 (decide (shapeP k inner a n key f t))), (B6 (decide (shapeP k inner a n key f t))), (B6 (!decide (shapeP k inner a n key f t))), (I6 (shapeI k inner key f)), .ptr 0 4, (I6 a), (B6 (decide (shapeI k inner key f = 5 ∧ a ≠ 5))), (B6 (!decide (shapeI k inner key f = 5 ∧ a ≠ 5)))] ++ UU 11, [⟨[(I6 k), (S6 key), (S6 f), (I6 inner), (I6 a), (I6 n), (S6 t), (I6 at_)], 8, .fresh⟩]⟩ (by kernel_rfl) ⟨trivial, trivial⟩ ?_
    refine AWP.cond (b := !decide (shapeI k inner key f = 5 ∧ a ≠ 5)) (by kernel_rfl) (fun h2 => ?_) (fun h2 => ?_)
    · have h2' := h2
      simp only [Bool.and_eq_true, Bool.and_eq_false_iff, Bool.or_eq_true, Bool.or_eq_false_iff, Bool.not_eq_true', Bool.not_eq_false', beq_iff_eq, beq_eq_false_iff_ne, decide_eq_true_eq, decide_eq_false_iff_not, ne_eq] at h2'
      refine AWP.seq ?_
      refine AWP.reg ?_
      refine DerQ.run ((True) ∧ ((7 < List.length [(I6 k), (S6 key), (S6 f), (I6 inner), (I6 a), (I6 n), (S6 t), (I6 at_)]) ∧ ((True) ∧ ((True) ∧ (True))))) ⟨[.agg [(I6 k), (S6 key), (S6 f), (I6 inner), (I6 a), (I6 n), (S6 t), (I6 at_)], .ptr 0 0, (B6 (at_ == 0)), (I6 (shapeI k inner key f)), (B6 (decide (shapeP k inner a n key f t))), .tup [(I6 (shapeI k inner key f)), (B6 (decide (shapeP k inner a n key f t)))], .ptr 0 0, (I6 k), .ptr 0 1, (S6 key), .ptr 0 2, (S6 f), .ptr 0 3, (I6 inner), .ptr 0 4, (I6 a), .ptr 0 5, (I6 n), .ptr 0 6, (S6 t), .tup [(I6 (shapeI k inner key f)), (B6 (decide (shapeP k inner a n key f t)))], (I6 (shapeI k inner key f)), (B6 (decide (shapeP k inner a n key f t))), (B6 (decide (shapeP k inner a n key f t))), (B6 (!decide (shapeP k inner a n key f t))), (I6 (shapeI k inner key f)), .ptr 0 4, (I6 a), (B6 (decide (shapeI k inner key f = 5 ∧ a ≠ 5))), (B6 (!decide (shapeI k inner key f = 5 ∧ a ≠ 5))), .ptr 0 7, (I6 at_), (B6 (at_ == 0))] ++ UU 8, [⟨[(I6 k), (S6 key), (S6 f), (I6 inner), (I6 a), (I6 n), (S6 t), (I6 at_)], 8, .fresh⟩]⟩ (by kernel_rfl) ⟨trivial, ⟨(by simp), ⟨trivial, ⟨trivial, trivial⟩⟩⟩⟩ ?_
      refine AWP.ret ?_
      refine EvF.fin (.sc (.bool (at_ == 0))) _ (by simp) (by kernel_rfl) ?_
      refine Shrink.all ?_ rfl
      (congr 2; grind [updP]; done)
    · have h2' := h2
      simp only [Bool.and_eq_true, Bool.and_eq_false_iff, Bool.or_eq_true, Bool.or_eq_false_iff, Bool.not_eq_true', Bool.not_eq_false', beq_iff_eq, beq_eq_false_iff_ne, decide_eq_true_eq, decide_eq_false_iff_not, ne_eq] at h2'
      refine AWP.skip ?_
      refine AWP.seq ?_
      refine AWP.reg ?_
      refine DerQ.pre 4 ((True) ∧ ((7 < List.length [(I6 k), (S6 key), (S6 f), (I6 inner), (I6 a), (I6 n), (S6 t), (I6 at_)]) ∧ ((True) ∧ ((True) ∧ (True))))) ⟨[.agg [(I6 k), (S6 key), (S6 f), (I6 inner), (I6 a), (I6 n), (S6 t), (I6 at_)], .ptr 0 0, (B6 false), (I6 (shapeI k inner key f)), (B6 (decide (shapeP k inner a n key f t))), .tup [(I6 (shapeI k inner key f)), (B6 (decide (shapeP k inner a n key f t)))], .ptr 0 0, (I6 k), .ptr 0 1, (S6 key), .ptr 0 2, (S6 f), .ptr 0 3, (I6 inner), .ptr 0 4, (I6 a), .ptr 0 5, (I6 n), .ptr 0 6, (S6 t), .tup [(I6 (shapeI k inner key f)), (B6 (decide (shapeP k inner a n key f t)))], (I6 (shapeI k inner key f)), (B6 (decide (shapeP k inner a n key f t))), (B6 (decide (shapeP k inner a n key f t))), (B6 (!decide (shapeP k inner a n key f t))), (I6 (shapeI k inner key f)), .ptr 0 4, (I6 a), (B6 (decide (shapeI k inner key f = 5 ∧ a ≠ 5))), (B6 (!decide (shapeI k inner key f = 5 ∧ a ≠ 5))), U6, U6, U6, .ptr 0 7, (I6 at_), (B6 (decide (at_ ≥ 0))), (B6 (decide (at_ ≥ 0))), U6, U6, U6, .undef], [⟨[(I6 k), (S6 key), (S6 f), (I6 inner), (I6 a), (I6 n), (S6 t), (I6 at_)], 8, .fresh⟩]⟩ (by kernel_rfl) ⟨trivial, ⟨(by simp), ⟨trivial, ⟨trivial, trivial⟩⟩⟩⟩ ?_
      cases h3 : (decide (at_ ≥ 0))
      · have h3' := of_decide_eq_false h3
        refine DerQ.run (TT 2) ⟨[.agg [(I6 k), (S6 key), (S6 f), (I6 inner), (I6 a), (I6 n), (S6 t), (I6 at_)], .ptr 0 0, (B6 false), (I6 (shapeI k inner key f)), (B6 (decide (shapeP k inner a n key f t))), .tup [(I6 (shapeI k inner key f)), (B6 (decide (shapeP k inner a n key f t)))], .ptr 0 0, (I6 k), .ptr 0 1, (S6 key), .ptr 0 2, (S6 f), .ptr 0 3, (I6 inner), .ptr 0 4, (I6 a), .ptr 0 5, (I6 n), .ptr 0 6, (S6 t), .tup [(I6 (shapeI k inner key f)), (B6 (decide (shapeP k inner a n key f t)))], (I6 (shapeI k inner key f)), (B6 (decide (shapeP k inner a n key f t))), (B6 (decide (shapeP k inner a n key f t))), (B6 (!decide (shapeP k inner a n key f t))), (I6 (shapeI k inner key f)), .ptr 0 4, (I6 a), (B6 (decide (shapeI k inner key f = 5 ∧ a ≠ 5))), (B6 (!decide (shapeI k inner key f = 5 ∧ a ≠ 5))), U6, U6, U6, .ptr 0 7, (I6 at_), (B6 false), (B6 false), .tup [], .tup [], .tup [], (B6 false)], [⟨[(I6 k), (S6 key), (S6 f), (I6 inner), (I6 a), (I6 n), (S6 t), (I6 at_)], 8, .fresh⟩]⟩ (by kernel_rfl) (tt 2) ?_
        refine AWP.ret ?_
        refine EvF.fin (.sc (.bool false)) _ (by simp) (by kernel_rfl) ?_
        refine Shrink.all ?_ rfl
        (congr 2; rw [Bool.eq_iff_iff]; simp [updP, *] <;> omega; done)
      · have h3' := of_decide_eq_true h3
        refine DerQ.run ((True) ∧ ((7 < List.length [(I6 k), (S6 key), (S6 f), (I6 inner), (I6 a), (I6 n), (S6 t), (I6 at_)]) ∧ ((True) ∧ ((True) ∧ ((True) ∧ (True)))))) ⟨[.agg [(I6 k), (S6 key), (S6 f), (I6 inner), (I6 a), (I6 n), (S6 t), (I6 at_)], .ptr 0 0, (B6 (decide (at_ ≤ 1048576))), (I6 (shapeI k inner key f)), (B6 (decide (shapeP k inner a n key f t))), .tup [(I6 (shapeI k inner key f)), (B6 (decide (shapeP k inner a n key f t)))], .ptr 0 0, (I6 k), .ptr 0 1, (S6 key), .ptr 0 2, (S6 f), .ptr 0 3, (I6 inner), .ptr 0 4, (I6 a), .ptr 0 5, (I6 n), .ptr 0 6, (S6 t), .tup [(I6 (shapeI k inner key f)), (B6 (decide (shapeP k inner a n key f t)))], (I6 (shapeI k inner key f)), (B6 (decide (shapeP k inner a n key f t))), (B6 (decide (shapeP k inner a n key f t))), (B6 (!decide (shapeP k inner a n key f t))), (I6 (shapeI k inner key f)), .ptr 0 4, (I6 a), (B6 (decide (shapeI k inner key f = 5 ∧ a ≠ 5))), (B6 (!decide (shapeI k inner key f = 5 ∧ a ≠ 5))), U6, U6, U6, .ptr 0 7, (I6 at_), (B6 true), (B6 true), .ptr 0 7, (I6 at_), (B6 (decide (at_ ≤ 1048576))), (B6 (decide (at_ ≤ 1048576)))], [⟨[(I6 k), (S6 key), (S6 f), (I6 inner), (I6 a), (I6 n), (S6 t), (I6 at_)], 8, .fresh⟩]⟩ (by kernel_rfl) ⟨trivial, ⟨(by simp), ⟨trivial, ⟨trivial, ⟨trivial, trivial⟩⟩⟩⟩⟩ ?_
        refine AWP.ret ?_
        refine EvF.fin (.sc (.bool (decide (at_ ≤ 1048576)))) _ (by simp) (by kernel_rfl) ?_
        refine Shrink.all ?_ rfl
        (congr 2; grind [updP]; done)
theorem r_op (k inner a n p s i : Int) (key f t : ByteArray) : EvD Try.prog 23 [.agg [.sc (.int .i64 k), .sc (.string key), .sc (.string f), .sc (.int .i64 inner), .sc (.int .i64 a), .sc (.int .i64 n), .sc (.string t), .sc (.int .i64 p), .sc (.int .i64 s), .sc (.int .i64 i)]] (.sc (.bool (decide (opP k inner a n p s i key f t)))) := by
  refine EvD.body Try.func23 rfl rfl rfl ?_
  have hs := shape_fit k inner a n key f t
  have hp := shape_place k inner a n key f t
  refine AWP.seq ?_
  refine AWP.reg ?_
  refine DerQ.run (TT 2) ⟨[.agg [(I6 k), (S6 key), (S6 f), (I6 inner), (I6 a), (I6 n), (S6 t), (I6 p), (I6 s), (I6 i)], .ptr 0 0, (B6 false)] ++ UU 76, [⟨[(I6 k), (S6 key), (S6 f), (I6 inner), (I6 a), (I6 n), (S6 t), (I6 p), (I6 s), (I6 i)], 10, .fresh⟩]⟩ (by kernel_rfl) (tt 2) ?_
  refine AWP.seq ?_
  refine AWP.reg ?_
  refine DerQ.run ((True) ∧ ((True) ∧ (((3 : Nat) ≤ (3 : Nat)) ∧ (True)))) ⟨[.agg [(I6 k), (S6 key), (S6 f), (I6 inner), (I6 a), (I6 n), (S6 t), (I6 p), (I6 s), (I6 i)], .ptr 0 0, (B6 false), .ptr 1 0, U6, U6, U6, .agg [(I6 0), (I6 0), (I6 0)]] ++ UU 71, [⟨[(I6 k), (S6 key), (S6 f), (I6 inner), (I6 a), (I6 n), (S6 t), (I6 p), (I6 s), (I6 i)], 10, .fresh⟩, ⟨[(I6 0), (I6 0), (I6 0)], 3, .fresh⟩]⟩ (by kernel_rfl) ⟨trivial, ⟨trivial, ⟨(by omega), trivial⟩⟩⟩ ?_
  refine AWP.seq ?_
  refine AWP.seq ?_
  refine AWP.reg ?_
  refine DerQ.run ((True) ∧ ((0 < List.length [(I6 k), (S6 key), (S6 f), (I6 inner), (I6 a), (I6 n), (S6 t), (I6 p), (I6 s), (I6 i)]) ∧ ((True) ∧ (True)))) ⟨[.agg [(I6 k), (S6 key), (S6 f), (I6 inner), (I6 a), (I6 n), (S6 t), (I6 p), (I6 s), (I6 i)], .ptr 0 0, (B6 false), .ptr 1 0, U6, U6, U6, .agg [(I6 0), (I6 0), (I6 0)], .ptr 0 0, (I6 k), (B6 (k == 7))] ++ UU 68, [⟨[(I6 k), (S6 key), (S6 f), (I6 inner), (I6 a), (I6 n), (S6 t), (I6 p), (I6 s), (I6 i)], 10, .fresh⟩, ⟨[(I6 0), (I6 0), (I6 0)], 3, .fresh⟩]⟩ (by kernel_rfl) ⟨trivial, ⟨(by simp), ⟨trivial, trivial⟩⟩⟩ ?_
  refine AWP.cond (b := k == 7) (by kernel_rfl) (fun h1 => ?_) (fun h1 => ?_)
  · have h1' := eq_of_beq h1
    refine AWP.seq ?_
    refine AWP.reg ?_
    refine DerQ.run ((True) ∧ ((0 < List.length [(I6 k), (S6 key), (S6 f), (I6 inner), (I6 a), (I6 n), (S6 t), (I6 p), (I6 s), (I6 i)]) ∧ ((True) ∧ ((4 < List.length [(I6 k), (S6 key), (S6 f), (I6 inner), (I6 a), (I6 n), (S6 t), (I6 p), (I6 s), (I6 i)]) ∧ ((True) ∧ ((5 < List.length [(I6 k), (S6 key), (S6 f), (I6 inner), (I6 a), (I6 n), (S6 t), (I6 p), (I6 s), (I6 i)]) ∧ ((True) ∧ ((True) ∧ (((10 : Nat) ≤ (10 : Nat)) ∧ (True)))))))))) ⟨[.agg [(I6 k), (S6 key), (S6 f), (I6 inner), (I6 a), (I6 n), (S6 t), (I6 p), (I6 s), (I6 i)], .ptr 0 0, (B6 false), .ptr 1 0, .ptr 2 0, U6, U6, .agg [(I6 0), (I6 0), (I6 0)], .ptr 0 0, (I6 k), (B6 (k == 7)), .ptr 0 0, (I6 k), .ptr 0 4, (I6 a), .ptr 0 5, (I6 n), .agg [(I6 k), (S6 ({ data := #[] })), (S6 ({ data := #[] })), (I6 0), (I6 a), (I6 n), (S6 ({ data := #[] })), (I6 0), (I6 0), (I6 0)]] ++ UU 61, [⟨[(I6 k), (S6 key), (S6 f), (I6 inner), (I6 a), (I6 n), (S6 t), (I6 p), (I6 s), (I6 i)], 10, .fresh⟩, ⟨[(I6 0), (I6 0), (I6 0)], 3, .fresh⟩, ⟨[(I6 k), (S6 ({ data := #[] })), (S6 ({ data := #[] })), (I6 0), (I6 a), (I6 n), (S6 ({ data := #[] })), (I6 0), (I6 0), (I6 0)], 10, .fresh⟩]⟩ (by kernel_rfl) ⟨trivial, ⟨(by simp), ⟨trivial, ⟨(by simp), ⟨trivial, ⟨(by simp), ⟨trivial, ⟨trivial, ⟨(by omega), trivial⟩⟩⟩⟩⟩⟩⟩⟩⟩ ?_
    refine AWP.seq ?_
    refine AWP.reg ?_
    refine DerQ.pre 4 ((10 ≤ List.length [(I6 k), (S6 key), (S6 f), (I6 inner), (I6 a), (I6 n), (S6 t), (I6 p), (I6 s), (I6 i)]) ∧ ((10 ≤ List.length [(I6 k), AVal.sc (Value.string { data := #[] }), AVal.sc (Value.string { data := #[] }), (I6 0), (I6 a), (I6 n), AVal.sc (Value.string { data := #[] }), (I6 0), (I6 0), (I6 0)]) ∧ ((((0 < List.length [(I6 k), (S6 key), (S6 f), (I6 inner), (I6 a), (I6 n), (S6 t), (I6 p), (I6 s), (I6 i)]) ∧ ((0 < List.length [(I6 k), AVal.sc (Value.string { data := #[] }), AVal.sc (Value.string { data := #[] }), (I6 0), (I6 a), (I6 n), AVal.sc (Value.string { data := #[] }), (I6 0), (I6 0), (I6 0)]) ∧ (True))) ∧ (((1 < List.length [(I6 k), (S6 key), (S6 f), (I6 inner), (I6 a), (I6 n), (S6 t), (I6 p), (I6 s), (I6 i)]) ∧ ((1 < List.length [(I6 k), AVal.sc (Value.string { data := #[] }), AVal.sc (Value.string { data := #[] }), (I6 0), (I6 a), (I6 n), AVal.sc (Value.string { data := #[] }), (I6 0), (I6 0), (I6 0)]) ∧ (True))) ∧ (((2 < List.length [(I6 k), (S6 key), (S6 f), (I6 inner), (I6 a), (I6 n), (S6 t), (I6 p), (I6 s), (I6 i)]) ∧ ((2 < List.length [(I6 k), AVal.sc (Value.string { data := #[] }), AVal.sc (Value.string { data := #[] }), (I6 0), (I6 a), (I6 n), AVal.sc (Value.string { data := #[] }), (I6 0), (I6 0), (I6 0)]) ∧ (True))) ∧ (((3 < List.length [(I6 k), (S6 key), (S6 f), (I6 inner), (I6 a), (I6 n), (S6 t), (I6 p), (I6 s), (I6 i)]) ∧ ((3 < List.length [(I6 k), AVal.sc (Value.string { data := #[] }), AVal.sc (Value.string { data := #[] }), (I6 0), (I6 a), (I6 n), AVal.sc (Value.string { data := #[] }), (I6 0), (I6 0), (I6 0)]) ∧ (True))) ∧ (((4 < List.length [(I6 k), (S6 key), (S6 f), (I6 inner), (I6 a), (I6 n), (S6 t), (I6 p), (I6 s), (I6 i)]) ∧ ((4 < List.length [(I6 k), AVal.sc (Value.string { data := #[] }), AVal.sc (Value.string { data := #[] }), (I6 0), (I6 a), (I6 n), AVal.sc (Value.string { data := #[] }), (I6 0), (I6 0), (I6 0)]) ∧ (True))) ∧ (((5 < List.length [(I6 k), (S6 key), (S6 f), (I6 inner), (I6 a), (I6 n), (S6 t), (I6 p), (I6 s), (I6 i)]) ∧ ((5 < List.length [(I6 k), AVal.sc (Value.string { data := #[] }), AVal.sc (Value.string { data := #[] }), (I6 0), (I6 a), (I6 n), AVal.sc (Value.string { data := #[] }), (I6 0), (I6 0), (I6 0)]) ∧ (True))) ∧ (((6 < List.length [(I6 k), (S6 key), (S6 f), (I6 inner), (I6 a), (I6 n), (S6 t), (I6 p), (I6 s), (I6 i)]) ∧ ((6 < List.length [(I6 k), AVal.sc (Value.string { data := #[] }), AVal.sc (Value.string { data := #[] }), (I6 0), (I6 a), (I6 n), AVal.sc (Value.string { data := #[] }), (I6 0), (I6 0), (I6 0)]) ∧ (True))) ∧ ((10 ≤ List.length [(I6 k), (S6 key), (S6 f), (I6 inner), (I6 a), (I6 n), (S6 t), (I6 p), (I6 s), (I6 i)]) ∧ ((10 ≤ List.length [(I6 k), AVal.sc (Value.string { data := #[] }), AVal.sc (Value.string { data := #[] }), (I6 0), (I6 a), (I6 n), AVal.sc (Value.string { data := #[] }), (I6 0), (I6 0), (I6 0)]) ∧ (((2 ≤ List.length [(I6 p), (I6 s), (I6 i)]) ∧ (((2 : Nat) ≤ List.length [(I6 (0 : Int)), (I6 (0 : Int)), (I6 (0 : Int))]) ∧ (((0 < List.length [(I6 p), (I6 s)]) ∧ (((0 : Nat) < List.length [(I6 (0 : Int)), (I6 (0 : Int))]) ∧ (True))) ∧ ((1 < List.length [(I6 p), (I6 s)]) ∧ (((1 : Nat) < List.length [(I6 (0 : Int)), (I6 (0 : Int))]) ∧ (True)))))) ∧ ((2 < List.length [(I6 p), (I6 s), (I6 i)]) ∧ (((2 : Nat) < List.length [(I6 (0 : Int)), (I6 (0 : Int)), (I6 (0 : Int))]) ∧ (True))))))))))))) ∧ ((True) ∧ (True))))) ⟨[.agg [(I6 k), (S6 key), (S6 f), (I6 inner), (I6 a), (I6 n), (S6 t), (I6 p), (I6 s), (I6 i)], .ptr 0 0, (B6 false), .ptr 1 0, .ptr 2 0, U6, U6, .agg [(I6 0), (I6 0), (I6 0)], .ptr 0 0, (I6 k), (B6 (k == 7)), .ptr 0 0, (I6 k), .ptr 0 4, (I6 a), .ptr 0 5, (I6 n), .agg [(I6 k), (S6 ({ data := #[] })), (S6 ({ data := #[] })), (I6 0), (I6 a), (I6 n), (S6 ({ data := #[] })), (I6 0), (I6 0), (I6 0)], .agg [(I6 k), (S6 key), (S6 f), (I6 inner), (I6 a), (I6 n), (S6 t), (I6 p), (I6 s), (I6 i)], .agg [(I6 k), (S6 ({ data := #[] })), (S6 ({ data := #[] })), (I6 0), (I6 a), (I6 n), (S6 ({ data := #[] })), (I6 0), (I6 0), (I6 0)], (B6 (k == k && (ByteArray.toList key == ByteArray.toList { data := #[] } && (ByteArray.toList f == ByteArray.toList { data := #[] } && (inner == 0 && (a == a && (n == n && (ByteArray.toList t == ByteArray.toList { data := #[] } && (p == 0 && s == 0 && i == 0))))))))), (B6 (k == k && (ByteArray.toList key == ByteArray.toList { data := #[] } && (ByteArray.toList f == ByteArray.toList { data := #[] } && (inner == 0 && (a == a && (n == n && (ByteArray.toList t == ByteArray.toList { data := #[] } && (p == 0 && s == 0 && i == 0)))))))))] ++ UU 57, [⟨[(I6 k), (S6 key), (S6 f), (I6 inner), (I6 a), (I6 n), (S6 t), (I6 p), (I6 s), (I6 i)], 10, .fresh⟩, ⟨[(I6 0), (I6 0), (I6 0)], 3, .fresh⟩, ⟨[(I6 k), (S6 ({ data := #[] })), (S6 ({ data := #[] })), (I6 0), (I6 a), (I6 n), (S6 ({ data := #[] })), (I6 0), (I6 0), (I6 0)], 10, .fresh⟩]⟩ (by kernel_rfl) ⟨(by simp), ⟨(by simp), ⟨⟨⟨(by simp), ⟨(by simp), trivial⟩⟩, ⟨⟨(by simp), ⟨(by simp), trivial⟩⟩, ⟨⟨(by simp), ⟨(by simp), trivial⟩⟩, ⟨⟨(by simp), ⟨(by simp), trivial⟩⟩, ⟨⟨(by simp), ⟨(by simp), trivial⟩⟩, ⟨⟨(by simp), ⟨(by simp), trivial⟩⟩, ⟨⟨(by simp), ⟨(by simp), trivial⟩⟩, ⟨(by simp), ⟨(by simp), ⟨⟨(by simp), ⟨(by decide), ⟨⟨(by simp), ⟨(by decide), trivial⟩⟩, ⟨(by simp), ⟨(by decide), trivial⟩⟩⟩⟩⟩, ⟨(by simp), ⟨(by decide), trivial⟩⟩⟩⟩⟩⟩⟩⟩⟩⟩⟩⟩, ⟨trivial, trivial⟩⟩⟩⟩ ?_
    rw [Go.Abs.nil_beq (key)]
    rw [Go.Abs.nil_beq (f)]
    rw [Go.Abs.nil_beq (t)]
    cases h2 : (k == k && (decide (ByteArray.size key = 0) && (decide (ByteArray.size f = 0) && (inner == 0 && (a == a && (n == n && (decide (ByteArray.size t = 0) && (p == 0 && s == 0 && i == 0))))))))
    · have h2' := h2
      simp only [Bool.and_eq_true, Bool.and_eq_false_iff, Bool.or_eq_true, Bool.or_eq_false_iff, Bool.not_eq_true', Bool.not_eq_false', beq_iff_eq, beq_eq_false_iff_ne, decide_eq_true_eq, decide_eq_false_iff_not, ne_eq] at h2'
      refine DerQ.run (TT 4) ⟨[.agg [(I6 k), (S6 key), (S6 f), (I6 inner), (I6 a), (I6 n), (S6 t), (I6 p), (I6 s), (I6 i)], .ptr 0 0, (B6 false), .ptr 1 0, .ptr 2 0, U6, U6, .agg [(I6 0), (I6 0), (I6 0)], .ptr 0 0, (I6 k), (B6 (k == 7)), .ptr 0 0, (I6 k), .ptr 0 4, (I6 a), .ptr 0 5, (I6 n), .agg [(I6 k), (S6 ({ data := #[] })), (S6 ({ data := #[] })), (I6 0), (I6 a), (I6 n), (S6 ({ data := #[] })), (I6 0), (I6 0), (I6 0)], .agg [(I6 k), (S6 key), (S6 f), (I6 inner), (I6 a), (I6 n), (S6 t), (I6 p), (I6 s), (I6 i)], .agg [(I6 k), (S6 ({ data := #[] })), (S6 ({ data := #[] })), (I6 0), (I6 a), (I6 n), (S6 ({ data := #[] })), (I6 0), (I6 0), (I6 0)], (B6 false), (B6 false), .tup [], .tup [], .tup [], .tup [], .tup [], .tup [], .tup [], .tup [], (B6 false), (B6 false), .tup [], .tup [], .tup [], (B6 false)] ++ UU 43, [⟨[(I6 k), (S6 key), (S6 f), (I6 inner), (I6 a), (I6 n), (S6 t), (I6 p), (I6 s), (I6 i)], 10, .fresh⟩, ⟨[(I6 0), (I6 0), (I6 0)], 3, .fresh⟩, ⟨[(I6 k), (S6 ({ data := #[] })), (S6 ({ data := #[] })), (I6 0), (I6 a), (I6 n), (S6 ({ data := #[] })), (I6 0), (I6 0), (I6 0)], 10, .fresh⟩]⟩ (by kernel_rfl) (tt 4) ?_
      refine AWP.ret ?_
      refine EvF.fin (.sc (.bool false)) _ (by simp) (by kernel_rfl) ?_
      refine Shrink.all ?_ rfl
      (congr 2; grind [opP, refP]; done)
    · have h2' := h2
      simp only [Bool.and_eq_true, Bool.and_eq_false_iff, Bool.or_eq_true, Bool.or_eq_false_iff, Bool.not_eq_true', Bool.not_eq_false', beq_iff_eq, beq_eq_false_iff_ne, decide_eq_true_eq, decide_eq_false_iff_not, ne_eq] at h2'
      refine DerQ.pre 4 ((True) ∧ ((4 < List.length [(I6 k), (S6 key), (S6 f), (I6 inner), (I6 a), (I6 n), (S6 t), (I6 p), (I6 s), (I6 i)]) ∧ ((True) ∧ ((True) ∧ (True))))) ⟨[.agg [(I6 k), (S6 key), (S6 f), (I6 inner), (I6 a), (I6 n), (S6 t), (I6 p), (I6 s), (I6 i)], .ptr 0 0, (B6 false), .ptr 1 0, .ptr 2 0, U6, U6, .agg [(I6 0), (I6 0), (I6 0)], .ptr 0 0, (I6 k), (B6 (k == 7)), .ptr 0 0, (I6 k), .ptr 0 4, (I6 a), .ptr 0 5, (I6 n), .agg [(I6 k), (S6 ({ data := #[] })), (S6 ({ data := #[] })), (I6 0), (I6 a), (I6 n), (S6 ({ data := #[] })), (I6 0), (I6 0), (I6 0)], .agg [(I6 k), (S6 key), (S6 f), (I6 inner), (I6 a), (I6 n), (S6 t), (I6 p), (I6 s), (I6 i)], .agg [(I6 k), (S6 ({ data := #[] })), (S6 ({ data := #[] })), (I6 0), (I6 a), (I6 n), (S6 ({ data := #[] })), (I6 0), (I6 0), (I6 0)], (B6 true), (B6 true), .ptr 0 4, (I6 a), (B6 (a == 1)), (B6 (a == 1))] ++ UU 53, [⟨[(I6 k), (S6 key), (S6 f), (I6 inner), (I6 a), (I6 n), (S6 t), (I6 p), (I6 s), (I6 i)], 10, .fresh⟩, ⟨[(I6 0), (I6 0), (I6 0)], 3, .fresh⟩, ⟨[(I6 k), (S6 ({ data := #[] })), (S6 ({ data := #[] })), (I6 0), (I6 a), (I6 n), (S6 ({ data := #[] })), (I6 0), (I6 0), (I6 0)], 10, .fresh⟩]⟩ (by kernel_rfl) ⟨trivial, ⟨(by simp), ⟨trivial, ⟨trivial, trivial⟩⟩⟩⟩ ?_
      cases h3 : (a == 1)
      · have h3' := ne_of_beq_false h3
        refine DerQ.pre 6 ((True) ∧ ((4 < List.length [(I6 k), (S6 key), (S6 f), (I6 inner), (I6 a), (I6 n), (S6 t), (I6 p), (I6 s), (I6 i)]) ∧ ((True) ∧ ((True) ∧ ((True) ∧ ((True) ∧ (True))))))) ⟨[.agg [(I6 k), (S6 key), (S6 f), (I6 inner), (I6 a), (I6 n), (S6 t), (I6 p), (I6 s), (I6 i)], .ptr 0 0, (B6 false), .ptr 1 0, .ptr 2 0, U6, U6, .agg [(I6 0), (I6 0), (I6 0)], .ptr 0 0, (I6 k), (B6 (k == 7)), .ptr 0 0, (I6 k), .ptr 0 4, (I6 a), .ptr 0 5, (I6 n), .agg [(I6 k), (S6 ({ data := #[] })), (S6 ({ data := #[] })), (I6 0), (I6 a), (I6 n), (S6 ({ data := #[] })), (I6 0), (I6 0), (I6 0)], .agg [(I6 k), (S6 key), (S6 f), (I6 inner), (I6 a), (I6 n), (S6 t), (I6 p), (I6 s), (I6 i)], .agg [(I6 k), (S6 ({ data := #[] })), (S6 ({ data := #[] })), (I6 0), (I6 a), (I6 n), (S6 ({ data := #[] })), (I6 0), (I6 0), (I6 0)], (B6 true), (B6 true), .ptr 0 4, (I6 a), (B6 false), (B6 false), .ptr 0 4, (I6 a), (B6 (a == 2)), (B6 (a == 2)), (B6 (a == 2)), (B6 (a == 2))] ++ UU 47, [⟨[(I6 k), (S6 key), (S6 f), (I6 inner), (I6 a), (I6 n), (S6 t), (I6 p), (I6 s), (I6 i)], 10, .fresh⟩, ⟨[(I6 0), (I6 0), (I6 0)], 3, .fresh⟩, ⟨[(I6 k), (S6 ({ data := #[] })), (S6 ({ data := #[] })), (I6 0), (I6 a), (I6 n), (S6 ({ data := #[] })), (I6 0), (I6 0), (I6 0)], 10, .fresh⟩]⟩ (by kernel_rfl) ⟨trivial, ⟨(by simp), ⟨trivial, ⟨trivial, ⟨trivial, ⟨trivial, trivial⟩⟩⟩⟩⟩⟩ ?_
        cases h4 : (a == 2)
        · have h4' := ne_of_beq_false h4
          refine DerQ.run (TT 2) ⟨[.agg [(I6 k), (S6 key), (S6 f), (I6 inner), (I6 a), (I6 n), (S6 t), (I6 p), (I6 s), (I6 i)], .ptr 0 0, (B6 false), .ptr 1 0, .ptr 2 0, U6, U6, .agg [(I6 0), (I6 0), (I6 0)], .ptr 0 0, (I6 k), (B6 (k == 7)), .ptr 0 0, (I6 k), .ptr 0 4, (I6 a), .ptr 0 5, (I6 n), .agg [(I6 k), (S6 ({ data := #[] })), (S6 ({ data := #[] })), (I6 0), (I6 a), (I6 n), (S6 ({ data := #[] })), (I6 0), (I6 0), (I6 0)], .agg [(I6 k), (S6 key), (S6 f), (I6 inner), (I6 a), (I6 n), (S6 t), (I6 p), (I6 s), (I6 i)], .agg [(I6 k), (S6 ({ data := #[] })), (S6 ({ data := #[] })), (I6 0), (I6 a), (I6 n), (S6 ({ data := #[] })), (I6 0), (I6 0), (I6 0)], (B6 true), (B6 true), .ptr 0 4, (I6 a), (B6 false), (B6 false), .ptr 0 4, (I6 a), (B6 false), (B6 false), (B6 false), (B6 false), .tup [], .tup [], .tup [], (B6 false)] ++ UU 43, [⟨[(I6 k), (S6 key), (S6 f), (I6 inner), (I6 a), (I6 n), (S6 t), (I6 p), (I6 s), (I6 i)], 10, .fresh⟩, ⟨[(I6 0), (I6 0), (I6 0)], 3, .fresh⟩, ⟨[(I6 k), (S6 ({ data := #[] })), (S6 ({ data := #[] })), (I6 0), (I6 a), (I6 n), (S6 ({ data := #[] })), (I6 0), (I6 0), (I6 0)], 10, .fresh⟩]⟩ (by kernel_rfl) (tt 2) ?_
          refine AWP.ret ?_
          refine EvF.fin (.sc (.bool false)) _ (by simp) (by kernel_rfl) ?_
          refine Shrink.all ?_ rfl
          (congr 2; rw [Bool.eq_iff_iff]; simp [opP, refP, *] <;> omega; done)
        · have h4' := eq_of_beq h4
          refine DerQ.pre 2 ((True) ∧ ((5 < List.length [(I6 k), (S6 key), (S6 f), (I6 inner), (I6 a), (I6 n), (S6 t), (I6 p), (I6 s), (I6 i)]) ∧ (True))) ⟨[.agg [(I6 k), (S6 key), (S6 f), (I6 inner), (I6 a), (I6 n), (S6 t), (I6 p), (I6 s), (I6 i)], .ptr 0 0, (B6 false), .ptr 1 0, .ptr 2 0, U6, U6, .agg [(I6 0), (I6 0), (I6 0)], .ptr 0 0, (I6 k), (B6 (k == 7)), .ptr 0 0, (I6 k), .ptr 0 4, (I6 a), .ptr 0 5, (I6 n), .agg [(I6 k), (S6 ({ data := #[] })), (S6 ({ data := #[] })), (I6 0), (I6 a), (I6 n), (S6 ({ data := #[] })), (I6 0), (I6 0), (I6 0)], .agg [(I6 k), (S6 key), (S6 f), (I6 inner), (I6 a), (I6 n), (S6 t), (I6 p), (I6 s), (I6 i)], .agg [(I6 k), (S6 ({ data := #[] })), (S6 ({ data := #[] })), (I6 0), (I6 a), (I6 n), (S6 ({ data := #[] })), (I6 0), (I6 0), (I6 0)], (B6 true), (B6 true), .ptr 0 4, (I6 a), (B6 false), (B6 false), .ptr 0 4, (I6 a), (B6 true), (B6 true), (B6 true), (B6 true), .ptr 0 5, (I6 n)] ++ UU 45, [⟨[(I6 k), (S6 key), (S6 f), (I6 inner), (I6 a), (I6 n), (S6 t), (I6 p), (I6 s), (I6 i)], 10, .fresh⟩, ⟨[(I6 0), (I6 0), (I6 0)], 3, .fresh⟩, ⟨[(I6 k), (S6 ({ data := #[] })), (S6 ({ data := #[] })), (I6 0), (I6 a), (I6 n), (S6 ({ data := #[] })), (I6 0), (I6 0), (I6 0)], 10, .fresh⟩]⟩ (by kernel_rfl) ⟨trivial, ⟨(by simp), trivial⟩⟩ ?_
          refine DerQ.callD (r_peer n) ⟨[.agg [(I6 k), (S6 key), (S6 f), (I6 inner), (I6 a), (I6 n), (S6 t), (I6 p), (I6 s), (I6 i)], .ptr 0 0, (B6 false), .ptr 1 0, .ptr 2 0, U6, U6, .agg [(I6 0), (I6 0), (I6 0)], .ptr 0 0, (I6 k), (B6 (k == 7)), .ptr 0 0, (I6 k), .ptr 0 4, (I6 a), .ptr 0 5, (I6 n), .agg [(I6 k), (S6 ({ data := #[] })), (S6 ({ data := #[] })), (I6 0), (I6 a), (I6 n), (S6 ({ data := #[] })), (I6 0), (I6 0), (I6 0)], .agg [(I6 k), (S6 key), (S6 f), (I6 inner), (I6 a), (I6 n), (S6 t), (I6 p), (I6 s), (I6 i)], .agg [(I6 k), (S6 ({ data := #[] })), (S6 ({ data := #[] })), (I6 0), (I6 a), (I6 n), (S6 ({ data := #[] })), (I6 0), (I6 0), (I6 0)], (B6 true), (B6 true), .ptr 0 4, (I6 a), (B6 false), (B6 false), .ptr 0 4, (I6 a), (B6 true), (B6 true), (B6 true), (B6 true), .ptr 0 5, (I6 n), (B6 (decide (1 ≤ n ∧ n ≤ 12)))] ++ UU 44, [⟨[(I6 k), (S6 key), (S6 f), (I6 inner), (I6 a), (I6 n), (S6 t), (I6 p), (I6 s), (I6 i)], 10, .fresh⟩, ⟨[(I6 0), (I6 0), (I6 0)], 3, .fresh⟩, ⟨[(I6 k), (S6 ({ data := #[] })), (S6 ({ data := #[] })), (I6 0), (I6 a), (I6 n), (S6 ({ data := #[] })), (I6 0), (I6 0), (I6 0)], 10, .fresh⟩]⟩ ⟨by kernel_rfl, by kernel_rfl, by kernel_rfl⟩ ?_
          refine DerQ.run (TT 2) ⟨[.agg [(I6 k), (S6 key), (S6 f), (I6 inner), (I6 a), (I6 n), (S6 t), (I6 p), (I6 s), (I6 i)], .ptr 0 0, (B6 (decide (1 ≤ n ∧ n ≤ 12))), .ptr 1 0, .ptr 2 0, U6, U6, .agg [(I6 0), (I6 0), (I6 0)], .ptr 0 0, (I6 k), (B6 (k == 7)), .ptr 0 0, (I6 k), .ptr 0 4, (I6 a), .ptr 0 5, (I6 n), .agg [(I6 k), (S6 ({ data := #[] })), (S6 ({ data := #[] })), (I6 0), (I6 a), (I6 n), (S6 ({ data := #[] })), (I6 0), (I6 0), (I6 0)], .agg [(I6 k), (S6 key), (S6 f), (I6 inner), (I6 a), (I6 n), (S6 t), (I6 p), (I6 s), (I6 i)], .agg [(I6 k), (S6 ({ data := #[] })), (S6 ({ data := #[] })), (I6 0), (I6 a), (I6 n), (S6 ({ data := #[] })), (I6 0), (I6 0), (I6 0)], (B6 true), (B6 true), .ptr 0 4, (I6 a), (B6 false), (B6 false), .ptr 0 4, (I6 a), (B6 true), (B6 true), (B6 true), (B6 true), .ptr 0 5, (I6 n), (B6 (decide (1 ≤ n ∧ n ≤ 12))), (B6 (decide (1 ≤ n ∧ n ≤ 12)))] ++ UU 43, [⟨[(I6 k), (S6 key), (S6 f), (I6 inner), (I6 a), (I6 n), (S6 t), (I6 p), (I6 s), (I6 i)], 10, .fresh⟩, ⟨[(I6 0), (I6 0), (I6 0)], 3, .fresh⟩, ⟨[(I6 k), (S6 ({ data := #[] })), (S6 ({ data := #[] })), (I6 0), (I6 a), (I6 n), (S6 ({ data := #[] })), (I6 0), (I6 0), (I6 0)], 10, .fresh⟩]⟩ (by kernel_rfl) (tt 2) ?_
          refine AWP.ret ?_
          refine EvF.fin (.sc (.bool (decide (1 ≤ n ∧ n ≤ 12)))) _ (by simp) (by kernel_rfl) ?_
          refine Shrink.all ?_ rfl
          (congr 2; rw [Bool.eq_iff_iff]; simp [opP, refP, *] <;> omega; done)
      · have h3' := eq_of_beq h3
        refine DerQ.pre 8 ((True) ∧ ((True) ∧ ((True) ∧ ((True) ∧ ((5 < List.length [(I6 k), (S6 key), (S6 f), (I6 inner), (I6 a), (I6 n), (S6 t), (I6 p), (I6 s), (I6 i)]) ∧ (True)))))) ⟨[.agg [(I6 k), (S6 key), (S6 f), (I6 inner), (I6 a), (I6 n), (S6 t), (I6 p), (I6 s), (I6 i)], .ptr 0 0, (B6 false), .ptr 1 0, .ptr 2 0, U6, U6, .agg [(I6 0), (I6 0), (I6 0)], .ptr 0 0, (I6 k), (B6 (k == 7)), .ptr 0 0, (I6 k), .ptr 0 4, (I6 a), .ptr 0 5, (I6 n), .agg [(I6 k), (S6 ({ data := #[] })), (S6 ({ data := #[] })), (I6 0), (I6 a), (I6 n), (S6 ({ data := #[] })), (I6 0), (I6 0), (I6 0)], .agg [(I6 k), (S6 key), (S6 f), (I6 inner), (I6 a), (I6 n), (S6 t), (I6 p), (I6 s), (I6 i)], .agg [(I6 k), (S6 ({ data := #[] })), (S6 ({ data := #[] })), (I6 0), (I6 a), (I6 n), (S6 ({ data := #[] })), (I6 0), (I6 0), (I6 0)], (B6 true), (B6 true), .ptr 0 4, (I6 a), (B6 true), (B6 true), .tup [], .tup [], .tup [], (B6 true), (B6 true), (B6 true), .ptr 0 5, (I6 n)] ++ UU 45, [⟨[(I6 k), (S6 key), (S6 f), (I6 inner), (I6 a), (I6 n), (S6 t), (I6 p), (I6 s), (I6 i)], 10, .fresh⟩, ⟨[(I6 0), (I6 0), (I6 0)], 3, .fresh⟩, ⟨[(I6 k), (S6 ({ data := #[] })), (S6 ({ data := #[] })), (I6 0), (I6 a), (I6 n), (S6 ({ data := #[] })), (I6 0), (I6 0), (I6 0)], 10, .fresh⟩]⟩ (by kernel_rfl) ⟨trivial, ⟨trivial, ⟨trivial, ⟨trivial, ⟨(by simp), trivial⟩⟩⟩⟩⟩ ?_
        refine DerQ.callD (r_peer n) ⟨[.agg [(I6 k), (S6 key), (S6 f), (I6 inner), (I6 a), (I6 n), (S6 t), (I6 p), (I6 s), (I6 i)], .ptr 0 0, (B6 false), .ptr 1 0, .ptr 2 0, U6, U6, .agg [(I6 0), (I6 0), (I6 0)], .ptr 0 0, (I6 k), (B6 (k == 7)), .ptr 0 0, (I6 k), .ptr 0 4, (I6 a), .ptr 0 5, (I6 n), .agg [(I6 k), (S6 ({ data := #[] })), (S6 ({ data := #[] })), (I6 0), (I6 a), (I6 n), (S6 ({ data := #[] })), (I6 0), (I6 0), (I6 0)], .agg [(I6 k), (S6 key), (S6 f), (I6 inner), (I6 a), (I6 n), (S6 t), (I6 p), (I6 s), (I6 i)], .agg [(I6 k), (S6 ({ data := #[] })), (S6 ({ data := #[] })), (I6 0), (I6 a), (I6 n), (S6 ({ data := #[] })), (I6 0), (I6 0), (I6 0)], (B6 true), (B6 true), .ptr 0 4, (I6 a), (B6 true), (B6 true), .tup [], .tup [], .tup [], (B6 true), (B6 true), (B6 true), .ptr 0 5, (I6 n), (B6 (decide (1 ≤ n ∧ n ≤ 12)))] ++ UU 44, [⟨[(I6 k), (S6 key), (S6 f), (I6 inner), (I6 a), (I6 n), (S6 t), (I6 p), (I6 s), (I6 i)], 10, .fresh⟩, ⟨[(I6 0), (I6 0), (I6 0)], 3, .fresh⟩, ⟨[(I6 k), (S6 ({ data := #[] })), (S6 ({ data := #[] })), (I6 0), (I6 a), (I6 n), (S6 ({ data := #[] })), (I6 0), (I6 0), (I6 0)], 10, .fresh⟩]⟩ ⟨by kernel_rfl, by kernel_rfl, by kernel_rfl⟩ ?_
        refine DerQ.run (TT 2) ⟨[.agg [(I6 k), (S6 key), (S6 f), (I6 inner), (I6 a), (I6 n), (S6 t), (I6 p), (I6 s), (I6 i)], .ptr 0 0, (B6 (decide (1 ≤ n ∧ n ≤ 12))), .ptr 1 0, .ptr 2 0, U6, U6, .agg [(I6 0), (I6 0), (I6 0)], .ptr 0 0, (I6 k), (B6 (k == 7)), .ptr 0 0, (I6 k), .ptr 0 4, (I6 a), .ptr 0 5, (I6 n), .agg [(I6 k), (S6 ({ data := #[] })), (S6 ({ data := #[] })), (I6 0), (I6 a), (I6 n), (S6 ({ data := #[] })), (I6 0), (I6 0), (I6 0)], .agg [(I6 k), (S6 key), (S6 f), (I6 inner), (I6 a), (I6 n), (S6 t), (I6 p), (I6 s), (I6 i)], .agg [(I6 k), (S6 ({ data := #[] })), (S6 ({ data := #[] })), (I6 0), (I6 a), (I6 n), (S6 ({ data := #[] })), (I6 0), (I6 0), (I6 0)], (B6 true), (B6 true), .ptr 0 4, (I6 a), (B6 true), (B6 true), .tup [], .tup [], .tup [], (B6 true), (B6 true), (B6 true), .ptr 0 5, (I6 n), (B6 (decide (1 ≤ n ∧ n ≤ 12))), (B6 (decide (1 ≤ n ∧ n ≤ 12)))] ++ UU 43, [⟨[(I6 k), (S6 key), (S6 f), (I6 inner), (I6 a), (I6 n), (S6 t), (I6 p), (I6 s), (I6 i)], 10, .fresh⟩, ⟨[(I6 0), (I6 0), (I6 0)], 3, .fresh⟩, ⟨[(I6 k), (S6 ({ data := #[] })), (S6 ({ data := #[] })), (I6 0), (I6 a), (I6 n), (S6 ({ data := #[] })), (I6 0), (I6 0), (I6 0)], 10, .fresh⟩]⟩ (by kernel_rfl) (tt 2) ?_
        refine AWP.ret ?_
        refine EvF.fin (.sc (.bool (decide (1 ≤ n ∧ n ≤ 12)))) _ (by simp) (by kernel_rfl) ?_
        refine Shrink.all ?_ rfl
        (congr 2; rw [Bool.eq_iff_iff]; simp [opP, refP, *] <;> omega; done)
  · have h1' := ne_of_beq_false h1
    refine AWP.skip ?_
    refine AWP.seq ?_
    refine AWP.reg ?_
    refine DerQ.pre 14 ((True) ∧ ((0 < List.length [(I6 k), (S6 key), (S6 f), (I6 inner), (I6 a), (I6 n), (S6 t), (I6 p), (I6 s), (I6 i)]) ∧ ((True) ∧ ((1 < List.length [(I6 k), (S6 key), (S6 f), (I6 inner), (I6 a), (I6 n), (S6 t), (I6 p), (I6 s), (I6 i)]) ∧ ((True) ∧ ((2 < List.length [(I6 k), (S6 key), (S6 f), (I6 inner), (I6 a), (I6 n), (S6 t), (I6 p), (I6 s), (I6 i)]) ∧ ((True) ∧ ((3 < List.length [(I6 k), (S6 key), (S6 f), (I6 inner), (I6 a), (I6 n), (S6 t), (I6 p), (I6 s), (I6 i)]) ∧ ((True) ∧ ((4 < List.length [(I6 k), (S6 key), (S6 f), (I6 inner), (I6 a), (I6 n), (S6 t), (I6 p), (I6 s), (I6 i)]) ∧ ((True) ∧ ((5 < List.length [(I6 k), (S6 key), (S6 f), (I6 inner), (I6 a), (I6 n), (S6 t), (I6 p), (I6 s), (I6 i)]) ∧ ((True) ∧ ((6 < List.length [(I6 k), (S6 key), (S6 f), (I6 inner), (I6 a), (I6 n), (S6 t), (I6 p), (I6 s), (I6 i)]) ∧ (True))))))))))))))) ⟨[.agg [(I6 k), (S6 key), (S6 f), (I6 inner), (I6 a), (I6 n), (S6 t), (I6 p), (I6 s), (I6 i)], .ptr 0 0, (B6 false), .ptr 1 0, U6, U6, U6, .agg [(I6 0), (I6 0), (I6 0)], .ptr 0 0, (I6 k), (B6 (k == 7)), U6, U6, U6, U6, U6, U6, U6, U6, U6, U6, U6, U6, U6, U6, U6, U6, U6, U6, U6, U6, U6, U6, U6, U6, U6, U6, .ptr 0 0, (I6 k), .ptr 0 1, (S6 key), .ptr 0 2, (S6 f), .ptr 0 3, (I6 inner), .ptr 0 4, (I6 a), .ptr 0 5, (I6 n), .ptr 0 6, (S6 t)] ++ UU 28, [⟨[(I6 k), (S6 key), (S6 f), (I6 inner), (I6 a), (I6 n), (S6 t), (I6 p), (I6 s), (I6 i)], 10, .fresh⟩, ⟨[(I6 0), (I6 0), (I6 0)], 3, .fresh⟩]⟩ (by kernel_rfl) ⟨trivial, ⟨(by simp), ⟨trivial, ⟨(by simp), ⟨trivial, ⟨(by simp), ⟨trivial, ⟨(by simp), ⟨trivial, ⟨(by simp), ⟨trivial, ⟨(by simp), ⟨trivial, ⟨(by simp), trivial⟩⟩⟩⟩⟩⟩⟩⟩⟩⟩⟩⟩⟩⟩ ?_
    refine DerQ.callD (r_shape k inner a n key f t) ⟨[.agg [(I6 k), (S6 key), (S6 f), (I6 inner), (I6 a), (I6 n), (S6 t), (I6 p), (I6 s), (I6 i)], .ptr 0 0, (B6 false), .ptr 1 0, U6, U6, U6, .agg [(I6 0), (I6 0), (I6 0)], .ptr 0 0, (I6 k), (B6 (k == 7)), U6, U6, U6, U6, U6, U6, U6, U6, U6, U6, U6, U6, U6, U6, U6, U6, U6, U6, U6, U6, U6, U6, U6, U6, U6, U6, .ptr 0 0, (I6 k), .ptr 0 1, (S6 key), .ptr 0 2, (S6 f), .ptr 0 3, (I6 inner), .ptr 0 4, (I6 a), .ptr 0 5, (I6 n), .ptr 0 6, (S6 t), .tup [(I6 (shapeI k inner key f)), (B6 (decide (shapeP k inner a n key f t)))]] ++ UU 27, [⟨[(I6 k), (S6 key), (S6 f), (I6 inner), (I6 a), (I6 n), (S6 t), (I6 p), (I6 s), (I6 i)], 10, .fresh⟩, ⟨[(I6 0), (I6 0), (I6 0)], 3, .fresh⟩]⟩ ⟨by kernel_rfl, by kernel_rfl, by kernel_rfl⟩ ?_
    refine DerQ.run (TT 5) ⟨[.agg [(I6 k), (S6 key), (S6 f), (I6 inner), (I6 a), (I6 n), (S6 t), (I6 p), (I6 s), (I6 i)], .ptr 0 0, (B6 false), .ptr 1 0, U6, (I6 (shapeI k inner key f)), (B6 (decide (shapeP k inner a n key f t))), .agg [(I6 0), (I6 0), (I6 0)], .ptr 0 0, (I6 k), (B6 (k == 7)), U6, U6, U6, U6, U6, U6, U6, U6, U6, U6, U6, U6, U6, U6, U6, U6, U6, U6, U6, U6, U6, U6, U6, U6, U6, .tup [(I6 (shapeI k inner key f)), (B6 (decide (shapeP k inner a n key f t)))], .ptr 0 0, (I6 k), .ptr 0 1, (S6 key), .ptr 0 2, (S6 f), .ptr 0 3, (I6 inner), .ptr 0 4, (I6 a), .ptr 0 5, (I6 n), .ptr 0 6, (S6 t), .tup [(I6 (shapeI k inner key f)), (B6 (decide (shapeP k inner a n key f t)))], (I6 (shapeI k inner key f)), (B6 (decide (shapeP k inner a n key f t)))] ++ UU 25, [⟨[(I6 k), (S6 key), (S6 f), (I6 inner), (I6 a), (I6 n), (S6 t), (I6 p), (I6 s), (I6 i)], 10, .fresh⟩, ⟨[(I6 0), (I6 0), (I6 0)], 3, .fresh⟩]⟩ (by kernel_rfl) (tt 5) ?_
    refine AWP.seq ?_
    refine AWP.seq ?_
    refine AWP.reg ?_
    refine DerQ.run (TT 2) ⟨[.agg [(I6 k), (S6 key), (S6 f), (I6 inner), (I6 a), (I6 n), (S6 t), (I6 p), (I6 s), (I6 i)], .ptr 0 0, (B6 false), .ptr 1 0, U6, (I6 (shapeI k inner key f)), (B6 (decide (shapeP k inner a n key f t))), .agg [(I6 0), (I6 0), (I6 0)], .ptr 0 0, (I6 k), (B6 (k == 7)), U6, U6, U6, U6, U6, U6, U6, U6, U6, U6, U6, U6, U6, U6, U6, U6, U6, U6, U6, U6, U6, U6, U6, U6, U6, .tup [(I6 (shapeI k inner key f)), (B6 (decide (shapeP k inner a n key f t)))], .ptr 0 0, (I6 k), .ptr 0 1, (S6 key), .ptr 0 2, (S6 f), .ptr 0 3, (I6 inner), .ptr 0 4, (I6 a), .ptr 0 5, (I6 n), .ptr 0 6, (S6 t), .tup [(I6 (shapeI k inner key f)), (B6 (decide (shapeP k inner a n key f t)))], (I6 (shapeI k inner key f)), (B6 (decide (shapeP k inner a n key f t))), (B6 (decide (shapeP k inner a n key f t))), (B6 (!decide (shapeP k inner a n key f t)))] ++ UU 23, [⟨[(I6 k), (S6 key), (S6 f), (I6 inner), (I6 a), (I6 n), (S6 t), (I6 p), (I6 s), (I6 i)], 10, .fresh⟩, ⟨[(I6 0), (I6 0), (I6 0)], 3, .fresh⟩]⟩ (by kernel_rfl) (tt 2) ?_
    refine AWP.cond (b := !decide (shapeP k inner a n key f t)) (by kernel_rfl) (fun h2 => ?_) (fun h2 => ?_)
    · have h2' := h2
      simp only [Bool.and_eq_true, Bool.and_eq_false_iff, Bool.or_eq_true, Bool.or_eq_false_iff, Bool.not_eq_true', Bool.not_eq_false', beq_iff_eq, beq_eq_false_iff_ne, decide_eq_true_eq, decide_eq_false_iff_not, ne_eq] at h2'
      refine AWP.seq ?_
      refine AWP.reg ?_
      refine DerQ.run ((True) ∧ (True)) ⟨[.agg [(I6 k), (S6 key), (S6 f), (I6 inner), (I6 a), (I6 n), (S6 t), (I6 p), (I6 s), (I6 i)], .ptr 0 0, (B6 false), .ptr 1 0, U6, (I6 (shapeI k inner key f)), (B6 (decide (shapeP k inner a n key f t))), .agg [(I6 0), (I6 0), (I6 0)], .ptr 0 0, (I6 k), (B6 (k == 7)), U6, U6, U6, U6, U6, U6, U6, U6, U6, U6, U6, U6, U6, U6, U6, U6, U6, U6, U6, U6, U6, U6, U6, U6, U6, .tup [(I6 (shapeI k inner key f)), (B6 (decide (shapeP k inner a n key f t)))], .ptr 0 0, (I6 k), .ptr 0 1, (S6 key), .ptr 0 2, (S6 f), .ptr 0 3, (I6 inner), .ptr 0 4, (I6 a), .ptr 0 5, (I6 n), .ptr 0 6, (S6 t), .tup [(I6 (shapeI k inner key f)), (B6 (decide (shapeP k inner a n key f t)))], (I6 (shapeI k inner key f)), (B6 (decide (shapeP k inner a n key f t))), (B6 (decide (shapeP k inner a n key f t))), (B6 (!decide (shapeP k inner a n key f t)))] ++ UU 23, [⟨[(I6 k), (S6 key), (S6 f), (I6 inner), (I6 a), (I6 n), (S6 t), (I6 p), (I6 s), (I6 i)], 10, .fresh⟩, ⟨[(I6 0), (I6 0), (I6 0)], 3, .fresh⟩]⟩ (by kernel_rfl) ⟨trivial, trivial⟩ ?_
      refine AWP.ret ?_
      refine EvF.fin (.sc (.bool false)) _ (by simp) (by kernel_rfl) ?_
      refine Shrink.all ?_ rfl
      (congr 2; grind [opP, refP]; done)
    · have h2' := h2
      simp only [Bool.and_eq_true, Bool.and_eq_false_iff, Bool.or_eq_true, Bool.or_eq_false_iff, Bool.not_eq_true', Bool.not_eq_false', beq_iff_eq, beq_eq_false_iff_ne, decide_eq_true_eq, decide_eq_false_iff_not, ne_eq] at h2'
      refine AWP.skip ?_
      refine AWP.seq ?_
      refine AWP.seq ?_
      refine AWP.reg ?_
      refine DerQ.pre 3 ((True) ∧ ((True) ∧ ((4 < List.length [(I6 k), (S6 key), (S6 f), (I6 inner), (I6 a), (I6 n), (S6 t), (I6 p), (I6 s), (I6 i)]) ∧ (True)))) ⟨[.agg [(I6 k), (S6 key), (S6 f), (I6 inner), (I6 a), (I6 n), (S6 t), (I6 p), (I6 s), (I6 i)], .ptr 0 0, (B6 false), .ptr 1 0, U6, (I6 (shapeI k inner key f)), (B6 (decide (shapeP k inner a n key f t))), .agg [(I6 0), (I6 0), (I6 0)], .ptr 0 0, (I6 k), (B6 (k == 7)), U6, U6, U6, U6, U6, U6, U6, U6, U6, U6, U6, U6, U6, U6, U6, U6, U6, U6, U6, U6, U6, U6, U6, U6, U6, .tup [(I6 (shapeI k inner key f)), (B6 (decide (shapeP k inner a n key f t)))], .ptr 0 0, (I6 k), .ptr 0 1, (S6 key), .ptr 0 2, (S6 f), .ptr 0 3, (I6 inner), .ptr 0 4, (I6 a), .ptr 0 5, (I6 n), .ptr 0 6, (S6 t), .tup [(I6 (shapeI k inner key f)), (B6 (decide (shapeP k inner a n key f t)))], (I6 (shapeI k inner key f)), (B6 (decide (shapeP k inner a n key f t))), (B6 (decide (shapeP k inner a n key f t))), (B6 (!decide (shapeP k inner a n key f t))), (I6 (shapeI k inner key f)), .ptr 0 4, (I6 a)] ++ UU 20, [⟨[(I6 k), (S6 key), (S6 f), (I6 inner), (I6 a), (I6 n), (S6 t), (I6 p), (I6 s), (I6 i)], 10, .fresh⟩, ⟨[(I6 0), (I6 0), (I6 0)], 3, .fresh⟩]⟩ (by kernel_rfl) ⟨trivial, ⟨trivial, ⟨(by simp), trivial⟩⟩⟩ ?_
      refine DerQ.callD (r_places (shapeI k inner key f) a) ⟨[.agg [(I6 k), (S6 key), (S6 f), (I6 inner), (I6 a), (I6 n), (S6 t), (I6 p), (I6 s), (I6 i)], .ptr 0 0, (B6 false), .ptr 1 0, U6, (I6 (shapeI k inner key f)), (B6 (decide (shapeP k inner a n key f t))), .agg [(I6 0), (I6 0), (I6 0)], .ptr 0 0, (I6 k), (B6 (k == 7)), U6, U6, U6, U6, U6, U6, U6, U6, U6, U6, U6, U6, U6, U6, U6, U6, U6, U6, U6, U6, U6, U6, U6, U6, U6, .tup [(I6 (shapeI k inner key f)), (B6 (decide (shapeP k inner a n key f t)))], .ptr 0 0, (I6 k), .ptr 0 1, (S6 key), .ptr 0 2, (S6 f), .ptr 0 3, (I6 inner), .ptr 0 4, (I6 a), .ptr 0 5, (I6 n), .ptr 0 6, (S6 t), .tup [(I6 (shapeI k inner key f)), (B6 (decide (shapeP k inner a n key f t)))], (I6 (shapeI k inner key f)), (B6 (decide (shapeP k inner a n key f t))), (B6 (decide (shapeP k inner a n key f t))), (B6 (!decide (shapeP k inner a n key f t))), (I6 (shapeI k inner key f)), .ptr 0 4, (I6 a), (B6 (decide (shapeI k inner key f = 5 ∧ a ≠ 5)))] ++ UU 19, [⟨[(I6 k), (S6 key), (S6 f), (I6 inner), (I6 a), (I6 n), (S6 t), (I6 p), (I6 s), (I6 i)], 10, .fresh⟩, ⟨[(I6 0), (I6 0), (I6 0)], 3, .fresh⟩]⟩ ⟨by kernel_rfl, by kernel_rfl, by kernel_rfl⟩ ?_
      refine DerQ.run ((True) ∧ (True)) ⟨[.agg [(I6 k), (S6 key), (S6 f), (I6 inner), (I6 a), (I6 n), (S6 t), (I6 p), (I6 s), (I6 i)], .ptr 0 0, (B6 false), .ptr 1 0, U6, (I6 (shapeI k inner key f)), (B6 (decide (shapeP k inner a n key f t))), .agg [(I6 0), (I6 0), (I6 0)], .ptr 0 0, (I6 k), (B6 (k == 7)), U6, U6, U6, U6, U6, U6, U6, U6, U6, U6, U6, U6, U6, U6, U6, U6, U6, U6, U6, U6, U6, U6, U6, U6, U6, .tup [(I6 (shapeI k inner key f)), (B6 (decide (shapeP k inner a n key f t)))], .ptr 0 0, (I6 k), .ptr 0 1, (S6 key), .ptr 0 2, (S6 f), .ptr 0 3, (I6 inner), .ptr 0 4, (I6 a), .ptr 0 5, (I6 n), .ptr 0 6, (S6 t), .tup [(I6 (shapeI k inner key f)), (B6 (decide (shapeP k inner a n key f t)))], (I6 (shapeI k inner key f)), (B6 (decide (shapeP k inner a n key f t))), (B6 (decide (shapeP k inner a n key f t))), (B6 (!decide (shapeP k inner a n key f t))), (I6 (shapeI k inner key f)), .ptr 0 4, (I6 a), (B6 (decide (shapeI k inner key f = 5 ∧ a ≠ 5))), (B6 (!decide (shapeI k inner key f = 5 ∧ a ≠ 5)))] ++ UU 18, [⟨[(I6 k), (S6 key), (S6 f), (I6 inner), (I6 a), (I6 n), (S6 t), (I6 p), (I6 s), (I6 i)], 10, .fresh⟩, ⟨[(I6 0), (I6 0), (I6 0)], 3, .fresh⟩]⟩ (by kernel_rfl) ⟨trivial, trivial⟩ ?_
      refine AWP.cond (b := !decide (shapeI k inner key f = 5 ∧ a ≠ 5)) (by kernel_rfl) (fun h3 => ?_) (fun h3 => ?_)
      · have h3' := h3
        simp only [Bool.and_eq_true, Bool.and_eq_false_iff, Bool.or_eq_true, Bool.or_eq_false_iff, Bool.not_eq_true', Bool.not_eq_false', beq_iff_eq, beq_eq_false_iff_ne, decide_eq_true_eq, decide_eq_false_iff_not, ne_eq] at h3'
        refine AWP.seq ?_
        refine AWP.reg ?_
        refine DerQ.run ((True) ∧ ((10 ≤ List.length [(I6 k), (S6 key), (S6 f), (I6 inner), (I6 a), (I6 n), (S6 t), (I6 p), (I6 s), (I6 i)]) ∧ (((3 : Nat) ≤ (3 : Nat)) ∧ ((((2 ≤ List.length [(I6 p), (I6 s), (I6 i)]) ∧ (((2 : Nat) ≤ (3 : Nat)) ∧ (((0 < List.length [(I6 p), (I6 s)]) ∧ (((0 : Nat) < (2 : Nat)) ∧ (True))) ∧ ((1 < List.length [(I6 p), (I6 s)]) ∧ (((1 : Nat) < (2 : Nat)) ∧ (True)))))) ∧ ((2 < List.length [(I6 p), (I6 s), (I6 i)]) ∧ (((2 : Nat) < (3 : Nat)) ∧ (True)))) ∧ ((True) ∧ (True)))))) ⟨[.agg [(I6 k), (S6 key), (S6 f), (I6 inner), (I6 a), (I6 n), (S6 t), (I6 p), (I6 s), (I6 i)], .ptr 0 0, (B6 (p == 0 && s == 0 && i == 0)), .ptr 1 0, U6, (I6 (shapeI k inner key f)), (B6 (decide (shapeP k inner a n key f t))), .agg [(I6 0), (I6 0), (I6 0)], .ptr 0 0, (I6 k), (B6 (k == 7)), U6, U6, U6, U6, U6, U6, U6, U6, U6, U6, U6, U6, U6, U6, U6, U6, U6, U6, U6, U6, U6, U6, U6, U6, U6, .tup [(I6 (shapeI k inner key f)), (B6 (decide (shapeP k inner a n key f t)))], .ptr 0 0, (I6 k), .ptr 0 1, (S6 key), .ptr 0 2, (S6 f), .ptr 0 3, (I6 inner), .ptr 0 4, (I6 a), .ptr 0 5, (I6 n), .ptr 0 6, (S6 t), .tup [(I6 (shapeI k inner key f)), (B6 (decide (shapeP k inner a n key f t)))], (I6 (shapeI k inner key f)), (B6 (decide (shapeP k inner a n key f t))), (B6 (decide (shapeP k inner a n key f t))), (B6 (!decide (shapeP k inner a n key f t))), (I6 (shapeI k inner key f)), .ptr 0 4, (I6 a), (B6 (decide (shapeI k inner key f = 5 ∧ a ≠ 5))), (B6 (!decide (shapeI k inner key f = 5 ∧ a ≠ 5))), .ptr 0 7, .agg [(I6 p), (I6 s), (I6 i)], .agg [(I6 0), (I6 0), (I6 0)], (B6 (p == 0 && s == 0 && i == 0))] ++ UU 14, [⟨[(I6 k), (S6 key), (S6 f), (I6 inner), (I6 a), (I6 n), (S6 t), (I6 p), (I6 s), (I6 i)], 10, .fresh⟩, ⟨[(I6 0), (I6 0), (I6 0)], 3, .fresh⟩]⟩ (by kernel_rfl) ⟨trivial, ⟨(by simp), ⟨(by omega), ⟨⟨⟨(by simp), ⟨(by omega), ⟨⟨(by simp), ⟨(by omega), trivial⟩⟩, ⟨(by simp), ⟨(by omega), trivial⟩⟩⟩⟩⟩, ⟨(by simp), ⟨(by omega), trivial⟩⟩⟩, ⟨trivial, trivial⟩⟩⟩⟩⟩ ?_
        refine AWP.ret ?_
        refine EvF.fin (.sc (.bool (p == 0 && s == 0 && i == 0))) _ (by simp) (by kernel_rfl) ?_
        refine Shrink.all ?_ rfl
        (congr 2; grind [opP, refP]; done)
      · have h3' := h3
        simp only [Bool.and_eq_true, Bool.and_eq_false_iff, Bool.or_eq_true, Bool.or_eq_false_iff, Bool.not_eq_true', Bool.not_eq_false', beq_iff_eq, beq_eq_false_iff_ne, decide_eq_true_eq, decide_eq_false_iff_not, ne_eq] at h3'
        refine AWP.skip ?_
        refine AWP.seq ?_
        refine AWP.reg ?_
        refine DerQ.pre 2 ((True) ∧ ((10 ≤ List.length [(I6 k), (S6 key), (S6 f), (I6 inner), (I6 a), (I6 n), (S6 t), (I6 p), (I6 s), (I6 i)]) ∧ (True))) ⟨[.agg [(I6 k), (S6 key), (S6 f), (I6 inner), (I6 a), (I6 n), (S6 t), (I6 p), (I6 s), (I6 i)], .ptr 0 0, (B6 false), .ptr 1 0, U6, (I6 (shapeI k inner key f)), (B6 (decide (shapeP k inner a n key f t))), .agg [(I6 0), (I6 0), (I6 0)], .ptr 0 0, (I6 k), (B6 (k == 7)), U6, U6, U6, U6, U6, U6, U6, U6, U6, U6, U6, U6, U6, U6, U6, U6, U6, U6, U6, U6, U6, U6, U6, U6, U6, .tup [(I6 (shapeI k inner key f)), (B6 (decide (shapeP k inner a n key f t)))], .ptr 0 0, (I6 k), .ptr 0 1, (S6 key), .ptr 0 2, (S6 f), .ptr 0 3, (I6 inner), .ptr 0 4, (I6 a), .ptr 0 5, (I6 n), .ptr 0 6, (S6 t), .tup [(I6 (shapeI k inner key f)), (B6 (decide (shapeP k inner a n key f t)))], (I6 (shapeI k inner key f)), (B6 (decide (shapeP k inner a n key f t))), (B6 (decide (shapeP k inner a n key f t))), (B6 (!decide (shapeP k inner a n key f t))), (I6 (shapeI k inner key f)), .ptr 0 4, (I6 a), (B6 (decide (shapeI k inner key f = 5 ∧ a ≠ 5))), (B6 (!decide (shapeI k inner key f = 5 ∧ a ≠ 5))), U6, U6, U6, U6, .ptr 0 7, .agg [(I6 p), (I6 s), (I6 i)]] ++ UU 12, [⟨[(I6 k), (S6 key), (S6 f), (I6 inner), (I6 a), (I6 n), (S6 t), (I6 p), (I6 s), (I6 i)], 10, .fresh⟩, ⟨[(I6 0), (I6 0), (I6 0)], 3, .fresh⟩]⟩ (by kernel_rfl) ⟨trivial, ⟨(by simp), trivial⟩⟩ ?_
        refine DerQ.callD (r_ref p s i) ⟨[.agg [(I6 k), (S6 key), (S6 f), (I6 inner), (I6 a), (I6 n), (S6 t), (I6 p), (I6 s), (I6 i)], .ptr 0 0, (B6 false), .ptr 1 0, U6, (I6 (shapeI k inner key f)), (B6 (decide (shapeP k inner a n key f t))), .agg [(I6 0), (I6 0), (I6 0)], .ptr 0 0, (I6 k), (B6 (k == 7)), U6, U6, U6, U6, U6, U6, U6, U6, U6, U6, U6, U6, U6, U6, U6, U6, U6, U6, U6, U6, U6, U6, U6, U6, U6, .tup [(I6 (shapeI k inner key f)), (B6 (decide (shapeP k inner a n key f t)))], .ptr 0 0, (I6 k), .ptr 0 1, (S6 key), .ptr 0 2, (S6 f), .ptr 0 3, (I6 inner), .ptr 0 4, (I6 a), .ptr 0 5, (I6 n), .ptr 0 6, (S6 t), .tup [(I6 (shapeI k inner key f)), (B6 (decide (shapeP k inner a n key f t)))], (I6 (shapeI k inner key f)), (B6 (decide (shapeP k inner a n key f t))), (B6 (decide (shapeP k inner a n key f t))), (B6 (!decide (shapeP k inner a n key f t))), (I6 (shapeI k inner key f)), .ptr 0 4, (I6 a), (B6 (decide (shapeI k inner key f = 5 ∧ a ≠ 5))), (B6 (!decide (shapeI k inner key f = 5 ∧ a ≠ 5))), U6, U6, U6, U6, .ptr 0 7, .agg [(I6 p), (I6 s), (I6 i)], (B6 (decide (refP p s i)))] ++ UU 11, [⟨[(I6 k), (S6 key), (S6 f), (I6 inner), (I6 a), (I6 n), (S6 t), (I6 p), (I6 s), (I6 i)], 10, .fresh⟩, ⟨[(I6 0), (I6 0), (I6 0)], 3, .fresh⟩]⟩ ⟨by kernel_rfl, by kernel_rfl, by kernel_rfl⟩ ?_
        refine DerQ.pre 1 ((True) ∧ (True)) ⟨[.agg [(I6 k), (S6 key), (S6 f), (I6 inner), (I6 a), (I6 n), (S6 t), (I6 p), (I6 s), (I6 i)], .ptr 0 0, (B6 false), .ptr 1 0, U6, (I6 (shapeI k inner key f)), (B6 (decide (shapeP k inner a n key f t))), .agg [(I6 0), (I6 0), (I6 0)], .ptr 0 0, (I6 k), (B6 (k == 7)), U6, U6, U6, U6, U6, U6, U6, U6, U6, U6, U6, U6, U6, U6, U6, U6, U6, U6, U6, U6, U6, U6, U6, U6, U6, .tup [(I6 (shapeI k inner key f)), (B6 (decide (shapeP k inner a n key f t)))], .ptr 0 0, (I6 k), .ptr 0 1, (S6 key), .ptr 0 2, (S6 f), .ptr 0 3, (I6 inner), .ptr 0 4, (I6 a), .ptr 0 5, (I6 n), .ptr 0 6, (S6 t), .tup [(I6 (shapeI k inner key f)), (B6 (decide (shapeP k inner a n key f t)))], (I6 (shapeI k inner key f)), (B6 (decide (shapeP k inner a n key f t))), (B6 (decide (shapeP k inner a n key f t))), (B6 (!decide (shapeP k inner a n key f t))), (I6 (shapeI k inner key f)), .ptr 0 4, (I6 a), (B6 (decide (shapeI k inner key f = 5 ∧ a ≠ 5))), (B6 (!decide (shapeI k inner key f = 5 ∧ a ≠ 5))), U6, U6, U6, U6, .ptr 0 7, .agg [(I6 p), (I6 s), (I6 i)], (B6 (decide (refP p s i))), (B6 (decide (refP p s i)))] ++ UU 10, [⟨[(I6 k), (S6 key), (S6 f), (I6 inner), (I6 a), (I6 n), (S6 t), (I6 p), (I6 s), (I6 i)], 10, .fresh⟩, ⟨[(I6 0), (I6 0), (I6 0)], 3, .fresh⟩]⟩ (by kernel_rfl) ⟨trivial, trivial⟩ ?_
        cases h4 : (decide (refP p s i))
        · have h4' := of_decide_eq_false h4
          refine DerQ.pre 5 ((True) ∧ ((10 ≤ List.length [(I6 k), (S6 key), (S6 f), (I6 inner), (I6 a), (I6 n), (S6 t), (I6 p), (I6 s), (I6 i)]) ∧ (((3 : Nat) ≤ (3 : Nat)) ∧ ((((2 ≤ List.length [(I6 p), (I6 s), (I6 i)]) ∧ (((2 : Nat) ≤ (3 : Nat)) ∧ (((0 < List.length [(I6 p), (I6 s)]) ∧ (((0 : Nat) < (2 : Nat)) ∧ (True))) ∧ ((1 < List.length [(I6 p), (I6 s)]) ∧ (((1 : Nat) < (2 : Nat)) ∧ (True)))))) ∧ ((2 < List.length [(I6 p), (I6 s), (I6 i)]) ∧ (((2 : Nat) < (3 : Nat)) ∧ (True)))) ∧ ((True) ∧ (True)))))) ⟨[.agg [(I6 k), (S6 key), (S6 f), (I6 inner), (I6 a), (I6 n), (S6 t), (I6 p), (I6 s), (I6 i)], .ptr 0 0, (B6 false), .ptr 1 0, U6, (I6 (shapeI k inner key f)), (B6 (decide (shapeP k inner a n key f t))), .agg [(I6 0), (I6 0), (I6 0)], .ptr 0 0, (I6 k), (B6 (k == 7)), U6, U6, U6, U6, U6, U6, U6, U6, U6, U6, U6, U6, U6, U6, U6, U6, U6, U6, U6, U6, U6, U6, U6, U6, U6, .tup [(I6 (shapeI k inner key f)), (B6 (decide (shapeP k inner a n key f t)))], .ptr 0 0, (I6 k), .ptr 0 1, (S6 key), .ptr 0 2, (S6 f), .ptr 0 3, (I6 inner), .ptr 0 4, (I6 a), .ptr 0 5, (I6 n), .ptr 0 6, (S6 t), .tup [(I6 (shapeI k inner key f)), (B6 (decide (shapeP k inner a n key f t)))], (I6 (shapeI k inner key f)), (B6 (decide (shapeP k inner a n key f t))), (B6 (decide (shapeP k inner a n key f t))), (B6 (!decide (shapeP k inner a n key f t))), (I6 (shapeI k inner key f)), .ptr 0 4, (I6 a), (B6 (decide (shapeI k inner key f = 5 ∧ a ≠ 5))), (B6 (!decide (shapeI k inner key f = 5 ∧ a ≠ 5))), U6, U6, U6, U6, .ptr 0 7, .agg [(I6 p), (I6 s), (I6 i)], (B6 false), (B6 false), .ptr 0 7, .agg [(I6 p), (I6 s), (I6 i)], .agg [(I6 0), (I6 0), (I6 0)], (B6 (p == 0 && s == 0 && i == 0)), (B6 (p == 0 && s == 0 && i == 0))] ++ UU 5, [⟨[(I6 k), (S6 key), (S6 f), (I6 inner), (I6 a), (I6 n), (S6 t), (I6 p), (I6 s), (I6 i)], 10, .fresh⟩, ⟨[(I6 0), (I6 0), (I6 0)], 3, .fresh⟩]⟩ (by kernel_rfl) ⟨trivial, ⟨(by simp), ⟨(by omega), ⟨⟨⟨(by simp), ⟨(by omega), ⟨⟨(by simp), ⟨(by omega), trivial⟩⟩, ⟨(by simp), ⟨(by omega), trivial⟩⟩⟩⟩⟩, ⟨(by simp), ⟨(by omega), trivial⟩⟩⟩, ⟨trivial, trivial⟩⟩⟩⟩⟩ ?_
          cases h5 : (p == 0 && s == 0 && i == 0)
          · have h5' := h5
            simp only [Bool.and_eq_true, Bool.and_eq_false_iff, Bool.or_eq_true, Bool.or_eq_false_iff, Bool.not_eq_true', Bool.not_eq_false', beq_iff_eq, beq_eq_false_iff_ne, decide_eq_true_eq, decide_eq_false_iff_not, ne_eq] at h5'
            refine DerQ.run (TT 3) ⟨[.agg [(I6 k), (S6 key), (S6 f), (I6 inner), (I6 a), (I6 n), (S6 t), (I6 p), (I6 s), (I6 i)], .ptr 0 0, (B6 false), .ptr 1 0, U6, (I6 (shapeI k inner key f)), (B6 (decide (shapeP k inner a n key f t))), .agg [(I6 0), (I6 0), (I6 0)], .ptr 0 0, (I6 k), (B6 (k == 7)), U6, U6, U6, U6, U6, U6, U6, U6, U6, U6, U6, U6, U6, U6, U6, U6, U6, U6, U6, U6, U6, U6, U6, U6, U6, .tup [(I6 (shapeI k inner key f)), (B6 (decide (shapeP k inner a n key f t)))], .ptr 0 0, (I6 k), .ptr 0 1, (S6 key), .ptr 0 2, (S6 f), .ptr 0 3, (I6 inner), .ptr 0 4, (I6 a), .ptr 0 5, (I6 n), .ptr 0 6, (S6 t), .tup [(I6 (shapeI k inner key f)), (B6 (decide (shapeP k inner a n key f t)))], (I6 (shapeI k inner key f)), (B6 (decide (shapeP k inner a n key f t))), (B6 (decide (shapeP k inner a n key f t))), (B6 (!decide (shapeP k inner a n key f t))), (I6 (shapeI k inner key f)), .ptr 0 4, (I6 a), (B6 (decide (shapeI k inner key f = 5 ∧ a ≠ 5))), (B6 (!decide (shapeI k inner key f = 5 ∧ a ≠ 5))), U6, U6, U6, U6, .ptr 0 7, .agg [(I6 p), (I6 s), (I6 i)], (B6 false), (B6 false), .ptr 0 7, .agg [(I6 p), (I6 s), (I6 i)], .agg [(I6 0), (I6 0), (I6 0)], (B6 false), (B6 false), .tup [], .tup [], .tup [], (B6 false), (B6 false)], [⟨[(I6 k), (S6 key), (S6 f), (I6 inner), (I6 a), (I6 n), (S6 t), (I6 p), (I6 s), (I6 i)], 10, .fresh⟩, ⟨[(I6 0), (I6 0), (I6 0)], 3, .fresh⟩]⟩ (by kernel_rfl) (tt 3) ?_
            refine AWP.ret ?_
            refine EvF.fin (.sc (.bool false)) _ (by simp) (by kernel_rfl) ?_
            refine Shrink.all ?_ rfl
            (congr 2; grind [opP, refP]; done)
          · have h5' := h5
            simp only [Bool.and_eq_true, Bool.and_eq_false_iff, Bool.or_eq_true, Bool.or_eq_false_iff, Bool.not_eq_true', Bool.not_eq_false', beq_iff_eq, beq_eq_false_iff_ne, decide_eq_true_eq, decide_eq_false_iff_not, ne_eq] at h5'
            refine DerQ.run ((True) ∧ ((4 < List.length [(I6 k), (S6 key), (S6 f), (I6 inner), (I6 a), (I6 n), (S6 t), (I6 p), (I6 s), (I6 i)]) ∧ ((True) ∧ ((True) ∧ ((True) ∧ ((True) ∧ (True))))))) ⟨[.agg [(I6 k), (S6 key), (S6 f), (I6 inner), (I6 a), (I6 n), (S6 t), (I6 p), (I6 s), (I6 i)], .ptr 0 0, (B6 (a == 4)), .ptr 1 0, U6, (I6 (shapeI k inner key f)), (B6 (decide (shapeP k inner a n key f t))), .agg [(I6 0), (I6 0), (I6 0)], .ptr 0 0, (I6 k), (B6 (k == 7)), U6, U6, U6, U6, U6, U6, U6, U6, U6, U6, U6, U6, U6, U6, U6, U6, U6, U6, U6, U6, U6, U6, U6, U6, U6, .tup [(I6 (shapeI k inner key f)), (B6 (decide (shapeP k inner a n key f t)))], .ptr 0 0, (I6 k), .ptr 0 1, (S6 key), .ptr 0 2, (S6 f), .ptr 0 3, (I6 inner), .ptr 0 4, (I6 a), .ptr 0 5, (I6 n), .ptr 0 6, (S6 t), .tup [(I6 (shapeI k inner key f)), (B6 (decide (shapeP k inner a n key f t)))], (I6 (shapeI k inner key f)), (B6 (decide (shapeP k inner a n key f t))), (B6 (decide (shapeP k inner a n key f t))), (B6 (!decide (shapeP k inner a n key f t))), (I6 (shapeI k inner key f)), .ptr 0 4, (I6 a), (B6 (decide (shapeI k inner key f = 5 ∧ a ≠ 5))), (B6 (!decide (shapeI k inner key f = 5 ∧ a ≠ 5))), U6, U6, U6, U6, .ptr 0 7, .agg [(I6 p), (I6 s), (I6 i)], (B6 false), (B6 false), .ptr 0 7, .agg [(I6 p), (I6 s), (I6 i)], .agg [(I6 0), (I6 0), (I6 0)], (B6 true), (B6 true), .ptr 0 4, (I6 a), (B6 (a == 4)), (B6 (a == 4)), (B6 (a == 4))], [⟨[(I6 k), (S6 key), (S6 f), (I6 inner), (I6 a), (I6 n), (S6 t), (I6 p), (I6 s), (I6 i)], 10, .fresh⟩, ⟨[(I6 0), (I6 0), (I6 0)], 3, .fresh⟩]⟩ (by kernel_rfl) ⟨trivial, ⟨(by simp), ⟨trivial, ⟨trivial, ⟨trivial, ⟨trivial, trivial⟩⟩⟩⟩⟩⟩ ?_
            refine AWP.ret ?_
            refine EvF.fin (.sc (.bool (a == 4))) _ (by simp) (by kernel_rfl) ?_
            refine Shrink.all ?_ rfl
            (congr 2; grind [opP, refP]; done)
        · have h4' := of_decide_eq_true h4
          refine DerQ.run (TT 2) ⟨[.agg [(I6 k), (S6 key), (S6 f), (I6 inner), (I6 a), (I6 n), (S6 t), (I6 p), (I6 s), (I6 i)], .ptr 0 0, (B6 true), .ptr 1 0, U6, (I6 (shapeI k inner key f)), (B6 (decide (shapeP k inner a n key f t))), .agg [(I6 0), (I6 0), (I6 0)], .ptr 0 0, (I6 k), (B6 (k == 7)), U6, U6, U6, U6, U6, U6, U6, U6, U6, U6, U6, U6, U6, U6, U6, U6, U6, U6, U6, U6, U6, U6, U6, U6, U6, .tup [(I6 (shapeI k inner key f)), (B6 (decide (shapeP k inner a n key f t)))], .ptr 0 0, (I6 k), .ptr 0 1, (S6 key), .ptr 0 2, (S6 f), .ptr 0 3, (I6 inner), .ptr 0 4, (I6 a), .ptr 0 5, (I6 n), .ptr 0 6, (S6 t), .tup [(I6 (shapeI k inner key f)), (B6 (decide (shapeP k inner a n key f t)))], (I6 (shapeI k inner key f)), (B6 (decide (shapeP k inner a n key f t))), (B6 (decide (shapeP k inner a n key f t))), (B6 (!decide (shapeP k inner a n key f t))), (I6 (shapeI k inner key f)), .ptr 0 4, (I6 a), (B6 (decide (shapeI k inner key f = 5 ∧ a ≠ 5))), (B6 (!decide (shapeI k inner key f = 5 ∧ a ≠ 5))), U6, U6, U6, U6, .ptr 0 7, .agg [(I6 p), (I6 s), (I6 i)], (B6 true), (B6 true), .tup [], .tup [], .tup [], .tup [], .tup [], .tup [], .tup [], .tup [], .tup [], (B6 true)], [⟨[(I6 k), (S6 key), (S6 f), (I6 inner), (I6 a), (I6 n), (S6 t), (I6 p), (I6 s), (I6 i)], 10, .fresh⟩, ⟨[(I6 0), (I6 0), (I6 0)], 3, .fresh⟩]⟩ (by kernel_rfl) (tt 2) ?_
          refine AWP.ret ?_
          refine EvF.fin (.sc (.bool true)) _ (by simp) (by kernel_rfl) ?_
          refine Shrink.all ?_ rfl
          (congr 2; grind [opP, refP]; done)
end Go.Ops
