/- Walks and laws. -/
import Derived.Test.YtfkilkfaiiijbaaOps4
import Derived.Test.YtfkilkfaiiijbaaLibC
set_option maxRecDepth 100000
set_option maxHeartbeats 0
set_option linter.unusedSimpArgs false
set_option linter.unusedVariables false
namespace Go.Ops
open Go Go.Abs Go.Proofs
def rfitP (l a n : Int) : Prop := (l = 1 ∧ a = 1 ∧ -1073741824 ≤ n ∧ n ≤ 1073741824) ∨ ((l = 2 ∨ l = 3) ∧ a = 3 ∧ n = 0) ∨ (l = 4 ∧ (a = 1 ∨ a = 2) ∧ n = 0) ∨ (l = 5 ∧ (a = 4 ∨ a = 2) ∧ n = 0)
instance (l a n : Int) : Decidable (rfitP l a n) := by unfold rfitP; infer_instance
theorem r_fits (l a n : Int) : EvD Try.prog 99 [.sc (.int .i64 l), .sc (.int .i64 a), .sc (.int .i64 n)] (.sc (.bool (decide (rfitP l a n)))) := by
  refine EvD.body Try.func99 rfl rfl rfl ?_
  refine AWP.seq ?_
  refine TO ⟨[(I6 l), (I6 a), (I6 n)] ++ UU 50, []⟩ ?_
  refine AWP.reg (RT 1 ?_)
  refine AWP.seq (AWP.seq ?_)
  refine TO ⟨[(I6 l), (I6 a), (I6 n), U6, U6, U6, (B6 false)] ++ UU 46, []⟩ ?_
  refine AWP.reg (RT 1 ?_)
  refine AWP.block (AWP.seq (KL [0] ⟨[U6, (I6 a), (I6 n), U6, U6, U6, (B6 false), (I6 l)] ++ UU 45, []⟩ ?_))
  refine AWP.reg (RT 2 ?_)
  refine KL [9] ⟨[U6, (I6 a), (I6 n), U6, U6, U6, (B6 false), (I6 l), (B6 (l == 1))] ++ UU 44, []⟩ ?_
  refine CN (l == 1) (fun h1 => ?_) (fun h1 => ?_)
  · have h1' := eq_of_beq h1
    refine SQ (PT 3 3 ?_)
    refine DerQ.to ⟨[U6, (I6 a), (I6 n), U6, U6, U6, (B6 false), (I6 l), (B6 (l == 1)), U6, (I6 a), (B6 (a == 1)), (B6 (a == 1))] ++ UU 40, []⟩ (by kernel_rfl) ?_
    cases h2 : (a == 1)
    · have h2' := ne_of_beq_false h2
      refine RT 4 ?_
      refine AWP.ret ?_
      refine FI (B6 false) ?_
      refine Shrink.all ?_ rfl
      ((first | refine congrArg B6 ?_ | refine congrArg I6 ?_ | congr 2); rw [Bool.eq_iff_iff]; simp [rfitP, *] <;> omega; done)
    · have h2' := eq_of_beq h2
      refine PT 4 4 ?_
      refine DerQ.to ⟨[U6, (I6 a), (I6 n), U6, U6, U6, (B6 false), (I6 l), (B6 (l == 1)), U6, (I6 a), (B6 true), (B6 true), (I6 n), (B6 (decide (n ≥ -1073741824))), (B6 (decide (n ≥ -1073741824))), (B6 (decide (n ≥ -1073741824)))] ++ UU 36, []⟩ (by kernel_rfl) ?_
      cases h3 : (decide (n ≥ -1073741824))
      · have h3' := of_decide_eq_false h3
        refine RT 2 ?_
        refine AWP.ret ?_
        refine FI (B6 false) ?_
        refine Shrink.all ?_ rfl
        ((first | refine congrArg B6 ?_ | refine congrArg I6 ?_ | congr 2); rw [Bool.eq_iff_iff]; simp [rfitP, *] <;> omega; done)
      · have h3' := of_decide_eq_true h3
        refine RT 4 ?_
        refine AWP.ret ?_
        refine FI (B6 (decide (n ≤ 1073741824))) ?_
        refine Shrink.all ?_ rfl
        ((first | refine congrArg B6 ?_ | refine congrArg I6 ?_ | congr 2); rw [Bool.eq_iff_iff]; simp [rfitP, *] <;> omega; done)
  · have h1' := ne_of_beq_false h1
    refine AWP.seq (SQ (RT 2 ?_))
    refine KL [8, 21] ⟨[U6, (I6 a), (I6 n), U6, U6, U6, (B6 false), (I6 l)] ++ UU 12 ++ [(B6 (l == 2))] ++ UU 32, []⟩ ?_
    refine CN (l == 2) (fun h2 => ?_) (fun h2 => ?_)
    · have h2' := eq_of_beq h2
      refine AWP.skip ?_
      refine CN (l == 2) (fun h3 => ?_) (fun h3 => ?_)
      · have h3' := eq_of_beq h3
        refine SQ (PT 3 3 ?_)
        refine DerQ.to ⟨[U6, (I6 a), (I6 n), U6, U6, U6, (B6 false), (I6 l)] ++ UU 12 ++ [(B6 (l == 2)), U6, U6, (I6 a), (B6 (a == 3)), (B6 (a == 3))] ++ UU 27, []⟩ (by kernel_rfl) ?_
        cases h4 : (a == 3)
        · have h4' := ne_of_beq_false h4
          refine RT 2 ?_
          refine AWP.ret ?_
          refine FI (B6 false) ?_
          refine Shrink.all ?_ rfl
          ((first | refine congrArg B6 ?_ | refine congrArg I6 ?_ | congr 2); rw [Bool.eq_iff_iff]; simp [rfitP, *] <;> omega; done)
        · have h4' := eq_of_beq h4
          refine RT 4 ?_
          refine AWP.ret ?_
          refine FI (B6 (n == 0)) ?_
          refine Shrink.all ?_ rfl
          ((first | refine congrArg B6 ?_ | refine congrArg I6 ?_ | congr 2); rw [Bool.eq_iff_iff]; simp [rfitP, *] <;> omega; done)
      · have h3' := ne_of_beq_false h3
        exfalso; omega
    · have h2' := ne_of_beq_false h2
      refine AWP.reg (RT 2 ?_)
      refine KL [22] ⟨[U6, (I6 a), (I6 n), U6, U6, U6, (B6 false), (I6 l)] ++ UU 12 ++ [(B6 (l == 3))] ++ UU 32, []⟩ ?_
      refine CN (l == 3) (fun h3 => ?_) (fun h3 => ?_)
      · have h3' := eq_of_beq h3
        refine SQ (PT 3 3 ?_)
        refine DerQ.to ⟨[U6, (I6 a), (I6 n), U6, U6, U6, (B6 false), (I6 l)] ++ UU 12 ++ [(B6 (l == 3)), U6, U6, (I6 a), (B6 (a == 3)), (B6 (a == 3))] ++ UU 27, []⟩ (by kernel_rfl) ?_
        cases h4 : (a == 3)
        · have h4' := ne_of_beq_false h4
          refine RT 2 ?_
          refine AWP.ret ?_
          refine FI (B6 false) ?_
          refine Shrink.all ?_ rfl
          ((first | refine congrArg B6 ?_ | refine congrArg I6 ?_ | congr 2); rw [Bool.eq_iff_iff]; simp [rfitP, *] <;> omega; done)
        · have h4' := eq_of_beq h4
          refine RT 4 ?_
          refine AWP.ret ?_
          refine FI (B6 (n == 0)) ?_
          refine Shrink.all ?_ rfl
          ((first | refine congrArg B6 ?_ | refine congrArg I6 ?_ | congr 2); rw [Bool.eq_iff_iff]; simp [rfitP, *] <;> omega; done)
      · have h3' := ne_of_beq_false h3
        refine SQ (RT 2 ?_)
        refine KL [20, 30] ⟨[U6, (I6 a), (I6 n), U6, U6, U6, (B6 false), (I6 l)] ++ UU 21 ++ [(B6 (l == 4))] ++ UU 23, []⟩ ?_
        refine CN (l == 4) (fun h4 => ?_) (fun h4 => ?_)
        · have h4' := eq_of_beq h4
          refine SQ (PT 3 3 ?_)
          refine DerQ.to ⟨[U6, (I6 a), (I6 n), U6, U6, U6, (B6 false), (I6 l)] ++ UU 21 ++ [(B6 (l == 4)), U6, (I6 a), (B6 (a == 1)), (B6 (a == 1))] ++ UU 19, []⟩ (by kernel_rfl) ?_
          cases h5 : (a == 1)
          · have h5' := ne_of_beq_false h5
            refine PT 4 4 ?_
            refine DerQ.to ⟨[U6, (I6 a), (I6 n), U6, U6, U6, (B6 false), (I6 l)] ++ UU 21 ++ [(B6 (l == 4)), U6, (I6 a), (B6 false), (B6 false), (I6 a), (B6 (a == 2)), (B6 (a == 2)), (B6 (a == 2))] ++ UU 15, []⟩ (by kernel_rfl) ?_
            cases h6 : (a == 2)
            · have h6' := ne_of_beq_false h6
              refine RT 2 ?_
              refine AWP.ret ?_
              refine FI (B6 false) ?_
              refine Shrink.all ?_ rfl
              ((first | refine congrArg B6 ?_ | refine congrArg I6 ?_ | congr 2); rw [Bool.eq_iff_iff]; simp [rfitP, *] <;> omega; done)
            · have h6' := eq_of_beq h6
              refine RT 4 ?_
              refine AWP.ret ?_
              refine FI (B6 (n == 0)) ?_
              refine Shrink.all ?_ rfl
              ((first | refine congrArg B6 ?_ | refine congrArg I6 ?_ | congr 2); rw [Bool.eq_iff_iff]; simp [rfitP, *] <;> omega; done)
          · have h5' := eq_of_beq h5
            refine RT 6 ?_
            refine AWP.ret ?_
            refine FI (B6 (n == 0)) ?_
            refine Shrink.all ?_ rfl
            ((first | refine congrArg B6 ?_ | refine congrArg I6 ?_ | congr 2); rw [Bool.eq_iff_iff]; simp [rfitP, *] <;> omega; done)
        · have h4' := ne_of_beq_false h4
          refine SQ (RT 2 ?_)
          refine KL [7, 29, 42] ⟨[U6, (I6 a), (I6 n), U6, U6, U6, (B6 false)] ++ UU 34 ++ [(B6 (l == 5))] ++ UU 11, []⟩ ?_
          refine CN (l == 5) (fun h5 => ?_) (fun h5 => ?_)
          · have h5' := eq_of_beq h5
            refine SQ (PT 3 3 ?_)
            refine DerQ.to ⟨[U6, (I6 a), (I6 n), U6, U6, U6, (B6 false)] ++ UU 34 ++ [(B6 (l == 5)), U6, (I6 a), (B6 (a == 4)), (B6 (a == 4))] ++ UU 7, []⟩ (by kernel_rfl) ?_
            cases h6 : (a == 4)
            · have h6' := ne_of_beq_false h6
              refine PT 4 4 ?_
              refine DerQ.to ⟨[U6, (I6 a), (I6 n), U6, U6, U6, (B6 false)] ++ UU 34 ++ [(B6 (l == 5)), U6, (I6 a), (B6 false), (B6 false), (I6 a), (B6 (a == 2)), (B6 (a == 2)), (B6 (a == 2)), U6, U6, .undef], []⟩ (by kernel_rfl) ?_
              cases h7 : (a == 2)
              · have h7' := ne_of_beq_false h7
                refine RT 2 ?_
                refine AWP.ret ?_
                refine FI (B6 false) ?_
                refine Shrink.all ?_ rfl
                ((first | refine congrArg B6 ?_ | refine congrArg I6 ?_ | congr 2); rw [Bool.eq_iff_iff]; simp [rfitP, *] <;> omega; done)
              · have h7' := eq_of_beq h7
                refine RT 4 ?_
                refine AWP.ret ?_
                refine FI (B6 (n == 0)) ?_
                refine Shrink.all ?_ rfl
                ((first | refine congrArg B6 ?_ | refine congrArg I6 ?_ | congr 2); rw [Bool.eq_iff_iff]; simp [rfitP, *] <;> omega; done)
            · have h6' := eq_of_beq h6
              refine RT 6 ?_
              refine AWP.ret ?_
              refine FI (B6 (n == 0)) ?_
              refine Shrink.all ?_ rfl
              ((first | refine congrArg B6 ?_ | refine congrArg I6 ?_ | congr 2); rw [Bool.eq_iff_iff]; simp [rfitP, *] <;> omega; done)
          · have h5' := ne_of_beq_false h5
            refine AWP.skip (SQ (RT 1 ?_))
            refine AWP.ret ?_
            refine FI (B6 false) ?_
            refine Shrink.all ?_ rfl
            ((first | refine congrArg B6 ?_ | refine congrArg I6 ?_ | congr 2); rw [Bool.eq_iff_iff]; simp [rfitP, *] <;> omega; done)
def rtextP (l a : Int) (t : ByteArray) : Prop := ((l = 1 ∨ a = 5 ∨ (l = 5 ∧ a = 2)) ∧ t.size = 0) ∨ (¬ (l = 1 ∨ a = 5 ∨ (l = 5 ∧ a = 2)) ∧ t.size ≤ 64)
instance (l a : Int) (t : ByteArray) : Decidable (rtextP l a t) := by unfold rtextP; infer_instance
theorem r_texts (l a : Int) (t : ByteArray) : EvD Try.prog 100 [.sc (.int .i64 l), .sc (.int .i64 a), .sc (.string t)] (.sc (.bool (decide (rtextP l a t)))) := by
  refine EvD.body Try.func100 rfl rfl rfl ?_
  refine AWP.seq ?_
  refine TO ⟨[(I6 l), (I6 a), (S6 t)] ++ UU 23, []⟩ ?_
  refine AWP.reg (RT 1 ?_)
  refine AWP.seq (AWP.seq ?_)
  refine TO ⟨[(I6 l), (I6 a), (S6 t), U6, U6, U6, (B6 false)] ++ UU 19, []⟩ ?_
  refine AWP.reg (PT 3 3 ?_)
  refine DerQ.to ⟨[(I6 l), (I6 a), (S6 t), U6, U6, U6, (B6 false), (I6 l), (B6 (l == 1)), (B6 (l == 1))] ++ UU 16, []⟩ (by kernel_rfl) ?_
  cases h1 : (l == 1)
  · have h1' := ne_of_beq_false h1
    refine PT 4 4 ?_
    refine DerQ.to ⟨[(I6 l), (I6 a), (S6 t), U6, U6, U6, (B6 false), (I6 l), (B6 false), (B6 false), (I6 a), (B6 (a == 5)), (B6 (a == 5)), (B6 (a == 5))] ++ UU 12, []⟩ (by kernel_rfl) ?_
    cases h2 : (a == 5)
    · have h2' := ne_of_beq_false h2
      refine PT 3 3 ?_
      refine DerQ.to ⟨[(I6 l), (I6 a), (S6 t), U6, U6, U6, (B6 false), (I6 l), (B6 false), (B6 false), (I6 a), (B6 false), (B6 false), (B6 false), (I6 l), (B6 (l == 5)), (B6 (l == 5))] ++ UU 9, []⟩ (by kernel_rfl) ?_
      cases h3 : (l == 5)
      · have h3' := ne_of_beq_false h3
        refine RT 2 ?_
        refine KL ([0, 1] ++ NN 7 13) ⟨[U6, U6, (S6 t), U6, U6, U6, (B6 false)] ++ UU 13 ++ [(B6 false)] ++ UU 5, []⟩ ?_
        refine CN false (fun h => nomatch h) (fun _ => ?_)
        refine AWP.skip (SQ (RT 4 ?_))
        refine AWP.ret ?_
        refine FI (B6 (decide ((↑(ByteArray.size t) : Int) ≤ 64))) ?_
        refine Shrink.all ?_ rfl
        ((first | refine congrArg B6 ?_ | refine congrArg I6 ?_ | congr 2); rw [Bool.eq_iff_iff]; simp [rtextP, *] <;> omega; done)
      · have h3' := eq_of_beq h3
        refine RT 4 ?_
        refine KL ([0, 1] ++ NN 7 13) ⟨[U6, U6, (S6 t), U6, U6, U6, (B6 false)] ++ UU 13 ++ [(B6 (a == 2))] ++ UU 5, []⟩ ?_
        refine CN (a == 2) (fun h4 => ?_) (fun h4 => ?_)
        · have h4' := eq_of_beq h4
          refine SQ ?_
          refine DerQ.run (TT 3) ⟨[U6, U6, (S6 t), U6, U6, U6, (B6 (ByteArray.toList t == ByteArray.toList { data := #[] }))] ++ UU 13 ++ [(B6 (a == 2)), (S6 t), (B6 (ByteArray.toList t == ByteArray.toList { data := #[] })), U6, U6, .undef], []⟩ (by kernel_rfl) (tt 3) ?_
          rw [Go.Abs.nil_beq (t)]
          refine AWP.ret ?_
          refine FI (B6 (decide (ByteArray.size t = 0))) ?_
          refine Shrink.all ?_ rfl
          ((first | refine congrArg B6 ?_ | refine congrArg I6 ?_ | congr 2); rw [Bool.eq_iff_iff]; simp [rtextP, *] <;> omega; done)
        · have h4' := ne_of_beq_false h4
          refine AWP.skip (SQ (RT 4 ?_))
          refine AWP.ret ?_
          refine FI (B6 (decide ((↑(ByteArray.size t) : Int) ≤ 64))) ?_
          refine Shrink.all ?_ rfl
          ((first | refine congrArg B6 ?_ | refine congrArg I6 ?_ | congr 2); rw [Bool.eq_iff_iff]; simp [rtextP, *] <;> omega; done)
    · have h2' := eq_of_beq h2
      refine RT 1 ?_
      refine KL ([0, 1] ++ NN 7 13) ⟨[U6, U6, (S6 t), U6, U6, U6, (B6 false)] ++ UU 13 ++ [(B6 true)] ++ UU 5, []⟩ ?_
      refine CN true (fun _ => ?_) (fun h => nomatch h)
      refine SQ ?_
      refine DerQ.run (TT 3) ⟨[U6, U6, (S6 t), U6, U6, U6, (B6 (ByteArray.toList t == ByteArray.toList { data := #[] }))] ++ UU 13 ++ [(B6 true), (S6 t), (B6 (ByteArray.toList t == ByteArray.toList { data := #[] })), U6, U6, .undef], []⟩ (by kernel_rfl) (tt 3) ?_
      rw [Go.Abs.nil_beq (t)]
      refine AWP.ret ?_
      refine FI (B6 (decide (ByteArray.size t = 0))) ?_
      refine Shrink.all ?_ rfl
      ((first | refine congrArg B6 ?_ | refine congrArg I6 ?_ | congr 2); rw [Bool.eq_iff_iff]; simp [rtextP, *] <;> omega; done)
  · have h1' := eq_of_beq h1
    refine RT 3 ?_
    refine KL ([0, 1] ++ NN 7 13) ⟨[U6, U6, (S6 t), U6, U6, U6, (B6 false)] ++ UU 13 ++ [(B6 true)] ++ UU 5, []⟩ ?_
    refine CN true (fun _ => ?_) (fun h => nomatch h)
    refine SQ ?_
    refine DerQ.run (TT 3) ⟨[U6, U6, (S6 t), U6, U6, U6, (B6 (ByteArray.toList t == ByteArray.toList { data := #[] }))] ++ UU 13 ++ [(B6 true), (S6 t), (B6 (ByteArray.toList t == ByteArray.toList { data := #[] })), U6, U6, .undef], []⟩ (by kernel_rfl) (tt 3) ?_
    rw [Go.Abs.nil_beq (t)]
    refine AWP.ret ?_
    refine FI (B6 (decide (ByteArray.size t = 0))) ?_
    refine Shrink.all ?_ rfl
    ((first | refine congrArg B6 ?_ | refine congrArg I6 ?_ | congr 2); rw [Bool.eq_iff_iff]; simp [rtextP, *] <;> omega; done)
def shapeI (k inner : Int) (key f : ByteArray) : Int := if whereP k inner key f then leafI k inner else 0
def shapeP (k inner a n : Int) (key f t : ByteArray) : Prop := whereP k inner key f ∧ ((k = 6 ∧ a = 5 ∧ n = 0 ∧ t.size = 0) ∨ (¬ (k = 6 ∧ a = 5) ∧ rfitP (leafI k inner) a n ∧ rtextP (leafI k inner) a t))
instance (k inner a n : Int) (key f t : ByteArray) : Decidable (shapeP k inner a n key f t) := by unfold shapeP; infer_instance
theorem tupS {x y : Int} {b : Bool} {B : Prop} [Decidable B] (hx : x = y) (hb : b = true ↔ B) : AVal.tup [.sc (.int .i64 x), .sc (.bool b)] = .tup [.sc (.int .i64 y), .sc (.bool (decide B))] := by
  have h2 : b = decide B := by rw [Bool.eq_iff_iff, decide_eq_true_iff]; exact hb
  rw [hx, h2]
theorem r_shape (k inner a n : Int) (key f t : ByteArray) : EvD Try.prog 61 [.sc (.int .i64 k), .sc (.string key), .sc (.string f), .sc (.int .i64 inner), .sc (.int .i64 a), .sc (.int .i64 n), .sc (.string t)]
    (.tup [.sc (.int .i64 (shapeI k inner key f)), .sc (.bool (decide (shapeP k inner a n key f t)))]) := by
  refine EvD.body Try.func61 rfl rfl rfl ?_
  refine AWP.seq ?_
  refine TO ⟨[(I6 k), (S6 key), (S6 f), (I6 inner), (I6 a), (I6 n), (S6 t)] ++ UU 62, []⟩ ?_
  refine AWP.reg (RT 2 ?_)
  refine AWP.seq (AWP.seq ?_)
  refine TO ⟨[(I6 k), (S6 key), (S6 f), (I6 inner), (I6 a), (I6 n), (S6 t)] ++ UU 7 ++ [(I6 0), (B6 false)] ++ UU 53, []⟩ ?_
  refine AWP.reg (PT 3 3 ?_)
  refine DerQ.to ⟨[(I6 k), (S6 key), (S6 f), (I6 inner), (I6 a), (I6 n), (S6 t)] ++ UU 7 ++ [(I6 0), (B6 false), U6, (I6 k), (B6 (decide (k < 1))), (B6 (decide (k < 1)))] ++ UU 49, []⟩ (by kernel_rfl) ?_
  cases h1 : (decide (k < 1))
  · have h1' := of_decide_eq_false h1
    refine PT 4 4 ?_
    refine DerQ.to ⟨[(I6 k), (S6 key), (S6 f), (I6 inner), (I6 a), (I6 n), (S6 t)] ++ UU 7 ++ [(I6 0), (B6 false), U6, (I6 k), (B6 false), (B6 false), (I6 k), (B6 (decide (k > 6))), (B6 (decide (k > 6))), (B6 (decide (k > 6)))] ++ UU 45, []⟩ (by kernel_rfl) ?_
    cases h2 : (decide (k > 6))
    · have h2' := of_decide_eq_false h2
      refine PT 1 1 ?_
      refine CD (r_named key) ?_
      refine RT 2 ?_
      refine KL ([1] ++ NN 17 10) ⟨[(I6 k), U6, (S6 f), (I6 inner), (I6 a), (I6 n), (S6 t)] ++ UU 7 ++ [(I6 0), (B6 false)] ++ UU 11 ++ [(B6 (!decide (1 ≤ ByteArray.size key ∧ ByteArray.size key ≤ 64)))] ++ UU 41, []⟩ ?_
      refine CN (!decide (1 ≤ ByteArray.size key ∧ ByteArray.size key ≤ 64)) (fun h3 => ?_) (fun h3 => ?_)
      · have h3' := h3
        simp only [Bool.and_eq_true, Bool.and_eq_false_iff, Bool.or_eq_true, Bool.or_eq_false_iff, Bool.not_eq_true', Bool.not_eq_false', beq_iff_eq, beq_eq_false_iff_ne, decide_eq_true_eq, decide_eq_false_iff_not, ne_eq] at h3'
        refine SQ (RT 2 ?_)
        refine AWP.ret ?_
        refine FI (.tup [(I6 0), (B6 false)]) ?_
        refine Shrink.all ?_ rfl
        (exact tupS (by grind [shapeI, leafI, whereP]) (by grind [shapeP, leafI, whereP]); done)
      · have h3' := h3
        simp only [Bool.and_eq_true, Bool.and_eq_false_iff, Bool.or_eq_true, Bool.or_eq_false_iff, Bool.not_eq_true', Bool.not_eq_false', beq_iff_eq, beq_eq_false_iff_ne, decide_eq_true_eq, decide_eq_false_iff_not, ne_eq] at h3'
        refine AWP.skip (SQ (RT 2 ?_))
        refine AWP.seq (AWP.seq (KL [27, 28] ⟨[(I6 k), U6, (S6 f), (I6 inner), (I6 a), (I6 n), (S6 t)] ++ UU 7 ++ [(I6 0), (B6 false), (I6 k)] ++ UU 52, []⟩ ?_))
        refine AWP.reg (RT 2 ?_)
        refine KL [0, 29] ⟨[U6, U6, (S6 f), (I6 inner), (I6 a), (I6 n), (S6 t)] ++ UU 7 ++ [(I6 0), (B6 false), (I6 k)] ++ UU 13 ++ [(B6 (k == 6))] ++ UU 38, []⟩ ?_
        refine CN (k == 6) (fun h4 => ?_) (fun h4 => ?_)
        · have h4' := eq_of_beq h4
          refine AWP.seq (SQ (PT 1 1 ?_))
          refine CD (r_named f) ?_
          refine PT 2 2 ?_
          refine DerQ.to ⟨[U6, U6, (S6 f), (I6 inner), (I6 a), (I6 n), (S6 t)] ++ UU 7 ++ [(I6 0), (B6 false), (I6 k)] ++ UU 13 ++ [(B6 (k == 6)), (S6 f), (B6 (decide (1 ≤ ByteArray.size f ∧ ByteArray.size f ≤ 64))), (B6 (!decide (1 ≤ ByteArray.size f ∧ ByteArray.size f ≤ 64))), (B6 (!decide (1 ≤ ByteArray.size f ∧ ByteArray.size f ≤ 64)))] ++ UU 34, []⟩ (by kernel_rfl) ?_
          cases h5 : (!decide (1 ≤ ByteArray.size f ∧ ByteArray.size f ≤ 64))
          · have h5' := h5
            simp only [Bool.and_eq_true, Bool.and_eq_false_iff, Bool.or_eq_true, Bool.or_eq_false_iff, Bool.not_eq_true', Bool.not_eq_false', beq_iff_eq, beq_eq_false_iff_ne, decide_eq_true_eq, decide_eq_false_iff_not, ne_eq] at h5'
            refine PT 4 4 ?_
            refine DerQ.to ⟨[U6, U6, (S6 f), (I6 inner), (I6 a), (I6 n), (S6 t)] ++ UU 7 ++ [(I6 0), (B6 false), (I6 k)] ++ UU 13 ++ [(B6 (k == 6)), (S6 f), (B6 (decide (1 ≤ ByteArray.size f ∧ ByteArray.size f ≤ 64))), (B6 false), (B6 false), (I6 inner), (B6 (decide (inner < 1))), (B6 (decide (inner < 1))), (B6 (decide (inner < 1)))] ++ UU 30, []⟩ (by kernel_rfl) ?_
            cases h6 : (decide (inner < 1))
            · have h6' := of_decide_eq_false h6
              refine RT 3 ?_
              refine KL ([2] ++ NN 30 11) ⟨[U6, U6, U6, (I6 inner), (I6 a), (I6 n), (S6 t)] ++ UU 7 ++ [(I6 0), (B6 false), (I6 k)] ++ UU 24 ++ [(B6 (decide (inner > 5)))] ++ UU 27, []⟩ ?_
              refine CN (decide (inner > 5)) (fun h7 => ?_) (fun h7 => ?_)
              · have h7' := of_decide_eq_true h7
                refine SQ (RT 2 ?_)
                refine AWP.ret ?_
                refine FI (.tup [(I6 0), (B6 false)]) ?_
                refine Shrink.all ?_ rfl
                (exact tupS (by grind [shapeI, leafI, whereP]) (by grind [shapeP, leafI, whereP]); done)
              · have h7' := of_decide_eq_false h7
                refine AWP.skip (SQ (RT 2 ?_))
                refine AWP.seq (KL [3, 41, 42] ⟨[U6, U6, U6, U6, (I6 a), (I6 n), (S6 t)] ++ UU 7 ++ [(I6 0), (B6 false), (I6 inner)] ++ UU 52, []⟩ ?_)
                refine AWP.reg (RT 2 ?_)
                refine KL [43] ⟨[U6, U6, U6, U6, (I6 a), (I6 n), (S6 t)] ++ UU 7 ++ [(I6 0), (B6 false), (I6 inner)] ++ UU 27 ++ [(B6 (a == 5))] ++ UU 24, []⟩ ?_
                refine CN (a == 5) (fun h8 => ?_) (fun h8 => ?_)
                · have h8' := eq_of_beq h8
                  refine SQ (PT 4 4 ?_)
                  refine DerQ.to ⟨[U6, U6, U6, U6, (I6 a), (I6 n), (S6 t)] ++ UU 7 ++ [(I6 0), (B6 false), (I6 inner)] ++ UU 27 ++ [(B6 (a == 5)), (I6 inner), (I6 n), (B6 (n == 0)), (B6 (n == 0))] ++ UU 20, []⟩ (by kernel_rfl) ?_
                  cases h9 : (n == 0)
                  · have h9' := ne_of_beq_false h9
                    refine RT 3 ?_
                    refine AWP.ret ?_
                    refine FI (.tup [(I6 inner), (B6 false)]) ?_
                    refine Shrink.all ?_ rfl
                    (exact tupS (by grind [shapeI, leafI, whereP]) (by grind [shapeP, leafI, whereP]); done)
                  · have h9' := eq_of_beq h9
                    refine DerQ.run (TT 5) ⟨[U6, U6, U6, U6, (I6 a), (I6 n), (S6 t)] ++ UU 7 ++ [(I6 inner), (B6 (ByteArray.toList t == ByteArray.toList { data := #[] })), (I6 inner)] ++ UU 27 ++ [(B6 (a == 5)), (I6 inner), (I6 n), (B6 true), (B6 true), (S6 t), (B6 (ByteArray.toList t == ByteArray.toList { data := #[] })), (B6 (ByteArray.toList t == ByteArray.toList { data := #[] }))] ++ UU 17, []⟩ (by kernel_rfl) (tt 5) ?_
                    rw [Go.Abs.nil_beq (t)]
                    refine KL (NN 44 8) ⟨[U6, U6, U6, U6, (I6 a), (I6 n), (S6 t)] ++ UU 7 ++ [(I6 inner), (B6 (decide (ByteArray.size t = 0))), (I6 inner)] ++ UU 52, []⟩ ?_
                    refine AWP.ret ?_
                    refine FI (.tup [(I6 inner), (B6 (decide (ByteArray.size t = 0)))]) ?_
                    refine Shrink.all ?_ rfl
                    (exact tupS (by grind [shapeI, leafI, whereP]) (by grind [shapeP, leafI, whereP]); done)
                · have h8' := ne_of_beq_false h8
                  refine AWP.skip (SQ (PT 4 4 ?_))
                  refine CD (r_fits inner a n) ?_
                  refine PT 1 1 ?_
                  refine DerQ.to ⟨[U6, U6, U6, U6, (I6 a), (I6 n), (S6 t)] ++ UU 7 ++ [(I6 0), (B6 false), (I6 inner)] ++ UU 27 ++ [(B6 (a == 5))] ++ UU 13 ++ [(I6 inner), (I6 inner), (I6 a), (I6 n), (B6 (decide (rfitP inner a n))), (B6 (decide (rfitP inner a n)))] ++ UU 5, []⟩ (by kernel_rfl) ?_
                  cases h9 : (decide (rfitP inner a n))
                  · have h9' := of_decide_eq_false h9
                    refine RT 3 ?_
                    refine AWP.ret ?_
                    refine FI (.tup [(I6 inner), (B6 false)]) ?_
                    refine Shrink.all ?_ rfl
                    (exact tupS (by grind [shapeI, leafI, whereP]) (by grind [shapeP, leafI, whereP]); done)
                  · have h9' := of_decide_eq_true h9
                    refine PT 3 3 ?_
                    refine CD (r_texts inner a t) ?_
                    refine RT 3 ?_
                    refine AWP.ret ?_
                    refine FI (.tup [(I6 inner), (B6 (decide (rtextP inner a t)))]) ?_
                    refine Shrink.all ?_ rfl
                    (exact tupS (by grind [shapeI, leafI, whereP]) (by grind [shapeP, leafI, whereP]); done)
            · have h6' := of_decide_eq_true h6
              refine RT 1 ?_
              refine KL ([2] ++ NN 30 11) ⟨[U6, U6, U6, (I6 inner), (I6 a), (I6 n), (S6 t)] ++ UU 7 ++ [(I6 0), (B6 false), (I6 k)] ++ UU 24 ++ [(B6 true)] ++ UU 27, []⟩ ?_
              refine CN true (fun _ => ?_) (fun h => nomatch h)
              refine SQ (RT 2 ?_)
              refine AWP.ret ?_
              refine FI (.tup [(I6 0), (B6 false)]) ?_
              refine Shrink.all ?_ rfl
              (exact tupS (by grind [shapeI, leafI, whereP]) (by grind [shapeP, leafI, whereP]); done)
          · have h5' := h5
            simp only [Bool.and_eq_true, Bool.and_eq_false_iff, Bool.or_eq_true, Bool.or_eq_false_iff, Bool.not_eq_true', Bool.not_eq_false', beq_iff_eq, beq_eq_false_iff_ne, decide_eq_true_eq, decide_eq_false_iff_not, ne_eq] at h5'
            refine RT 3 ?_
            refine KL ([2] ++ NN 30 11) ⟨[U6, U6, U6, (I6 inner), (I6 a), (I6 n), (S6 t)] ++ UU 7 ++ [(I6 0), (B6 false), (I6 k)] ++ UU 24 ++ [(B6 true)] ++ UU 27, []⟩ ?_
            refine CN true (fun _ => ?_) (fun h => nomatch h)
            refine SQ (RT 2 ?_)
            refine AWP.ret ?_
            refine FI (.tup [(I6 0), (B6 false)]) ?_
            refine Shrink.all ?_ rfl
            (exact tupS (by grind [shapeI, leafI, whereP]) (by grind [shapeP, leafI, whereP]); done)
        · have h4' := ne_of_beq_false h4
          refine SQ ?_
          refine DerQ.pre 3 (TT 3) ⟨[U6, U6, (S6 f), (I6 inner), (I6 a), (I6 n), (S6 t)] ++ UU 7 ++ [(I6 0), (B6 false), (I6 k)] ++ UU 13 ++ [(B6 (k == 6))] ++ UU 21 ++ [(S6 f), (B6 (!ByteArray.toList f == ByteArray.toList { data := #[] })), (B6 (!ByteArray.toList f == ByteArray.toList { data := #[] }))] ++ UU 14, []⟩ (by kernel_rfl) (tt 3) ?_
          rw [Go.Abs.nil_beq (f)]
          cases h5 : (!decide (ByteArray.size f = 0))
          · have h5' := h5
            simp only [Bool.and_eq_true, Bool.and_eq_false_iff, Bool.or_eq_true, Bool.or_eq_false_iff, Bool.not_eq_true', Bool.not_eq_false', beq_iff_eq, beq_eq_false_iff_ne, decide_eq_true_eq, decide_eq_false_iff_not, ne_eq] at h5'
            refine RT 3 ?_
            refine KL ([2, 3, 30] ++ NN 52 5) ⟨[U6, U6, U6, U6, (I6 a), (I6 n), (S6 t)] ++ UU 7 ++ [(I6 0), (B6 false), (I6 k)] ++ UU 40 ++ [(B6 (inner != 0))] ++ UU 11, []⟩ ?_
            refine CN (inner != 0) (fun h6 => ?_) (fun h6 => ?_)
            · have h6' := bne_iff_ne.1 h6
              refine SQ (RT 2 ?_)
              refine AWP.ret ?_
              refine FI (.tup [(I6 0), (B6 false)]) ?_
              refine Shrink.all ?_ rfl
              (exact tupS (by grind [shapeI, leafI, whereP]) (by grind [shapeP, leafI, whereP]); done)
            · have h6' := bne_eq_false_iff_eq.1 h6
              refine AWP.skip (SQ (PT 4 4 ?_))
              refine CD (r_fits k a n) ?_
              refine PT 1 1 ?_
              refine DerQ.to ⟨[U6, U6, U6, U6, (I6 a), (I6 n), (S6 t)] ++ UU 7 ++ [(I6 0), (B6 false), (I6 k)] ++ UU 40 ++ [(B6 (inner != 0)), (I6 k), (I6 k), (I6 a), (I6 n), (B6 (decide (rfitP k a n))), (B6 (decide (rfitP k a n)))] ++ UU 5, []⟩ (by kernel_rfl) ?_
              cases h7 : (decide (rfitP k a n))
              · have h7' := of_decide_eq_false h7
                refine RT 3 ?_
                refine AWP.ret ?_
                refine FI (.tup [(I6 k), (B6 false)]) ?_
                refine Shrink.all ?_ rfl
                (exact tupS (by grind [shapeI, leafI, whereP]) (by grind [shapeP, leafI, whereP]); done)
              · have h7' := of_decide_eq_true h7
                refine PT 3 3 ?_
                refine CD (r_texts k a t) ?_
                refine RT 3 ?_
                refine AWP.ret ?_
                refine FI (.tup [(I6 k), (B6 (decide (rtextP k a t)))]) ?_
                refine Shrink.all ?_ rfl
                (exact tupS (by grind [shapeI, leafI, whereP]) (by grind [shapeP, leafI, whereP]); done)
          · have h5' := h5
            simp only [Bool.and_eq_true, Bool.and_eq_false_iff, Bool.or_eq_true, Bool.or_eq_false_iff, Bool.not_eq_true', Bool.not_eq_false', beq_iff_eq, beq_eq_false_iff_ne, decide_eq_true_eq, decide_eq_false_iff_not, ne_eq] at h5'
            refine RT 1 ?_
            refine KL ([2, 3, 30] ++ NN 52 5) ⟨[U6, U6, U6, U6, (I6 a), (I6 n), (S6 t)] ++ UU 7 ++ [(I6 0), (B6 false), (I6 k)] ++ UU 40 ++ [(B6 true)] ++ UU 11, []⟩ ?_
            refine CN true (fun _ => ?_) (fun h => nomatch h)
            refine SQ (RT 2 ?_)
            refine AWP.ret ?_
            refine FI (.tup [(I6 0), (B6 false)]) ?_
            refine Shrink.all ?_ rfl
            (exact tupS (by grind [shapeI, leafI, whereP]) (by grind [shapeP, leafI, whereP]); done)
    · have h2' := of_decide_eq_true h2
      refine RT 1 ?_
      refine KL ([1] ++ NN 17 10) ⟨[(I6 k), U6, (S6 f), (I6 inner), (I6 a), (I6 n), (S6 t)] ++ UU 7 ++ [(I6 0), (B6 false)] ++ UU 11 ++ [(B6 true)] ++ UU 41, []⟩ ?_
      refine CN true (fun _ => ?_) (fun h => nomatch h)
      refine SQ (RT 2 ?_)
      refine AWP.ret ?_
      refine FI (.tup [(I6 0), (B6 false)]) ?_
      refine Shrink.all ?_ rfl
      (exact tupS (by grind [shapeI, leafI, whereP]) (by grind [shapeP, leafI, whereP]); done)
  · have h1' := of_decide_eq_true h1
    refine RT 3 ?_
    refine KL ([1] ++ NN 17 10) ⟨[(I6 k), U6, (S6 f), (I6 inner), (I6 a), (I6 n), (S6 t)] ++ UU 7 ++ [(I6 0), (B6 false)] ++ UU 11 ++ [(B6 true)] ++ UU 41, []⟩ ?_
    refine CN true (fun _ => ?_) (fun h => nomatch h)
    refine SQ (RT 2 ?_)
    refine AWP.ret ?_
    refine FI (.tup [(I6 0), (B6 false)]) ?_
    refine Shrink.all ?_ rfl
    (exact tupS (by grind [shapeI, leafI, whereP]) (by grind [shapeP, leafI, whereP]); done)
theorem r_places (l a : Int) : EvD Try.prog 62 [.sc (.int .i64 l), .sc (.int .i64 a)] (.sc (.bool (decide (l = 5 ∧ a ≠ 5)))) := by
  refine EvD.body Try.func62 rfl rfl rfl ?_
  refine AWP.seq ?_
  refine TO ⟨[(I6 l), (I6 a)] ++ UU 9, []⟩ ?_
  refine AWP.reg (RT 1 ?_)
  refine AWP.seq ?_
  refine TO ⟨[(I6 l), (I6 a), U6, U6, (B6 false)] ++ UU 6, []⟩ ?_
  refine AWP.reg (PT 3 3 ?_)
  refine DerQ.to ⟨[(I6 l), (I6 a), U6, U6, (B6 false), (I6 l), (B6 (l == 5)), (B6 (l == 5)), U6, U6, .undef], []⟩ (by kernel_rfl) ?_
  cases h1 : (l == 5)
  · have h1' := ne_of_beq_false h1
    refine RT 2 ?_
    refine AWP.ret ?_
    refine FI (B6 false) ?_
    refine Shrink.all ?_ rfl
    ((first | refine congrArg B6 ?_ | refine congrArg I6 ?_ | congr 2); rw [Bool.eq_iff_iff]; simp only [decide_eq_true_eq, Bool.false_eq_true, false_iff, true_iff, Bool.and_eq_true, Bool.or_eq_true, Bool.not_eq_true', Bool.not_eq_true, Bool.not_eq_false', decide_eq_false_iff_not, iff_true, iff_false, beq_iff_eq, beq_eq_false_iff_ne, ge_iff_le, gt_iff_lt, ne_eq, bne_iff_ne, not_true_eq_false, not_false_eq_true] at *; omega; done)
  · have h1' := eq_of_beq h1
    refine RT 4 ?_
    refine AWP.ret ?_
    refine FI (B6 (a != 5)) ?_
    refine Shrink.all ?_ rfl
    ((first | refine congrArg B6 ?_ | refine congrArg I6 ?_ | congr 2); rw [Bool.eq_iff_iff]; simp only [decide_eq_true_eq, Bool.false_eq_true, false_iff, true_iff, Bool.and_eq_true, Bool.or_eq_true, Bool.not_eq_true', Bool.not_eq_true, Bool.not_eq_false', decide_eq_false_iff_not, iff_true, iff_false, beq_iff_eq, beq_eq_false_iff_ne, ge_iff_le, gt_iff_lt, ne_eq, bne_iff_ne, not_true_eq_false, not_false_eq_true] at *; omega; done)
theorem shape_fit (k inner a n : Int) (key f t : ByteArray) : shapeP k inner a n key f t ↔ fitP k inner a n key f t := by
  have := @leaf_if k inner
  unfold shapeP fitP rfitP rtextP okP rangeP numP textP
  constructor
  · rintro ⟨h1, h2⟩
    refine ⟨?_, h1, ?_, ?_, ?_⟩ <;> omega
  · rintro ⟨h1, h2, h3, h4, h5⟩
    refine ⟨h2, ?_⟩
    omega
theorem shape_place (k inner a n : Int) (key f t : ByteArray) (h : fitP k inner a n key f t) : (shapeI k inner key f = 5 ∧ a ≠ 5) ↔ plP k inner a n key f t := by
  have := @leaf_if k inner
  have h2 := h.2.1
  have h3 := h.1
  have h4 := h.2.2.1
  have h5 : whereP k inner key f := h2
  unfold shapeI plP
  rw [if_pos h5]
  unfold placeP
  unfold okP at h3
  constructor
  · rintro ⟨a1, a2⟩; exact ⟨h.1, h2, h4, by omega, a1⟩
  · rintro ⟨_, _, _, b1, b2⟩; exact ⟨b2, by omega⟩
theorem r_op (k inner a n p s i : Int) (key f t : ByteArray) : EvD Try.prog 23 [.agg [.sc (.int .i64 k), .sc (.string key), .sc (.string f), .sc (.int .i64 inner), .sc (.int .i64 a), .sc (.int .i64 n), .sc (.string t), .sc (.int .i64 p), .sc (.int .i64 s), .sc (.int .i64 i)]] (.sc (.bool (decide (opP k inner a n p s i key f t)))) := by
  refine EvD.body Try.func23 rfl rfl rfl ?_
  have hs := shape_fit k inner a n key f t
  have hp := shape_place k inner a n key f t
  refine AWP.seq ?_
  refine TO ⟨[.agg [(I6 k), (S6 key), (S6 f), (I6 inner), (I6 a), (I6 n), (S6 t), (I6 p), (I6 s), (I6 i)]] ++ UU 78, []⟩ ?_
  refine AWP.reg (RT 2 ?_)
  refine AWP.seq (KL [0] ⟨[U6, .ptr 0 0, (B6 false)] ++ UU 76, [⟨[(I6 k), (S6 key), (S6 f), (I6 inner), (I6 a), (I6 n), (S6 t), (I6 p), (I6 s), (I6 i)], 10, .fresh⟩]⟩ ?_)
  refine AWP.reg (RI (True ∧ True ∧ 3 ≤ 3 ∧ True) ⟨trivial, trivial, (by omega), trivial⟩ ?_)
  refine AWP.seq (AWP.seq (KL [7] ⟨[U6, .ptr 0 0, (B6 false), .ptr 1 0] ++ UU 75, [⟨[(I6 k), (S6 key), (S6 f), (I6 inner), (I6 a), (I6 n), (S6 t), (I6 p), (I6 s), (I6 i)], 10, .fresh⟩, ⟨[(I6 0), (I6 0), (I6 0)], 3, .fresh⟩]⟩ ?_))
  refine AWP.reg (RI (True ∧ 0 < 10 ∧ True ∧ True) ⟨trivial, (by omega), trivial, trivial⟩ ?_)
  refine KL [8, 9] ⟨[U6, .ptr 0 0, (B6 false), .ptr 1 0] ++ UU 6 ++ [(B6 (k == 7))] ++ UU 68, [⟨[(I6 k), (S6 key), (S6 f), (I6 inner), (I6 a), (I6 n), (S6 t), (I6 p), (I6 s), (I6 i)], 10, .fresh⟩, ⟨[(I6 0), (I6 0), (I6 0)], 3, .fresh⟩]⟩ ?_
  refine CN (k == 7) (fun h1 => ?_) (fun h1 => ?_)
  · have h1' := eq_of_beq h1
    refine SQ (RI (True ∧ 0 < 10 ∧ True ∧ 4 < 10 ∧ True ∧ 5 < 10 ∧ True ∧ True ∧ 10 ≤ 10 ∧ True) ⟨trivial, (by omega), trivial, (by omega), trivial, (by omega), trivial, trivial, (by omega), trivial⟩ ?_)
    refine AWP.seq (KL (NN 10 8) ⟨[U6, .ptr 0 0, (B6 false), .ptr 1 0, .ptr 2 0] ++ UU 74, [⟨[(I6 k), (S6 key), (S6 f), (I6 inner), (I6 a), (I6 n), (S6 t), (I6 p), (I6 s), (I6 i)], 10, .fresh⟩, ⟨[(I6 0), (I6 0), (I6 0)], 3, .fresh⟩, ⟨[(I6 k), (S6 ({ data := #[] })), (S6 ({ data := #[] })), (I6 0), (I6 a), (I6 n), (S6 ({ data := #[] })), (I6 0), (I6 0), (I6 0)], 10, .fresh⟩]⟩ ?_)
    refine AWP.reg ?_
    refine DerQ.pre 4 (10 ≤ 10 ∧ 10 ≤ 10 ∧ ((((0 : Nat) < (10 : Nat)) ∧ (((0 : Nat) < (10 : Nat)) ∧ (True))) ∧ ((((1 : Nat) < (10 : Nat)) ∧ (((1 : Nat) < (10 : Nat)) ∧ (True))) ∧ ((((2 : Nat) < (10 : Nat)) ∧ (((2 : Nat) < (10 : Nat)) ∧ (True))) ∧ ((((3 : Nat) < (10 : Nat)) ∧ (((3 : Nat) < (10 : Nat)) ∧ (True))) ∧ ((((4 : Nat) < (10 : Nat)) ∧ (((4 : Nat) < (10 : Nat)) ∧ (True))) ∧ ((((5 : Nat) < (10 : Nat)) ∧ (((5 : Nat) < (10 : Nat)) ∧ (True))) ∧ ((((6 : Nat) < (10 : Nat)) ∧ (((6 : Nat) < (10 : Nat)) ∧ (True))) ∧ (((10 : Nat) ≤ (10 : Nat)) ∧ (((10 : Nat) ≤ (10 : Nat)) ∧ ((((2 : Nat) ≤ (3 : Nat)) ∧ (((2 : Nat) ≤ (3 : Nat)) ∧ ((((0 : Nat) < (2 : Nat)) ∧ (((0 : Nat) < (2 : Nat)) ∧ (True))) ∧ (((1 : Nat) < (2 : Nat)) ∧ (((1 : Nat) < (2 : Nat)) ∧ (True)))))) ∧ (((2 : Nat) < (3 : Nat)) ∧ (((2 : Nat) < (3 : Nat)) ∧ (True))))))))))))) ∧ True ∧ True) ⟨[U6, .ptr 0 0, (B6 false), .ptr 1 0, .ptr 2 0] ++ UU 13 ++ [.agg [(I6 k), (S6 key), (S6 f), (I6 inner), (I6 a), (I6 n), (S6 t), (I6 p), (I6 s), (I6 i)], .agg [(I6 k), (S6 ({ data := #[] })), (S6 ({ data := #[] })), (I6 0), (I6 a), (I6 n), (S6 ({ data := #[] })), (I6 0), (I6 0), (I6 0)], (B6 (k == k && (ByteArray.toList key == ByteArray.toList { data := #[] } && (ByteArray.toList f == ByteArray.toList { data := #[] } && (inner == 0 && (a == a && (n == n && (ByteArray.toList t == ByteArray.toList { data := #[] } && (p == 0 && s == 0 && i == 0))))))))), (B6 (k == k && (ByteArray.toList key == ByteArray.toList { data := #[] } && (ByteArray.toList f == ByteArray.toList { data := #[] } && (inner == 0 && (a == a && (n == n && (ByteArray.toList t == ByteArray.toList { data := #[] } && (p == 0 && s == 0 && i == 0)))))))))] ++ UU 57, [⟨[(I6 k), (S6 key), (S6 f), (I6 inner), (I6 a), (I6 n), (S6 t), (I6 p), (I6 s), (I6 i)], 10, .fresh⟩, ⟨[(I6 0), (I6 0), (I6 0)], 3, .fresh⟩, ⟨[(I6 k), (S6 ({ data := #[] })), (S6 ({ data := #[] })), (I6 0), (I6 a), (I6 n), (S6 ({ data := #[] })), (I6 0), (I6 0), (I6 0)], 10, .fresh⟩]⟩ (by kernel_rfl) ⟨(by omega), (by omega), ⟨⟨(by omega), ⟨(by omega), trivial⟩⟩, ⟨⟨(by omega), ⟨(by omega), trivial⟩⟩, ⟨⟨(by omega), ⟨(by omega), trivial⟩⟩, ⟨⟨(by omega), ⟨(by omega), trivial⟩⟩, ⟨⟨(by omega), ⟨(by omega), trivial⟩⟩, ⟨⟨(by omega), ⟨(by omega), trivial⟩⟩, ⟨⟨(by omega), ⟨(by omega), trivial⟩⟩, ⟨(by omega), ⟨(by omega), ⟨⟨(by omega), ⟨(by omega), ⟨⟨(by omega), ⟨(by omega), trivial⟩⟩, ⟨(by omega), ⟨(by omega), trivial⟩⟩⟩⟩⟩, ⟨(by omega), ⟨(by omega), trivial⟩⟩⟩⟩⟩⟩⟩⟩⟩⟩⟩⟩, trivial, trivial⟩ ?_
    rw [Go.Abs.nil_beq (key)]
    rw [Go.Abs.nil_beq (f)]
    rw [Go.Abs.nil_beq (t)]
    cases h2 : (k == k && (decide (ByteArray.size key = 0) && (decide (ByteArray.size f = 0) && (inner == 0 && (a == a && (n == n && (decide (ByteArray.size t = 0) && (p == 0 && s == 0 && i == 0))))))))
    · have h2' := h2
      simp only [Bool.and_eq_true, Bool.and_eq_false_iff, Bool.or_eq_true, Bool.or_eq_false_iff, Bool.not_eq_true', Bool.not_eq_false', beq_iff_eq, beq_eq_false_iff_ne, decide_eq_true_eq, decide_eq_false_iff_not, ne_eq] at h2'
      refine RT 4 ?_
      refine AWP.ret ?_
      refine FI (B6 false) ?_
      refine Shrink.all ?_ rfl
      ((first | refine congrArg B6 ?_ | refine congrArg I6 ?_ | congr 2); grind [opP, refP]; done)
    · have h2' := h2
      simp only [Bool.and_eq_true, Bool.and_eq_false_iff, Bool.or_eq_true, Bool.or_eq_false_iff, Bool.not_eq_true', Bool.not_eq_false', beq_iff_eq, beq_eq_false_iff_ne, decide_eq_true_eq, decide_eq_false_iff_not, ne_eq] at h2'
      refine PI 4 (True ∧ 4 < 10 ∧ True ∧ True ∧ True) ⟨trivial, (by omega), trivial, trivial, trivial⟩ ?_
      refine DerQ.to ⟨[U6, .ptr 0 0, (B6 false), .ptr 1 0, .ptr 2 0] ++ UU 13 ++ [.agg [(I6 k), (S6 key), (S6 f), (I6 inner), (I6 a), (I6 n), (S6 t), (I6 p), (I6 s), (I6 i)], .agg [(I6 k), (S6 ({ data := #[] })), (S6 ({ data := #[] })), (I6 0), (I6 a), (I6 n), (S6 ({ data := #[] })), (I6 0), (I6 0), (I6 0)], (B6 true), (B6 true), .ptr 0 4, (I6 a), (B6 (a == 1)), (B6 (a == 1))] ++ UU 53, [⟨[(I6 k), (S6 key), (S6 f), (I6 inner), (I6 a), (I6 n), (S6 t), (I6 p), (I6 s), (I6 i)], 10, .fresh⟩, ⟨[(I6 0), (I6 0), (I6 0)], 3, .fresh⟩, ⟨[(I6 k), (S6 ({ data := #[] })), (S6 ({ data := #[] })), (I6 0), (I6 a), (I6 n), (S6 ({ data := #[] })), (I6 0), (I6 0), (I6 0)], 10, .fresh⟩]⟩ (by kernel_rfl) ?_
      cases h3 : (a == 1)
      · have h3' := ne_of_beq_false h3
        refine PI 6 (True ∧ 4 < 10 ∧ True ∧ True ∧ True ∧ True ∧ True) ⟨trivial, (by omega), trivial, trivial, trivial, trivial, trivial⟩ ?_
        refine DerQ.to ⟨[U6, .ptr 0 0, (B6 false), .ptr 1 0, .ptr 2 0] ++ UU 13 ++ [.agg [(I6 k), (S6 key), (S6 f), (I6 inner), (I6 a), (I6 n), (S6 t), (I6 p), (I6 s), (I6 i)], .agg [(I6 k), (S6 ({ data := #[] })), (S6 ({ data := #[] })), (I6 0), (I6 a), (I6 n), (S6 ({ data := #[] })), (I6 0), (I6 0), (I6 0)], (B6 true), (B6 true), .ptr 0 4, (I6 a), (B6 false), (B6 false), .ptr 0 4, (I6 a), (B6 (a == 2)), (B6 (a == 2)), (B6 (a == 2)), (B6 (a == 2))] ++ UU 47, [⟨[(I6 k), (S6 key), (S6 f), (I6 inner), (I6 a), (I6 n), (S6 t), (I6 p), (I6 s), (I6 i)], 10, .fresh⟩, ⟨[(I6 0), (I6 0), (I6 0)], 3, .fresh⟩, ⟨[(I6 k), (S6 ({ data := #[] })), (S6 ({ data := #[] })), (I6 0), (I6 a), (I6 n), (S6 ({ data := #[] })), (I6 0), (I6 0), (I6 0)], 10, .fresh⟩]⟩ (by kernel_rfl) ?_
        cases h4 : (a == 2)
        · have h4' := ne_of_beq_false h4
          refine RT 2 ?_
          refine AWP.ret ?_
          refine FI (B6 false) ?_
          refine Shrink.all ?_ rfl
          ((first | refine congrArg B6 ?_ | refine congrArg I6 ?_ | congr 2); grind [opP, refP]; done)
        · have h4' := eq_of_beq h4
          refine PI 2 (True ∧ 5 < 10 ∧ True) ⟨trivial, (by omega), trivial⟩ ?_
          refine CD (r_peer n) ?_
          refine RT 2 ?_
          refine AWP.ret ?_
          refine FI (B6 (decide (1 ≤ n ∧ n ≤ 12))) ?_
          refine Shrink.all ?_ rfl
          ((first | refine congrArg B6 ?_ | refine congrArg I6 ?_ | congr 2); grind [opP, refP]; done)
      · have h3' := eq_of_beq h3
        refine PI 8 (True ∧ True ∧ True ∧ True ∧ 5 < 10 ∧ True) ⟨trivial, trivial, trivial, trivial, (by omega), trivial⟩ ?_
        refine CD (r_peer n) ?_
        refine RT 2 ?_
        refine AWP.ret ?_
        refine FI (B6 (decide (1 ≤ n ∧ n ≤ 12))) ?_
        refine Shrink.all ?_ rfl
        ((first | refine congrArg B6 ?_ | refine congrArg I6 ?_ | congr 2); grind [opP, refP]; done)
  · have h1' := ne_of_beq_false h1
    refine AWP.skip (SQ (PI 14 (True ∧ 0 < 10 ∧ True ∧ 1 < 10 ∧ True ∧ 2 < 10 ∧ True ∧ 3 < 10 ∧ True ∧ 4 < 10 ∧ True ∧ 5 < 10 ∧ True ∧ 6 < 10 ∧ True) ⟨trivial, (by omega), trivial, (by omega), trivial, (by omega), trivial, (by omega), trivial, (by omega), trivial, (by omega), trivial, (by omega), trivial⟩ ?_))
    refine CD (r_shape k inner a n key f t) ?_
    refine RT 5 ?_
    refine AWP.seq (AWP.seq (KL ([10] ++ NN 36 18) ⟨[U6, .ptr 0 0, (B6 false), .ptr 1 0, U6, (I6 (shapeI k inner key f)), (B6 (decide (shapeP k inner a n key f t)))] ++ UU 72, [⟨[(I6 k), (S6 key), (S6 f), (I6 inner), (I6 a), (I6 n), (S6 t), (I6 p), (I6 s), (I6 i)], 10, .fresh⟩, ⟨[(I6 0), (I6 0), (I6 0)], 3, .fresh⟩]⟩ ?_))
    refine AWP.reg (RT 2 ?_)
    refine KL [6, 54] ⟨[U6, .ptr 0 0, (B6 false), .ptr 1 0, U6, (I6 (shapeI k inner key f))] ++ UU 49 ++ [(B6 (!decide (shapeP k inner a n key f t)))] ++ UU 23, [⟨[(I6 k), (S6 key), (S6 f), (I6 inner), (I6 a), (I6 n), (S6 t), (I6 p), (I6 s), (I6 i)], 10, .fresh⟩, ⟨[(I6 0), (I6 0), (I6 0)], 3, .fresh⟩]⟩ ?_
    refine CN (!decide (shapeP k inner a n key f t)) (fun h2 => ?_) (fun h2 => ?_)
    · have h2' := h2
      simp only [Bool.and_eq_true, Bool.and_eq_false_iff, Bool.or_eq_true, Bool.or_eq_false_iff, Bool.not_eq_true', Bool.not_eq_false', beq_iff_eq, beq_eq_false_iff_ne, decide_eq_true_eq, decide_eq_false_iff_not, ne_eq] at h2'
      refine SQ (RT 1 ?_)
      refine AWP.ret ?_
      refine FI (B6 false) ?_
      refine Shrink.all ?_ rfl
      ((first | refine congrArg B6 ?_ | refine congrArg I6 ?_ | congr 2); grind [opP, refP]; done)
    · have h2' := h2
      simp only [Bool.and_eq_true, Bool.and_eq_false_iff, Bool.or_eq_true, Bool.or_eq_false_iff, Bool.not_eq_true', Bool.not_eq_false', beq_iff_eq, beq_eq_false_iff_ne, decide_eq_true_eq, decide_eq_false_iff_not, ne_eq] at h2'
      refine AWP.skip (AWP.seq (SQ (PI 3 (True ∧ True ∧ 4 < 10 ∧ True) ⟨trivial, trivial, (by omega), trivial⟩ ?_)))
      refine CD (r_places (shapeI k inner key f) a) ?_
      refine RT 1 ?_
      refine KL ([5] ++ NN 55 5) ⟨[U6, .ptr 0 0, (B6 false), .ptr 1 0] ++ UU 56 ++ [(B6 (!decide (shapeI k inner key f = 5 ∧ a ≠ 5)))] ++ UU 18, [⟨[(I6 k), (S6 key), (S6 f), (I6 inner), (I6 a), (I6 n), (S6 t), (I6 p), (I6 s), (I6 i)], 10, .fresh⟩, ⟨[(I6 0), (I6 0), (I6 0)], 3, .fresh⟩]⟩ ?_
      refine CN (!decide (shapeI k inner key f = 5 ∧ a ≠ 5)) (fun h3 => ?_) (fun h3 => ?_)
      · have h3' := h3
        simp only [Bool.and_eq_true, Bool.and_eq_false_iff, Bool.or_eq_true, Bool.or_eq_false_iff, Bool.not_eq_true', Bool.not_eq_false', beq_iff_eq, beq_eq_false_iff_ne, decide_eq_true_eq, decide_eq_false_iff_not, ne_eq] at h3'
        refine SQ (RI (True ∧ 10 ≤ 10 ∧ 3 ≤ 3 ∧ ((((2 : Nat) ≤ (3 : Nat)) ∧ (((2 : Nat) ≤ (3 : Nat)) ∧ ((((0 : Nat) < (2 : Nat)) ∧ (((0 : Nat) < (2 : Nat)) ∧ (True))) ∧ (((1 : Nat) < (2 : Nat)) ∧ (((1 : Nat) < (2 : Nat)) ∧ (True)))))) ∧ (((2 : Nat) < (3 : Nat)) ∧ (((2 : Nat) < (3 : Nat)) ∧ (True)))) ∧ True ∧ True) ⟨trivial, (by omega), (by omega), ⟨⟨(by omega), ⟨(by omega), ⟨⟨(by omega), ⟨(by omega), trivial⟩⟩, ⟨(by omega), ⟨(by omega), trivial⟩⟩⟩⟩⟩, ⟨(by omega), ⟨(by omega), trivial⟩⟩⟩, trivial, trivial⟩ ?_)
        refine AWP.ret ?_
        refine FI (B6 (p == 0 && s == 0 && i == 0)) ?_
        refine Shrink.all ?_ rfl
        ((first | refine congrArg B6 ?_ | refine congrArg I6 ?_ | congr 2); grind [opP, refP]; done)
      · have h3' := h3
        simp only [Bool.and_eq_true, Bool.and_eq_false_iff, Bool.or_eq_true, Bool.or_eq_false_iff, Bool.not_eq_true', Bool.not_eq_false', beq_iff_eq, beq_eq_false_iff_ne, decide_eq_true_eq, decide_eq_false_iff_not, ne_eq] at h3'
        refine AWP.skip (SQ (PI 2 (True ∧ 10 ≤ 10 ∧ True) ⟨trivial, (by omega), trivial⟩ ?_))
        refine CD (r_ref p s i) ?_
        refine PT 1 1 ?_
        refine DerQ.to ⟨[U6, .ptr 0 0, (B6 false), .ptr 1 0] ++ UU 56 ++ [(B6 (!decide (shapeI k inner key f = 5 ∧ a ≠ 5))), U6, U6, U6, U6, .ptr 0 7, .agg [(I6 p), (I6 s), (I6 i)], (B6 (decide (refP p s i))), (B6 (decide (refP p s i)))] ++ UU 10, [⟨[(I6 k), (S6 key), (S6 f), (I6 inner), (I6 a), (I6 n), (S6 t), (I6 p), (I6 s), (I6 i)], 10, .fresh⟩, ⟨[(I6 0), (I6 0), (I6 0)], 3, .fresh⟩]⟩ (by kernel_rfl) ?_
        cases h4 : (decide (refP p s i))
        · have h4' := of_decide_eq_false h4
          refine PI 5 (True ∧ 10 ≤ 10 ∧ 3 ≤ 3 ∧ ((((2 : Nat) ≤ (3 : Nat)) ∧ (((2 : Nat) ≤ (3 : Nat)) ∧ ((((0 : Nat) < (2 : Nat)) ∧ (((0 : Nat) < (2 : Nat)) ∧ (True))) ∧ (((1 : Nat) < (2 : Nat)) ∧ (((1 : Nat) < (2 : Nat)) ∧ (True)))))) ∧ (((2 : Nat) < (3 : Nat)) ∧ (((2 : Nat) < (3 : Nat)) ∧ (True)))) ∧ True ∧ True) ⟨trivial, (by omega), (by omega), ⟨⟨(by omega), ⟨(by omega), ⟨⟨(by omega), ⟨(by omega), trivial⟩⟩, ⟨(by omega), ⟨(by omega), trivial⟩⟩⟩⟩⟩, ⟨(by omega), ⟨(by omega), trivial⟩⟩⟩, trivial, trivial⟩ ?_
          refine DerQ.to ⟨[U6, .ptr 0 0, (B6 false), .ptr 1 0] ++ UU 56 ++ [(B6 (!decide (shapeI k inner key f = 5 ∧ a ≠ 5))), U6, U6, U6, U6, .ptr 0 7, .agg [(I6 p), (I6 s), (I6 i)], (B6 false), (B6 false), .ptr 0 7, .agg [(I6 p), (I6 s), (I6 i)], .agg [(I6 0), (I6 0), (I6 0)], (B6 (p == 0 && s == 0 && i == 0)), (B6 (p == 0 && s == 0 && i == 0))] ++ UU 5, [⟨[(I6 k), (S6 key), (S6 f), (I6 inner), (I6 a), (I6 n), (S6 t), (I6 p), (I6 s), (I6 i)], 10, .fresh⟩, ⟨[(I6 0), (I6 0), (I6 0)], 3, .fresh⟩]⟩ (by kernel_rfl) ?_
          cases h5 : (p == 0 && s == 0 && i == 0)
          · have h5' := h5
            simp only [Bool.and_eq_true, Bool.and_eq_false_iff, Bool.or_eq_true, Bool.or_eq_false_iff, Bool.not_eq_true', Bool.not_eq_false', beq_iff_eq, beq_eq_false_iff_ne, decide_eq_true_eq, decide_eq_false_iff_not, ne_eq] at h5'
            refine RT 3 ?_
            refine AWP.ret ?_
            refine FI (B6 false) ?_
            refine Shrink.all ?_ rfl
            ((first | refine congrArg B6 ?_ | refine congrArg I6 ?_ | congr 2); grind [opP, refP]; done)
          · have h5' := h5
            simp only [Bool.and_eq_true, Bool.and_eq_false_iff, Bool.or_eq_true, Bool.or_eq_false_iff, Bool.not_eq_true', Bool.not_eq_false', beq_iff_eq, beq_eq_false_iff_ne, decide_eq_true_eq, decide_eq_false_iff_not, ne_eq] at h5'
            refine RI (True ∧ 4 < 10 ∧ True ∧ True ∧ True ∧ True ∧ True) ⟨trivial, (by omega), trivial, trivial, trivial, trivial, trivial⟩ ?_
            refine AWP.ret ?_
            refine FI (B6 (a == 4)) ?_
            refine Shrink.all ?_ rfl
            ((first | refine congrArg B6 ?_ | refine congrArg I6 ?_ | congr 2); grind [opP, refP]; done)
        · have h4' := of_decide_eq_true h4
          refine RT 2 ?_
          refine AWP.ret ?_
          refine FI (B6 true) ?_
          refine Shrink.all ?_ rfl
          ((first | refine congrArg B6 ?_ | refine congrArg I6 ?_ | congr 2); grind [opP, refP]; done)
end Go.Ops
