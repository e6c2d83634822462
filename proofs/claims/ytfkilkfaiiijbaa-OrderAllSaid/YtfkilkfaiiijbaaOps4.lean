/- Walks and laws. -/
import Derived.Test.YtfkilkfaiiijbaaOps3
import Derived.Test.YtfkilkfaiiijbaaLibC
set_option maxRecDepth 100000
set_option maxHeartbeats 0
set_option linter.unusedSimpArgs false
set_option linter.unusedVariables false
namespace Go.Ops
open Go Go.Abs Go.Proofs
def rangeP (n : Int) (t : ByteArray) : Prop := -1073741824 ≤ n ∧ n ≤ 1073741824 ∧ t.size ≤ 64
def plP (k inner a n : Int) (key f t : ByteArray) : Prop := okP k inner a ∧ whereP k inner key f ∧ rangeP n t ∧ placeP k inner a
def fitP (k inner a n : Int) (key f t : ByteArray) : Prop := okP k inner a ∧ whereP k inner key f ∧ rangeP n t ∧ (numP k inner a ∨ n = 0) ∧ (textP k inner a ∨ t.size = 0)
instance (n : Int) (t : ByteArray) : Decidable (rangeP n t) := by unfold rangeP; infer_instance
instance (k inner a n : Int) (key f t : ByteArray) : Decidable (plP k inner a n key f t) := by unfold plP; infer_instance
instance (k inner a n : Int) (key f t : ByteArray) : Decidable (fitP k inner a n key f t) := by unfold fitP; infer_instance
theorem tup2 {a b : Bool} {A B : Prop} [Decidable A] [Decidable B] (ha : a = true ↔ A) (hb : b = true ↔ B) :
    AVal.tup [.sc (.bool a), .sc (.bool b)] = .tup [.sc (.bool (decide A)), .sc (.bool (decide B))] := by
  have h1 : a = decide A := by rw [Bool.eq_iff_iff, decide_eq_true_iff]; exact ha
  have h2 : b = decide B := by rw [Bool.eq_iff_iff, decide_eq_true_iff]; exact hb
  rw [h1, h2]
theorem o_fits (k inner a n p s i at_ : Int) (key f t : ByteArray) : EvD Try.prog 60 [.agg [.sc (.int .i64 k), .sc (.string key), .sc (.string f), .sc (.int .i64 inner), .sc (.int .i64 a), .sc (.int .i64 n), .sc (.string t), .sc (.int .i64 p), .sc (.int .i64 s), .sc (.int .i64 i), .sc (.int .i64 at_)]]
    (.tup [.sc (.bool (decide (plP k inner a n key f t))), .sc (.bool (decide (fitP k inner a n key f t)))]) := by
  refine EvD.body Try.func60 rfl rfl rfl ?_
  refine AWP.seq ?_
  refine TO ⟨[.agg [(I6 k), (S6 key), (S6 f), (I6 inner), (I6 a), (I6 n), (S6 t), (I6 p), (I6 s), (I6 i), (I6 at_)]] ++ UU 55, []⟩ ?_
  refine AWP.reg (RT 3 ?_)
  refine AWP.seq (KL [0] ⟨[U6, .ptr 0 0, (B6 false), (B6 false)] ++ UU 52, [⟨[(I6 k), (S6 key), (S6 f), (I6 inner), (I6 a), (I6 n), (S6 t), (I6 p), (I6 s), (I6 i), (I6 at_)], 11, .fresh⟩]⟩ ?_)
  refine AWP.reg (PI 1 (11 ≤ 11 ∧ True) ⟨(by omega), trivial⟩ ?_)
  refine CD (o_uses k inner a n p s i at_ key f t) ?_
  refine RT 9 ?_
  refine AWP.seq (AWP.block (AWP.seq (KL (NN 6 7) ⟨[U6, .ptr 0 0, (B6 (decide (placeP k inner a))), (B6 (decide (okP k inner a))), (B6 (decide (numP k inner a))), (B6 (decide (textP k inner a)))] ++ UU 50, [⟨[(I6 k), (S6 key), (S6 f), (I6 inner), (I6 a), (I6 n), (S6 t), (I6 p), (I6 s), (I6 i), (I6 at_)], 11, .fresh⟩]⟩ ?_)))
  refine AWP.reg (PT 3 3 ?_)
  refine DerQ.to ⟨[U6, .ptr 0 0, (B6 (decide (placeP k inner a))), (B6 (decide (okP k inner a))), (B6 (decide (numP k inner a))), (B6 (decide (textP k inner a)))] ++ UU 8 ++ [(B6 (decide (okP k inner a))), (B6 (!decide (okP k inner a))), (B6 (!decide (okP k inner a)))] ++ UU 39, [⟨[(I6 k), (S6 key), (S6 f), (I6 inner), (I6 a), (I6 n), (S6 t), (I6 p), (I6 s), (I6 i), (I6 at_)], 11, .fresh⟩]⟩ (by kernel_rfl) ?_
  cases h1 : (!decide (okP k inner a))
  · have h1' := h1
    simp only [Bool.and_eq_true, Bool.and_eq_false_iff, Bool.or_eq_true, Bool.or_eq_false_iff, Bool.not_eq_true', Bool.not_eq_false', beq_iff_eq, beq_eq_false_iff_ne, decide_eq_true_eq, decide_eq_false_iff_not, ne_eq] at h1'
    refine PI 1 (11 ≤ 11 ∧ True) ⟨(by omega), trivial⟩ ?_
    refine CD (o_where k inner a n p s i at_ key f t) ?_
    refine RT 3 ?_
    refine KL (NN 14 7) ⟨[U6, .ptr 0 0, (B6 (decide (placeP k inner a))), (B6 (decide (okP k inner a))), (B6 (decide (numP k inner a))), (B6 (decide (textP k inner a)))] ++ UU 7 ++ [(B6 (!decide (whereP k inner key f)))] ++ UU 42, [⟨[(I6 k), (S6 key), (S6 f), (I6 inner), (I6 a), (I6 n), (S6 t), (I6 p), (I6 s), (I6 i), (I6 at_)], 11, .fresh⟩]⟩ ?_
    refine CN (!decide (whereP k inner key f)) (fun h2 => ?_) (fun h2 => ?_)
    · have h2' := h2
      simp only [Bool.and_eq_true, Bool.and_eq_false_iff, Bool.or_eq_true, Bool.or_eq_false_iff, Bool.not_eq_true', Bool.not_eq_false', beq_iff_eq, beq_eq_false_iff_ne, decide_eq_true_eq, decide_eq_false_iff_not, ne_eq] at h2'
      refine SQ (RT 2 ?_)
      refine AWP.ret ?_
      refine FI (.tup [(B6 false), (B6 false)]) ?_
      refine Shrink.all ?_ rfl
      (exact tup2 (by grind [plP, rangeP]) (by grind [fitP, rangeP]); done)
    · have h2' := h2
      simp only [Bool.and_eq_true, Bool.and_eq_false_iff, Bool.or_eq_true, Bool.or_eq_false_iff, Bool.not_eq_true', Bool.not_eq_false', beq_iff_eq, beq_eq_false_iff_ne, decide_eq_true_eq, decide_eq_false_iff_not, ne_eq] at h2'
      refine SQ (PI 5 (True ∧ True ∧ 5 < 11 ∧ True ∧ True ∧ True) ⟨trivial, trivial, (by omega), trivial, trivial, trivial⟩ ?_)
      refine DerQ.to ⟨[U6, .ptr 0 0, (B6 (decide (placeP k inner a))), (B6 (decide (okP k inner a))), (B6 (decide (numP k inner a))), (B6 (decide (textP k inner a)))] ++ UU 7 ++ [(B6 (!decide (whereP k inner key f)))] ++ UU 8 ++ [.ptr 0 0, .ptr 0 5, (I6 n), (B6 (decide (n < -1073741824))), (B6 (decide (n < -1073741824)))] ++ UU 29, [⟨[(I6 k), (S6 key), (S6 f), (I6 inner), (I6 a), (I6 n), (S6 t), (I6 p), (I6 s), (I6 i), (I6 at_)], 11, .fresh⟩]⟩ (by kernel_rfl) ?_
      cases h3 : (decide (n < -1073741824))
      · have h3' := of_decide_eq_false h3
        refine PI 6 (True ∧ True ∧ 5 < 11 ∧ True ∧ True ∧ True ∧ True) ⟨trivial, trivial, (by omega), trivial, trivial, trivial, trivial⟩ ?_
        refine DerQ.to ⟨[U6, .ptr 0 0, (B6 (decide (placeP k inner a))), (B6 (decide (okP k inner a))), (B6 (decide (numP k inner a))), (B6 (decide (textP k inner a)))] ++ UU 7 ++ [(B6 (!decide (whereP k inner key f)))] ++ UU 8 ++ [.ptr 0 0, .ptr 0 5, (I6 n), (B6 false), (B6 false), .ptr 0 0, .ptr 0 5, (I6 n), (B6 (decide (n > 1073741824))), (B6 (decide (n > 1073741824))), (B6 (decide (n > 1073741824)))] ++ UU 23, [⟨[(I6 k), (S6 key), (S6 f), (I6 inner), (I6 a), (I6 n), (S6 t), (I6 p), (I6 s), (I6 i), (I6 at_)], 11, .fresh⟩]⟩ (by kernel_rfl) ?_
        cases h4 : (decide (n > 1073741824))
        · have h4' := of_decide_eq_false h4
          refine RI (True ∧ True ∧ 6 < 11 ∧ True ∧ True ∧ True ∧ True ∧ True) ⟨trivial, trivial, (by omega), trivial, trivial, trivial, trivial, trivial⟩ ?_
          refine KL ([13] ++ NN 22 17) ⟨[U6, .ptr 0 0, (B6 (decide (placeP k inner a))), (B6 (decide (okP k inner a))), (B6 (decide (numP k inner a))), (B6 (decide (textP k inner a)))] ++ UU 15 ++ [(B6 (decide ((↑(ByteArray.size t) : Int) > 64)))] ++ UU 34, [⟨[(I6 k), (S6 key), (S6 f), (I6 inner), (I6 a), (I6 n), (S6 t), (I6 p), (I6 s), (I6 i), (I6 at_)], 11, .fresh⟩]⟩ ?_
          refine CN (decide ((↑(ByteArray.size t) : Int) > 64)) (fun h5 => ?_) (fun h5 => ?_)
          · have h5' := of_decide_eq_true h5
            refine SQ (RT 2 ?_)
            refine AWP.ret ?_
            refine FI (.tup [(B6 false), (B6 false)]) ?_
            refine Shrink.all ?_ rfl
            (exact tup2 (by grind [plP, rangeP]) (by grind [fitP, rangeP]); done)
          · have h5' := of_decide_eq_false h5
            refine AWP.skip (AWP.seq ?_)
            refine AWP.drawX mixed (fun _ => false) (by kernel_rfl) ?_
            refine DerX.preI 3 ((True) ∧ ((True) ∧ ((True) ∧ (True)))) (by intro ext; kernel_rfl) ⟨trivial, ⟨trivial, ⟨trivial, trivial⟩⟩⟩ ?_
            refine AWP.toX ⟨[U6, .ptr 0 0, (B6 (decide (placeP k inner a))), (B6 (decide (okP k inner a))), (B6 (decide (numP k inner a))), (B6 (decide (textP k inner a)))] ++ UU 15 ++ [(B6 (decide ((↑(ByteArray.size t) : Int) > 64)))] ++ UU 17 ++ [(B6 (decide (placeP k inner a))), (B6 (decide (numP k inner a))), (B6 (decide (numP k inner a)))] ++ UU 14, [⟨[(I6 k), (S6 key), (S6 f), (I6 inner), (I6 a), (I6 n), (S6 t), (I6 p), (I6 s), (I6 i), (I6 at_)], 11, .fresh⟩]⟩ (by kernel_rfl) ?_
            cases h6 : (decide (numP k inner a))
            · have h6' := of_decide_eq_false h6
              refine DerX.preI 6 ((True) ∧ ((True) ∧ (((5 : Nat) < (11 : Nat)) ∧ ((True) ∧ ((True) ∧ ((True) ∧ (True))))))) (by intro ext; kernel_rfl) ⟨trivial, ⟨trivial, ⟨(by omega), ⟨trivial, ⟨trivial, ⟨trivial, trivial⟩⟩⟩⟩⟩⟩ ?_
              refine AWP.toX ⟨[U6, .ptr 0 0, (B6 (decide (placeP k inner a))), (B6 (decide (okP k inner a))), (B6 false), (B6 (decide (textP k inner a)))] ++ UU 15 ++ [(B6 (decide ((↑(ByteArray.size t) : Int) > 64)))] ++ UU 17 ++ [(B6 (decide (placeP k inner a))), (B6 false), (B6 false), .ptr 0 0, .ptr 0 5, (I6 n), (B6 (n == 0)), (B6 (n == 0)), (B6 (n == 0))] ++ UU 8, [⟨[(I6 k), (S6 key), (S6 f), (I6 inner), (I6 a), (I6 n), (S6 t), (I6 p), (I6 s), (I6 i), (I6 at_)], 11, .fresh⟩]⟩ (by kernel_rfl) ?_
              cases h7 : (n == 0)
              · have h7' := ne_of_beq_false h7
                refine DerX.preI 10 ((True) ∧ ((True) ∧ ((True) ∧ (True)))) (by intro ext; kernel_rfl) ⟨trivial, ⟨trivial, ⟨trivial, trivial⟩⟩⟩ ?_
                refine DerX.nil ?_
                refine AWP.ret ?_
                refine FI (.tup [(B6 (decide (placeP k inner a))), (B6 false)]) ?_
                refine Shrink.all ?_ rfl
                (exact tup2 (by grind [plP, rangeP]) (by grind [fitP, rangeP]); done)
              · have h7' := eq_of_beq h7
                refine DerX.preI 2 ((True) ∧ ((True) ∧ (True))) (by intro ext; kernel_rfl) ⟨trivial, ⟨trivial, trivial⟩⟩ ?_
                refine AWP.toX ⟨[U6, .ptr 0 0, (B6 (decide (placeP k inner a))), (B6 (decide (okP k inner a))), (B6 false), (B6 (decide (textP k inner a)))] ++ UU 15 ++ [(B6 (decide ((↑(ByteArray.size t) : Int) > 64)))] ++ UU 17 ++ [(B6 (decide (placeP k inner a))), (B6 false), (B6 false), .ptr 0 0, .ptr 0 5, (I6 n), (B6 true), (B6 true), (B6 true), (B6 (decide (textP k inner a))), (B6 (decide (textP k inner a)))] ++ UU 6, [⟨[(I6 k), (S6 key), (S6 f), (I6 inner), (I6 a), (I6 n), (S6 t), (I6 p), (I6 s), (I6 i), (I6 at_)], 11, .fresh⟩]⟩ (by kernel_rfl) ?_
                cases h8 : (decide (textP k inner a))
                · have h8' := of_decide_eq_false h8
                  refine DerX.pre 8 ((True) ∧ ((True) ∧ (((6 : Nat) < (11 : Nat)) ∧ ((True) ∧ ((True) ∧ ((True) ∧ ((True) ∧ ((True) ∧ (True))))))))) [.ptr 0 0, .ptr 0 6, (S6 t), (B6 (ByteArray.toList t == ByteArray.toList { data := #[] })), (B6 (ByteArray.toList t == ByteArray.toList { data := #[] })), (B6 (ByteArray.toList t == ByteArray.toList { data := #[] })), (B6 (decide (placeP k inner a))), (B6 (ByteArray.toList t == ByteArray.toList { data := #[] }))] ⟨[U6, .ptr 0 0, (B6 (decide (placeP k inner a))), (B6 (ByteArray.toList t == ByteArray.toList { data := #[] })), (B6 false), (B6 false)] ++ UU 15 ++ [(B6 (decide ((↑(ByteArray.size t) : Int) > 64)))] ++ UU 17 ++ [(B6 (decide (placeP k inner a))), (B6 false), (B6 false), .ptr 0 0, .ptr 0 5, (I6 n), (B6 true), (B6 true), (B6 true), (B6 false), (B6 false), .ptr 0 0, .ptr 0 6, (S6 t), (B6 (ByteArray.toList t == ByteArray.toList { data := #[] })), (B6 (ByteArray.toList t == ByteArray.toList { data := #[] })), (B6 (ByteArray.toList t == ByteArray.toList { data := #[] }))], [⟨[(I6 k), (S6 key), (S6 f), (I6 inner), (I6 a), (I6 n), (S6 t), (I6 p), (I6 s), (I6 i), (I6 at_)], 11, .fresh⟩]⟩ (by intro ext; kernel_rfl) (by kernel_rfl) ⟨trivial, ⟨trivial, ⟨(by omega), ⟨trivial, ⟨trivial, ⟨trivial, ⟨trivial, ⟨trivial, trivial⟩⟩⟩⟩⟩⟩⟩⟩ ?_
                  rw [Go.Abs.nil_beq (t)]
                  refine DerX.nil ?_
                  refine KL ([1, 4, 5, 21] ++ NN 39 17) ⟨[U6, U6, (B6 (decide (placeP k inner a))), (B6 (decide (ByteArray.size t = 0)))] ++ UU 52, [⟨[(I6 k), (S6 key), (S6 f), (I6 inner), (I6 a), (I6 n), (S6 t), (I6 p), (I6 s), (I6 i), (I6 at_)], 11, .fresh⟩]⟩ ?_
                  refine AWP.ret ?_
                  refine FI (.tup [(B6 (decide (placeP k inner a))), (B6 (decide (ByteArray.size t = 0)))]) ?_
                  refine Shrink.all ?_ rfl
                  (exact tup2 (by grind [plP, rangeP]) (by grind [fitP, rangeP]); done)
                · have h8' := of_decide_eq_true h8
                  refine DerX.preI 8 ((True) ∧ ((True) ∧ ((True) ∧ ((True) ∧ (True))))) (by intro ext; kernel_rfl) ⟨trivial, ⟨trivial, ⟨trivial, ⟨trivial, trivial⟩⟩⟩⟩ ?_
                  refine DerX.nil ?_
                  refine AWP.ret ?_
                  refine FI (.tup [(B6 (decide (placeP k inner a))), (B6 true)]) ?_
                  refine Shrink.all ?_ rfl
                  (exact tup2 (by grind [plP, rangeP]) (by grind [fitP, rangeP]); done)
            · have h6' := of_decide_eq_true h6
              refine DerX.preI 8 ((True) ∧ ((True) ∧ ((True) ∧ ((True) ∧ (True))))) (by intro ext; kernel_rfl) ⟨trivial, ⟨trivial, ⟨trivial, ⟨trivial, trivial⟩⟩⟩⟩ ?_
              refine AWP.toX ⟨[U6, .ptr 0 0, (B6 (decide (placeP k inner a))), (B6 (decide (okP k inner a))), (B6 true), (B6 (decide (textP k inner a)))] ++ UU 15 ++ [(B6 (decide ((↑(ByteArray.size t) : Int) > 64)))] ++ UU 17 ++ [(B6 (decide (placeP k inner a))), (B6 true), (B6 true), .tup [], .tup [], .tup [], .tup [], (B6 true), (B6 true), (B6 (decide (textP k inner a))), (B6 (decide (textP k inner a)))] ++ UU 6, [⟨[(I6 k), (S6 key), (S6 f), (I6 inner), (I6 a), (I6 n), (S6 t), (I6 p), (I6 s), (I6 i), (I6 at_)], 11, .fresh⟩]⟩ (by kernel_rfl) ?_
              cases h7 : (decide (textP k inner a))
              · have h7' := of_decide_eq_false h7
                refine DerX.pre 8 ((True) ∧ ((True) ∧ (((6 : Nat) < (11 : Nat)) ∧ ((True) ∧ ((True) ∧ ((True) ∧ ((True) ∧ ((True) ∧ (True))))))))) [.ptr 0 0, .ptr 0 6, (S6 t), (B6 (ByteArray.toList t == ByteArray.toList { data := #[] })), (B6 (ByteArray.toList t == ByteArray.toList { data := #[] })), (B6 (ByteArray.toList t == ByteArray.toList { data := #[] })), (B6 (decide (placeP k inner a))), (B6 (ByteArray.toList t == ByteArray.toList { data := #[] }))] ⟨[U6, .ptr 0 0, (B6 (decide (placeP k inner a))), (B6 (ByteArray.toList t == ByteArray.toList { data := #[] })), (B6 true), (B6 false)] ++ UU 15 ++ [(B6 (decide ((↑(ByteArray.size t) : Int) > 64)))] ++ UU 17 ++ [(B6 (decide (placeP k inner a))), (B6 true), (B6 true), .tup [], .tup [], .tup [], .tup [], (B6 true), (B6 true), (B6 false), (B6 false), .ptr 0 0, .ptr 0 6, (S6 t), (B6 (ByteArray.toList t == ByteArray.toList { data := #[] })), (B6 (ByteArray.toList t == ByteArray.toList { data := #[] })), (B6 (ByteArray.toList t == ByteArray.toList { data := #[] }))], [⟨[(I6 k), (S6 key), (S6 f), (I6 inner), (I6 a), (I6 n), (S6 t), (I6 p), (I6 s), (I6 i), (I6 at_)], 11, .fresh⟩]⟩ (by intro ext; kernel_rfl) (by kernel_rfl) ⟨trivial, ⟨trivial, ⟨(by omega), ⟨trivial, ⟨trivial, ⟨trivial, ⟨trivial, ⟨trivial, trivial⟩⟩⟩⟩⟩⟩⟩⟩ ?_
                rw [Go.Abs.nil_beq (t)]
                refine DerX.nil ?_
                refine KL ([1, 4, 5, 21] ++ NN 39 17) ⟨[U6, U6, (B6 (decide (placeP k inner a))), (B6 (decide (ByteArray.size t = 0)))] ++ UU 52, [⟨[(I6 k), (S6 key), (S6 f), (I6 inner), (I6 a), (I6 n), (S6 t), (I6 p), (I6 s), (I6 i), (I6 at_)], 11, .fresh⟩]⟩ ?_
                refine AWP.ret ?_
                refine FI (.tup [(B6 (decide (placeP k inner a))), (B6 (decide (ByteArray.size t = 0)))]) ?_
                refine Shrink.all ?_ rfl
                (exact tup2 (by grind [plP, rangeP]) (by grind [fitP, rangeP]); done)
              · have h7' := of_decide_eq_true h7
                refine DerX.preI 8 ((True) ∧ ((True) ∧ ((True) ∧ ((True) ∧ (True))))) (by intro ext; kernel_rfl) ⟨trivial, ⟨trivial, ⟨trivial, ⟨trivial, trivial⟩⟩⟩⟩ ?_
                refine DerX.nil ?_
                refine AWP.ret ?_
                refine FI (.tup [(B6 (decide (placeP k inner a))), (B6 true)]) ?_
                refine Shrink.all ?_ rfl
                (exact tup2 (by grind [plP, rangeP]) (by grind [fitP, rangeP]); done)
        · have h4' := of_decide_eq_true h4
          refine RT 2 ?_
          refine KL ([13] ++ NN 22 17) ⟨[U6, .ptr 0 0, (B6 (decide (placeP k inner a))), (B6 (decide (okP k inner a))), (B6 (decide (numP k inner a))), (B6 (decide (textP k inner a)))] ++ UU 15 ++ [(B6 true)] ++ UU 34, [⟨[(I6 k), (S6 key), (S6 f), (I6 inner), (I6 a), (I6 n), (S6 t), (I6 p), (I6 s), (I6 i), (I6 at_)], 11, .fresh⟩]⟩ ?_
          refine CN true (fun _ => ?_) (fun h => nomatch h)
          refine SQ (RT 2 ?_)
          refine AWP.ret ?_
          refine FI (.tup [(B6 false), (B6 false)]) ?_
          refine Shrink.all ?_ rfl
          (exact tup2 (by grind [plP, rangeP]) (by grind [fitP, rangeP]); done)
      · have h3' := of_decide_eq_true h3
        refine RT 4 ?_
        refine KL ([13] ++ NN 22 17) ⟨[U6, .ptr 0 0, (B6 (decide (placeP k inner a))), (B6 (decide (okP k inner a))), (B6 (decide (numP k inner a))), (B6 (decide (textP k inner a)))] ++ UU 15 ++ [(B6 true)] ++ UU 34, [⟨[(I6 k), (S6 key), (S6 f), (I6 inner), (I6 a), (I6 n), (S6 t), (I6 p), (I6 s), (I6 i), (I6 at_)], 11, .fresh⟩]⟩ ?_
        refine CN true (fun _ => ?_) (fun h => nomatch h)
        refine SQ (RT 2 ?_)
        refine AWP.ret ?_
        refine FI (.tup [(B6 false), (B6 false)]) ?_
        refine Shrink.all ?_ rfl
        (exact tup2 (by grind [plP, rangeP]) (by grind [fitP, rangeP]); done)
  · have h1' := h1
    simp only [Bool.and_eq_true, Bool.and_eq_false_iff, Bool.or_eq_true, Bool.or_eq_false_iff, Bool.not_eq_true', Bool.not_eq_false', beq_iff_eq, beq_eq_false_iff_ne, decide_eq_true_eq, decide_eq_false_iff_not, ne_eq] at h1'
    refine RT 2 ?_
    refine KL (NN 14 7) ⟨[U6, .ptr 0 0, (B6 (decide (placeP k inner a))), (B6 (decide (okP k inner a))), (B6 (decide (numP k inner a))), (B6 (decide (textP k inner a)))] ++ UU 7 ++ [(B6 true)] ++ UU 42, [⟨[(I6 k), (S6 key), (S6 f), (I6 inner), (I6 a), (I6 n), (S6 t), (I6 p), (I6 s), (I6 i), (I6 at_)], 11, .fresh⟩]⟩ ?_
    refine CN true (fun _ => ?_) (fun h => nomatch h)
    refine SQ (RT 2 ?_)
    refine AWP.ret ?_
    refine FI (.tup [(B6 false), (B6 false)]) ?_
    refine Shrink.all ?_ rfl
    (exact tup2 (by grind [plP, rangeP]) (by grind [fitP, rangeP]); done)
theorem o_dotted (p s : Int) : EvD Try.prog 66 [.agg [.sc (.int .i64 p), .sc (.int .i64 s)]] (.sc (.bool (decide ((1 ≤ p ∧ p ≤ 12) ∧ 1 ≤ s ∧ s ≤ 1048576)))) := by
  refine EvD.body Try.func66 rfl rfl rfl ?_
  refine AWP.seq ?_
  refine TO ⟨[.agg [(I6 p), (I6 s)]] ++ UU 15, []⟩ ?_
  refine AWP.reg (RT 2 ?_)
  refine AWP.seq (KL [0] ⟨[U6, .ptr 0 0, (B6 false)] ++ UU 13, [⟨[(I6 p), (I6 s)], 2, .fresh⟩]⟩ ?_)
  refine AWP.reg (PI 2 (True ∧ 0 < 2 ∧ True) ⟨trivial, (by omega), trivial⟩ ?_)
  refine CD (o_peer p) ?_
  refine PT 1 1 ?_
  refine DerQ.to ⟨[U6, .ptr 0 0, (B6 false), .ptr 0 0, (I6 p), (B6 (decide (1 ≤ p ∧ p ≤ 12))), (B6 (decide (1 ≤ p ∧ p ≤ 12)))] ++ UU 9, [⟨[(I6 p), (I6 s)], 2, .fresh⟩]⟩ (by kernel_rfl) ?_
  cases h1 : (decide (1 ≤ p ∧ p ≤ 12))
  · have h1' := of_decide_eq_false h1
    refine RT 4 ?_
    refine AWP.ret ?_
    refine FI (B6 false) ?_
    refine Shrink.all ?_ rfl
    ((first | refine congrArg B6 ?_ | refine congrArg I6 ?_ | congr 2); rw [Bool.eq_iff_iff]; simp only [decide_eq_true_eq, Bool.false_eq_true, false_iff, true_iff, Bool.and_eq_true, Bool.or_eq_true, Bool.not_eq_true', Bool.not_eq_true, Bool.not_eq_false', decide_eq_false_iff_not, iff_true, iff_false, beq_iff_eq, beq_eq_false_iff_ne, ge_iff_le, gt_iff_lt, ne_eq, bne_iff_ne, not_true_eq_false, not_false_eq_true] at *; omega; done)
  · have h1' := of_decide_eq_true h1
    refine PI 5 (True ∧ 1 < 2 ∧ True ∧ True ∧ True ∧ True) ⟨trivial, (by omega), trivial, trivial, trivial, trivial⟩ ?_
    refine DerQ.to ⟨[U6, .ptr 0 0, (B6 false), .ptr 0 0, (I6 p), (B6 true), (B6 true), .ptr 0 1, (I6 s), (B6 (decide (s ≥ 1))), (B6 (decide (s ≥ 1))), (B6 (decide (s ≥ 1))), U6, U6, U6, .undef], [⟨[(I6 p), (I6 s)], 2, .fresh⟩]⟩ (by kernel_rfl) ?_
    cases h2 : (decide (s ≥ 1))
    · have h2' := of_decide_eq_false h2
      refine RT 2 ?_
      refine AWP.ret ?_
      refine FI (B6 false) ?_
      refine Shrink.all ?_ rfl
      ((first | refine congrArg B6 ?_ | refine congrArg I6 ?_ | congr 2); rw [Bool.eq_iff_iff]; simp only [decide_eq_true_eq, Bool.false_eq_true, false_iff, true_iff, Bool.and_eq_true, Bool.or_eq_true, Bool.not_eq_true', Bool.not_eq_true, Bool.not_eq_false', decide_eq_false_iff_not, iff_true, iff_false, beq_iff_eq, beq_eq_false_iff_ne, ge_iff_le, gt_iff_lt, ne_eq, bne_iff_ne, not_true_eq_false, not_false_eq_true] at *; omega; done)
    · have h2' := of_decide_eq_true h2
      refine RI (True ∧ 1 < 2 ∧ True ∧ True ∧ True ∧ True) ⟨trivial, (by omega), trivial, trivial, trivial, trivial⟩ ?_
      refine AWP.ret ?_
      refine FI (B6 (decide (s ≤ 1048576))) ?_
      refine Shrink.all ?_ rfl
      ((first | refine congrArg B6 ?_ | refine congrArg I6 ?_ | congr 2); rw [Bool.eq_iff_iff]; simp only [decide_eq_true_eq, Bool.false_eq_true, false_iff, true_iff, Bool.and_eq_true, Bool.or_eq_true, Bool.not_eq_true', Bool.not_eq_true, Bool.not_eq_false', decide_eq_false_iff_not, iff_true, iff_false, beq_iff_eq, beq_eq_false_iff_ne, ge_iff_le, gt_iff_lt, ne_eq, bne_iff_ne, not_true_eq_false, not_false_eq_true] at *; omega; done)
def refP (p s i : Int) : Prop := (1 ≤ i ∧ i ≤ 16) ∧ ((p = 0 ∧ s = 0) ∨ ((1 ≤ p ∧ p ≤ 12) ∧ 1 ≤ s ∧ s ≤ 1048576))
instance (p s i : Int) : Decidable (refP p s i) := by unfold refP; infer_instance
theorem o_referred (p s i : Int) : EvD Try.prog 64 [.agg [.sc (.int .i64 p), .sc (.int .i64 s), .sc (.int .i64 i)]] (.sc (.bool (decide (refP p s i)))) := by
  refine EvD.body Try.func64 rfl rfl rfl ?_
  refine AWP.seq ?_
  refine TO ⟨[.agg [(I6 p), (I6 s), (I6 i)]] ++ UU 21, []⟩ ?_
  refine AWP.reg (RT 2 ?_)
  refine AWP.seq (KL [0] ⟨[U6, .ptr 0 0, (B6 false)] ++ UU 19, [⟨[(I6 p), (I6 s), (I6 i)], 3, .fresh⟩]⟩ ?_)
  refine AWP.reg (PI 4 (True ∧ 2 < 3 ∧ True ∧ True ∧ True) ⟨trivial, (by omega), trivial, trivial, trivial⟩ ?_)
  refine DerQ.to ⟨[U6, .ptr 0 0, (B6 false), .ptr 0 2, (I6 i), (B6 (decide (i ≥ 1))), (B6 (decide (i ≥ 1)))] ++ UU 15, [⟨[(I6 p), (I6 s), (I6 i)], 3, .fresh⟩]⟩ (by kernel_rfl) ?_
  cases h1 : (decide (i ≥ 1))
  · have h1' := of_decide_eq_false h1
    refine RT 4 ?_
    refine AWP.ret ?_
    refine FI (B6 false) ?_
    refine Shrink.all ?_ rfl
    ((first | refine congrArg B6 ?_ | refine congrArg I6 ?_ | congr 2); rw [Bool.eq_iff_iff]; simp [refP, *] <;> omega; done)
  · have h1' := of_decide_eq_true h1
    refine PI 5 (True ∧ 2 < 3 ∧ True ∧ True ∧ True ∧ True) ⟨trivial, (by omega), trivial, trivial, trivial, trivial⟩ ?_
    refine DerQ.to ⟨[U6, .ptr 0 0, (B6 false), .ptr 0 2, (I6 i), (B6 true), (B6 true), .ptr 0 2, (I6 i), (B6 (decide (i ≤ 16))), (B6 (decide (i ≤ 16))), (B6 (decide (i ≤ 16)))] ++ UU 10, [⟨[(I6 p), (I6 s), (I6 i)], 3, .fresh⟩]⟩ (by kernel_rfl) ?_
    cases h2 : (decide (i ≤ 16))
    · have h2' := of_decide_eq_false h2
      refine RT 2 ?_
      refine AWP.ret ?_
      refine FI (B6 false) ?_
      refine Shrink.all ?_ rfl
      ((first | refine congrArg B6 ?_ | refine congrArg I6 ?_ | congr 2); rw [Bool.eq_iff_iff]; simp [refP, *] <;> omega; done)
    · have h2' := of_decide_eq_true h2
      refine PI 5 (True ∧ 2 ≤ 3 ∧ True ∧ ((((0 : Nat) < (2 : Nat)) ∧ (((0 : Nat) < (2 : Nat)) ∧ (True))) ∧ (((1 : Nat) < (2 : Nat)) ∧ (((1 : Nat) < (2 : Nat)) ∧ (True)))) ∧ True ∧ True) ⟨trivial, (by omega), trivial, ⟨⟨(by omega), ⟨(by omega), trivial⟩⟩, ⟨(by omega), ⟨(by omega), trivial⟩⟩⟩, trivial, trivial⟩ ?_
      refine DerQ.to ⟨[U6, .ptr 0 0, (B6 false), .ptr 0 2, (I6 i), (B6 true), (B6 true), .ptr 0 2, (I6 i), (B6 true), (B6 true), (B6 true), .ptr 0 0, .agg [(I6 p), (I6 s)], .agg [(I6 0), (I6 0)], (B6 (p == 0 && s == 0)), (B6 (p == 0 && s == 0))] ++ UU 5, [⟨[(I6 p), (I6 s), (I6 i)], 3, .fresh⟩]⟩ (by kernel_rfl) ?_
      cases h3 : (p == 0 && s == 0)
      · have h3' := h3
        simp only [Bool.and_eq_true, Bool.and_eq_false_iff, Bool.or_eq_true, Bool.or_eq_false_iff, Bool.not_eq_true', Bool.not_eq_false', beq_iff_eq, beq_eq_false_iff_ne, decide_eq_true_eq, decide_eq_false_iff_not, ne_eq] at h3'
        refine PI 2 (True ∧ 2 ≤ 3 ∧ True) ⟨trivial, (by omega), trivial⟩ ?_
        refine CD (o_dotted p s) ?_
        refine RT 3 ?_
        refine AWP.ret ?_
        refine FI (B6 (decide ((1 ≤ p ∧ p ≤ 12) ∧ 1 ≤ s ∧ s ≤ 1048576))) ?_
        refine Shrink.all ?_ rfl
        ((first | refine congrArg B6 ?_ | refine congrArg I6 ?_ | congr 2); rw [Bool.eq_iff_iff]; simp [refP, *] <;> omega; done)
      · have h3' := h3
        simp only [Bool.and_eq_true, Bool.and_eq_false_iff, Bool.or_eq_true, Bool.or_eq_false_iff, Bool.not_eq_true', Bool.not_eq_false', beq_iff_eq, beq_eq_false_iff_ne, decide_eq_true_eq, decide_eq_false_iff_not, ne_eq] at h3'
        refine RT 3 ?_
        refine AWP.ret ?_
        refine FI (B6 true) ?_
        refine Shrink.all ?_ rfl
        ((first | refine congrArg B6 ?_ | refine congrArg I6 ?_ | congr 2); rw [Bool.eq_iff_iff]; simp [refP, *] <;> omega; done)
theorem r_ref (p s i : Int) : EvD Try.prog 65 [.agg [.sc (.int .i64 p), .sc (.int .i64 s), .sc (.int .i64 i)]] (.sc (.bool (decide (refP p s i)))) := by
  refine EvD.body Try.func65 rfl rfl rfl ?_
  refine AWP.seq ?_
  refine TO ⟨[.agg [(I6 p), (I6 s), (I6 i)]] ++ UU 34, []⟩ ?_
  refine AWP.reg (RT 2 ?_)
  refine AWP.seq (AWP.seq (KL [0] ⟨[U6, .ptr 0 0, (B6 false)] ++ UU 32, [⟨[(I6 p), (I6 s), (I6 i)], 3, .fresh⟩]⟩ ?_))
  refine AWP.reg (PI 4 (True ∧ 2 < 3 ∧ True ∧ True ∧ True) ⟨trivial, (by omega), trivial, trivial, trivial⟩ ?_)
  refine DerQ.to ⟨[U6, .ptr 0 0, (B6 false), U6, .ptr 0 2, (I6 i), (B6 (decide (i < 1))), (B6 (decide (i < 1)))] ++ UU 27, [⟨[(I6 p), (I6 s), (I6 i)], 3, .fresh⟩]⟩ (by kernel_rfl) ?_
  cases h1 : (decide (i < 1))
  · have h1' := of_decide_eq_false h1
    refine RI (True ∧ 2 < 3 ∧ True ∧ True ∧ True) ⟨trivial, (by omega), trivial, trivial, trivial⟩ ?_
    refine KL (NN 4 7) ⟨[U6, .ptr 0 0, (B6 false)] ++ UU 8 ++ [(B6 (decide (i > 16)))] ++ UU 23, [⟨[(I6 p), (I6 s), (I6 i)], 3, .fresh⟩]⟩ ?_
    refine CN (decide (i > 16)) (fun h2 => ?_) (fun h2 => ?_)
    · have h2' := of_decide_eq_true h2
      refine SQ (RT 1 ?_)
      refine AWP.ret ?_
      refine FI (B6 false) ?_
      refine Shrink.all ?_ rfl
      (((first | refine congrArg B6 ?_ | refine congrArg I6 ?_ | congr 2); grind [refP]); done)
    · have h2' := of_decide_eq_false h2
      refine AWP.skip (SQ (RI (True ∧ True ∧ 2 ≤ 2 ∧ True) ⟨trivial, trivial, (by omega), trivial⟩ ?_))
      refine AWP.seq (KL [11, 12] ⟨[U6, .ptr 0 0, (B6 false), .ptr 1 0] ++ UU 31, [⟨[(I6 p), (I6 s), (I6 i)], 3, .fresh⟩, ⟨[(I6 0), (I6 0)], 2, .fresh⟩]⟩ ?_)
      refine AWP.reg (PI 5 (True ∧ 2 ≤ 3 ∧ 2 ≤ 2 ∧ ((((0 : Nat) < (2 : Nat)) ∧ (((0 : Nat) < (2 : Nat)) ∧ (True))) ∧ (((1 : Nat) < (2 : Nat)) ∧ (((1 : Nat) < (2 : Nat)) ∧ (True)))) ∧ True ∧ True) ⟨trivial, (by omega), (by omega), ⟨⟨(by omega), ⟨(by omega), trivial⟩⟩, ⟨(by omega), ⟨(by omega), trivial⟩⟩⟩, trivial, trivial⟩ ?_)
      refine DerQ.to ⟨[U6, .ptr 0 0, (B6 false), .ptr 1 0] ++ UU 9 ++ [.ptr 0 0, .agg [(I6 p), (I6 s)], .agg [(I6 0), (I6 0)], (B6 (p == 0 && s == 0)), (B6 (p == 0 && s == 0))] ++ UU 17, [⟨[(I6 p), (I6 s), (I6 i)], 3, .fresh⟩, ⟨[(I6 0), (I6 0)], 2, .fresh⟩]⟩ (by kernel_rfl) ?_
      cases h3 : (p == 0 && s == 0)
      · have h3' := h3
        simp only [Bool.and_eq_true, Bool.and_eq_false_iff, Bool.or_eq_true, Bool.or_eq_false_iff, Bool.not_eq_true', Bool.not_eq_false', beq_iff_eq, beq_eq_false_iff_ne, decide_eq_true_eq, decide_eq_false_iff_not, ne_eq] at h3'
        refine PI 3 (True ∧ True ∧ 0 < 3 ∧ True) ⟨trivial, trivial, (by omega), trivial⟩ ?_
        refine CD (r_peer p) ?_
        refine PT 1 1 ?_
        refine DerQ.to ⟨[U6, .ptr 0 0, (B6 false), .ptr 1 0] ++ UU 9 ++ [.ptr 0 0, .agg [(I6 p), (I6 s)], .agg [(I6 0), (I6 0)], (B6 false), (B6 false), .ptr 0 0, .ptr 0 0, (I6 p), (B6 (decide (1 ≤ p ∧ p ≤ 12))), (B6 (decide (1 ≤ p ∧ p ≤ 12)))] ++ UU 12, [⟨[(I6 p), (I6 s), (I6 i)], 3, .fresh⟩, ⟨[(I6 0), (I6 0)], 2, .fresh⟩]⟩ (by kernel_rfl) ?_
        cases h4 : (decide (1 ≤ p ∧ p ≤ 12))
        · have h4' := of_decide_eq_false h4
          refine RT 5 ?_
          refine AWP.ret ?_
          refine FI (B6 false) ?_
          refine Shrink.all ?_ rfl
          ((first | refine congrArg B6 ?_ | refine congrArg I6 ?_ | congr 2); rw [Bool.eq_iff_iff]; simp [refP, *] <;> omega; done)
        · have h4' := of_decide_eq_true h4
          refine PI 6 (True ∧ True ∧ 1 < 3 ∧ True ∧ True ∧ True ∧ True) ⟨trivial, trivial, (by omega), trivial, trivial, trivial, trivial⟩ ?_
          refine DerQ.to ⟨[U6, .ptr 0 0, (B6 false), .ptr 1 0] ++ UU 9 ++ [.ptr 0 0, .agg [(I6 p), (I6 s)], .agg [(I6 0), (I6 0)], (B6 false), (B6 false), .ptr 0 0, .ptr 0 0, (I6 p), (B6 true), (B6 true), .ptr 0 0, .ptr 0 1, (I6 s), (B6 (decide (s ≥ 1))), (B6 (decide (s ≥ 1))), (B6 (decide (s ≥ 1)))] ++ UU 6, [⟨[(I6 p), (I6 s), (I6 i)], 3, .fresh⟩, ⟨[(I6 0), (I6 0)], 2, .fresh⟩]⟩ (by kernel_rfl) ?_
          cases h5 : (decide (s ≥ 1))
          · have h5' := of_decide_eq_false h5
            refine RT 3 ?_
            refine AWP.ret ?_
            refine FI (B6 false) ?_
            refine Shrink.all ?_ rfl
            ((first | refine congrArg B6 ?_ | refine congrArg I6 ?_ | congr 2); rw [Bool.eq_iff_iff]; simp [refP, *] <;> omega; done)
          · have h5' := of_decide_eq_true h5
            refine RI (True ∧ True ∧ 1 < 3 ∧ True ∧ True ∧ True ∧ True ∧ True) ⟨trivial, trivial, (by omega), trivial, trivial, trivial, trivial, trivial⟩ ?_
            refine AWP.ret ?_
            refine FI (B6 (decide (s ≤ 1048576))) ?_
            refine Shrink.all ?_ rfl
            ((first | refine congrArg B6 ?_ | refine congrArg I6 ?_ | congr 2); rw [Bool.eq_iff_iff]; simp [refP, *] <;> omega; done)
      · have h3' := h3
        simp only [Bool.and_eq_true, Bool.and_eq_false_iff, Bool.or_eq_true, Bool.or_eq_false_iff, Bool.not_eq_true', Bool.not_eq_false', beq_iff_eq, beq_eq_false_iff_ne, decide_eq_true_eq, decide_eq_false_iff_not, ne_eq] at h3'
        refine RT 2 ?_
        refine AWP.ret ?_
        refine FI (B6 true) ?_
        refine Shrink.all ?_ rfl
        ((first | refine congrArg B6 ?_ | refine congrArg I6 ?_ | congr 2); rw [Bool.eq_iff_iff]; simp [refP, *] <;> omega; done)
  · have h1' := of_decide_eq_true h1
    refine RT 1 ?_
    refine KL (NN 4 7) ⟨[U6, .ptr 0 0, (B6 false)] ++ UU 8 ++ [(B6 true)] ++ UU 23, [⟨[(I6 p), (I6 s), (I6 i)], 3, .fresh⟩]⟩ ?_
    refine CN true (fun _ => ?_) (fun h => nomatch h)
    refine SQ (RT 1 ?_)
    refine AWP.ret ?_
    refine FI (B6 false) ?_
    refine Shrink.all ?_ rfl
    (((first | refine congrArg B6 ?_ | refine congrArg I6 ?_ | congr 2); grind [refP]); done)
def updP (k inner a n at_ : Int) (key f t : ByteArray) : Prop := fitP k inner a n key f t ∧ ((¬ plP k inner a n key f t ∧ at_ = 0) ∨ (plP k inner a n key f t ∧ 0 ≤ at_ ∧ at_ ≤ 1048576))
instance (k inner a n at_ : Int) (key f t : ByteArray) : Decidable (updP k inner a n at_ key f t) := by unfold updP; infer_instance
def opP (k inner a n p s i : Int) (key f t : ByteArray) : Prop :=
  (k = 7 ∧ (a = 1 ∨ a = 2) ∧ (1 ≤ n ∧ n ≤ 12) ∧ key.size = 0 ∧ f.size = 0 ∧ inner = 0 ∧ t.size = 0 ∧ p = 0 ∧ s = 0 ∧ i = 0) ∨
  (k ≠ 7 ∧ fitP k inner a n key f t ∧ ((¬ plP k inner a n key f t ∧ p = 0 ∧ s = 0 ∧ i = 0) ∨ (plP k inner a n key f t ∧ ((p = 0 ∧ s = 0 ∧ i = 0 ∧ a = 4) ∨ refP p s i))))
instance (k inner a n p s i : Int) (key f t : ByteArray) : Decidable (opP k inner a n p s i key f t) := by unfold opP; infer_instance
theorem o_op (k inner a n p s i : Int) (key f t : ByteArray) : EvD Try.prog 22 [.agg [.sc (.int .i64 k), .sc (.string key), .sc (.string f), .sc (.int .i64 inner), .sc (.int .i64 a), .sc (.int .i64 n), .sc (.string t), .sc (.int .i64 p), .sc (.int .i64 s), .sc (.int .i64 i)]] (.sc (.bool (decide (opP k inner a n p s i key f t)))) := by
  refine EvD.body Try.func22 rfl rfl rfl ?_
  refine AWP.seq ?_
  refine TO ⟨[.agg [(I6 k), (S6 key), (S6 f), (I6 inner), (I6 a), (I6 n), (S6 t), (I6 p), (I6 s), (I6 i)]] ++ UU 62, []⟩ ?_
  refine AWP.reg (RT 2 ?_)
  refine AWP.seq (AWP.seq (KL [0] ⟨[U6, .ptr 0 0, (B6 false)] ++ UU 60, [⟨[(I6 k), (S6 key), (S6 f), (I6 inner), (I6 a), (I6 n), (S6 t), (I6 p), (I6 s), (I6 i)], 10, .fresh⟩]⟩ ?_))
  refine AWP.reg (RI (True ∧ 0 < 10 ∧ True ∧ True) ⟨trivial, (by omega), trivial, trivial⟩ ?_)
  refine KL [6, 7] ⟨[U6, .ptr 0 0, (B6 false)] ++ UU 5 ++ [(B6 (k == 7))] ++ UU 54, [⟨[(I6 k), (S6 key), (S6 f), (I6 inner), (I6 a), (I6 n), (S6 t), (I6 p), (I6 s), (I6 i)], 10, .fresh⟩]⟩ ?_
  refine CN (k == 7) (fun h1 => ?_) (fun h1 => ?_)
  · have h1' := eq_of_beq h1
    refine SQ (PI 4 (True ∧ 4 < 10 ∧ True ∧ True ∧ True) ⟨trivial, (by omega), trivial, trivial, trivial⟩ ?_)
    refine DerQ.to ⟨[U6, .ptr 0 0, (B6 false)] ++ UU 5 ++ [(B6 (k == 7)), .ptr 0 4, (I6 a), (B6 (a == 1)), (B6 (a == 1))] ++ UU 50, [⟨[(I6 k), (S6 key), (S6 f), (I6 inner), (I6 a), (I6 n), (S6 t), (I6 p), (I6 s), (I6 i)], 10, .fresh⟩]⟩ (by kernel_rfl) ?_
    cases h2 : (a == 1)
    · have h2' := ne_of_beq_false h2
      refine PI 5 (True ∧ 4 < 10 ∧ True ∧ True ∧ True ∧ True) ⟨trivial, (by omega), trivial, trivial, trivial, trivial⟩ ?_
      refine DerQ.to ⟨[U6, .ptr 0 0, (B6 false)] ++ UU 5 ++ [(B6 (k == 7)), .ptr 0 4, (I6 a), (B6 false), (B6 false), .ptr 0 4, (I6 a), (B6 (a == 2)), (B6 (a == 2)), (B6 (a == 2))] ++ UU 45, [⟨[(I6 k), (S6 key), (S6 f), (I6 inner), (I6 a), (I6 n), (S6 t), (I6 p), (I6 s), (I6 i)], 10, .fresh⟩]⟩ (by kernel_rfl) ?_
      cases h3 : (a == 2)
      · have h3' := ne_of_beq_false h3
        refine RT 4 ?_
        refine AWP.ret ?_
        refine FI (B6 false) ?_
        refine Shrink.all ?_ rfl
        ((first | refine congrArg B6 ?_ | refine congrArg I6 ?_ | congr 2); rw [Bool.eq_iff_iff]; simp [opP, *] <;> omega; done)
      · have h3' := eq_of_beq h3
        refine PI 2 (True ∧ 5 < 10 ∧ True) ⟨trivial, (by omega), trivial⟩ ?_
        refine CD (o_peer n) ?_
        refine PT 2 2 ?_
        refine DerQ.to ⟨[U6, .ptr 0 0, (B6 false)] ++ UU 5 ++ [(B6 (k == 7)), .ptr 0 4, (I6 a), (B6 false), (B6 false), .ptr 0 4, (I6 a), (B6 true), (B6 true), (B6 true), .ptr 0 5, (I6 n), (B6 (decide (1 ≤ n ∧ n ≤ 12))), (B6 (decide (1 ≤ n ∧ n ≤ 12))), (B6 (decide (1 ≤ n ∧ n ≤ 12)))] ++ UU 40, [⟨[(I6 k), (S6 key), (S6 f), (I6 inner), (I6 a), (I6 n), (S6 t), (I6 p), (I6 s), (I6 i)], 10, .fresh⟩]⟩ (by kernel_rfl) ?_
        cases h4 : (decide (1 ≤ n ∧ n ≤ 12))
        · have h4' := of_decide_eq_false h4
          refine RT 2 ?_
          refine AWP.ret ?_
          refine FI (B6 false) ?_
          refine Shrink.all ?_ rfl
          ((first | refine congrArg B6 ?_ | refine congrArg I6 ?_ | congr 2); rw [Bool.eq_iff_iff]; simp [opP, *] <;> omega; done)
        · have h4' := of_decide_eq_true h4
          refine DerQ.run (10 ≤ 10 ∧ True ∧ 0 < 10 ∧ True ∧ 4 < 10 ∧ True ∧ 5 < 10 ∧ True ∧ ((((0 : Nat) < (10 : Nat)) ∧ (((0 : Nat) < (10 : Nat)) ∧ (True))) ∧ ((((1 : Nat) < (10 : Nat)) ∧ (((1 : Nat) < (10 : Nat)) ∧ (True))) ∧ ((((2 : Nat) < (10 : Nat)) ∧ (((2 : Nat) < (10 : Nat)) ∧ (True))) ∧ ((((3 : Nat) < (10 : Nat)) ∧ (((3 : Nat) < (10 : Nat)) ∧ (True))) ∧ ((((4 : Nat) < (10 : Nat)) ∧ (((4 : Nat) < (10 : Nat)) ∧ (True))) ∧ ((((5 : Nat) < (10 : Nat)) ∧ (((5 : Nat) < (10 : Nat)) ∧ (True))) ∧ ((((6 : Nat) < (10 : Nat)) ∧ (((6 : Nat) < (10 : Nat)) ∧ (True))) ∧ (((10 : Nat) ≤ (10 : Nat)) ∧ (((10 : Nat) ≤ (10 : Nat)) ∧ ((((2 : Nat) ≤ (3 : Nat)) ∧ (((2 : Nat) ≤ (3 : Nat)) ∧ ((((0 : Nat) < (2 : Nat)) ∧ (((0 : Nat) < (2 : Nat)) ∧ (True))) ∧ (((1 : Nat) < (2 : Nat)) ∧ (((1 : Nat) < (2 : Nat)) ∧ (True)))))) ∧ (((2 : Nat) < (3 : Nat)) ∧ (((2 : Nat) < (3 : Nat)) ∧ (True))))))))))))) ∧ True ∧ True ∧ True) ⟨[U6, .ptr 0 0, (B6 (k == k && (ByteArray.toList key == ByteArray.toList { data := #[] } && (ByteArray.toList f == ByteArray.toList { data := #[] } && (inner == 0 && (a == a && (n == n && (ByteArray.toList t == ByteArray.toList { data := #[] } && (p == 0 && s == 0 && i == 0)))))))))] ++ UU 5 ++ [(B6 (k == 7)), .ptr 0 4, (I6 a), (B6 false), (B6 false), .ptr 0 4, (I6 a), (B6 true), (B6 true), (B6 true), .ptr 0 5, (I6 n), (B6 true), (B6 true), (B6 true), .agg [(I6 k), (S6 key), (S6 f), (I6 inner), (I6 a), (I6 n), (S6 t), (I6 p), (I6 s), (I6 i)], .ptr 0 0, (I6 k), .ptr 0 4, (I6 a), .ptr 0 5, (I6 n), .agg [(I6 k), (S6 ({ data := #[] })), (S6 ({ data := #[] })), (I6 0), (I6 a), (I6 n), (S6 ({ data := #[] })), (I6 0), (I6 0), (I6 0)], (B6 (k == k && (ByteArray.toList key == ByteArray.toList { data := #[] } && (ByteArray.toList f == ByteArray.toList { data := #[] } && (inner == 0 && (a == a && (n == n && (ByteArray.toList t == ByteArray.toList { data := #[] } && (p == 0 && s == 0 && i == 0))))))))), (B6 (k == k && (ByteArray.toList key == ByteArray.toList { data := #[] } && (ByteArray.toList f == ByteArray.toList { data := #[] } && (inner == 0 && (a == a && (n == n && (ByteArray.toList t == ByteArray.toList { data := #[] } && (p == 0 && s == 0 && i == 0)))))))))] ++ UU 30, [⟨[(I6 k), (S6 key), (S6 f), (I6 inner), (I6 a), (I6 n), (S6 t), (I6 p), (I6 s), (I6 i)], 10, .fresh⟩]⟩ (by kernel_rfl) ⟨(by omega), trivial, (by omega), trivial, (by omega), trivial, (by omega), trivial, ⟨⟨(by omega), ⟨(by omega), trivial⟩⟩, ⟨⟨(by omega), ⟨(by omega), trivial⟩⟩, ⟨⟨(by omega), ⟨(by omega), trivial⟩⟩, ⟨⟨(by omega), ⟨(by omega), trivial⟩⟩, ⟨⟨(by omega), ⟨(by omega), trivial⟩⟩, ⟨⟨(by omega), ⟨(by omega), trivial⟩⟩, ⟨⟨(by omega), ⟨(by omega), trivial⟩⟩, ⟨(by omega), ⟨(by omega), ⟨⟨(by omega), ⟨(by omega), ⟨⟨(by omega), ⟨(by omega), trivial⟩⟩, ⟨(by omega), ⟨(by omega), trivial⟩⟩⟩⟩⟩, ⟨(by omega), ⟨(by omega), trivial⟩⟩⟩⟩⟩⟩⟩⟩⟩⟩⟩⟩, trivial, trivial, trivial⟩ ?_
          rw [Go.Abs.nil_beq (key)]
          rw [Go.Abs.nil_beq (f)]
          rw [Go.Abs.nil_beq (t)]
          refine KL (NN 8 25) ⟨[U6, .ptr 0 0, (B6 (k == k && (decide (ByteArray.size key = 0) && (decide (ByteArray.size f = 0) && (inner == 0 && (a == a && (n == n && (decide (ByteArray.size t = 0) && (p == 0 && s == 0 && i == 0)))))))))] ++ UU 60, [⟨[(I6 k), (S6 key), (S6 f), (I6 inner), (I6 a), (I6 n), (S6 t), (I6 p), (I6 s), (I6 i)], 10, .fresh⟩]⟩ ?_
          refine AWP.ret ?_
          refine FI (B6 (k == k && (decide (ByteArray.size key = 0) && (decide (ByteArray.size f = 0) && (inner == 0 && (a == a && (n == n && (decide (ByteArray.size t = 0) && (p == 0 && s == 0 && i == 0))))))))) ?_
          refine Shrink.all ?_ rfl
          ((first | refine congrArg B6 ?_ | refine congrArg I6 ?_ | congr 2); rw [Bool.eq_iff_iff]; simp [opP, *] <;> omega; done)
    · have h2' := eq_of_beq h2
      refine PI 7 (True ∧ True ∧ True ∧ 5 < 10 ∧ True) ⟨trivial, trivial, trivial, (by omega), trivial⟩ ?_
      refine CD (o_peer n) ?_
      refine PT 2 2 ?_
      refine DerQ.to ⟨[U6, .ptr 0 0, (B6 false)] ++ UU 5 ++ [(B6 (k == 7)), .ptr 0 4, (I6 a), (B6 true), (B6 true), .tup [], .tup [], .tup [], (B6 true), (B6 true), .ptr 0 5, (I6 n), (B6 (decide (1 ≤ n ∧ n ≤ 12))), (B6 (decide (1 ≤ n ∧ n ≤ 12))), (B6 (decide (1 ≤ n ∧ n ≤ 12)))] ++ UU 40, [⟨[(I6 k), (S6 key), (S6 f), (I6 inner), (I6 a), (I6 n), (S6 t), (I6 p), (I6 s), (I6 i)], 10, .fresh⟩]⟩ (by kernel_rfl) ?_
      cases h3 : (decide (1 ≤ n ∧ n ≤ 12))
      · have h3' := of_decide_eq_false h3
        refine RT 2 ?_
        refine AWP.ret ?_
        refine FI (B6 false) ?_
        refine Shrink.all ?_ rfl
        ((first | refine congrArg B6 ?_ | refine congrArg I6 ?_ | congr 2); rw [Bool.eq_iff_iff]; simp [opP, *] <;> omega; done)
      · have h3' := of_decide_eq_true h3
        refine DerQ.run (10 ≤ 10 ∧ True ∧ 0 < 10 ∧ True ∧ 4 < 10 ∧ True ∧ 5 < 10 ∧ True ∧ ((((0 : Nat) < (10 : Nat)) ∧ (((0 : Nat) < (10 : Nat)) ∧ (True))) ∧ ((((1 : Nat) < (10 : Nat)) ∧ (((1 : Nat) < (10 : Nat)) ∧ (True))) ∧ ((((2 : Nat) < (10 : Nat)) ∧ (((2 : Nat) < (10 : Nat)) ∧ (True))) ∧ ((((3 : Nat) < (10 : Nat)) ∧ (((3 : Nat) < (10 : Nat)) ∧ (True))) ∧ ((((4 : Nat) < (10 : Nat)) ∧ (((4 : Nat) < (10 : Nat)) ∧ (True))) ∧ ((((5 : Nat) < (10 : Nat)) ∧ (((5 : Nat) < (10 : Nat)) ∧ (True))) ∧ ((((6 : Nat) < (10 : Nat)) ∧ (((6 : Nat) < (10 : Nat)) ∧ (True))) ∧ (((10 : Nat) ≤ (10 : Nat)) ∧ (((10 : Nat) ≤ (10 : Nat)) ∧ ((((2 : Nat) ≤ (3 : Nat)) ∧ (((2 : Nat) ≤ (3 : Nat)) ∧ ((((0 : Nat) < (2 : Nat)) ∧ (((0 : Nat) < (2 : Nat)) ∧ (True))) ∧ (((1 : Nat) < (2 : Nat)) ∧ (((1 : Nat) < (2 : Nat)) ∧ (True)))))) ∧ (((2 : Nat) < (3 : Nat)) ∧ (((2 : Nat) < (3 : Nat)) ∧ (True))))))))))))) ∧ True ∧ True ∧ True) ⟨[U6, .ptr 0 0, (B6 (k == k && (ByteArray.toList key == ByteArray.toList { data := #[] } && (ByteArray.toList f == ByteArray.toList { data := #[] } && (inner == 0 && (a == a && (n == n && (ByteArray.toList t == ByteArray.toList { data := #[] } && (p == 0 && s == 0 && i == 0)))))))))] ++ UU 5 ++ [(B6 (k == 7)), .ptr 0 4, (I6 a), (B6 true), (B6 true), .tup [], .tup [], .tup [], (B6 true), (B6 true), .ptr 0 5, (I6 n), (B6 true), (B6 true), (B6 true), .agg [(I6 k), (S6 key), (S6 f), (I6 inner), (I6 a), (I6 n), (S6 t), (I6 p), (I6 s), (I6 i)], .ptr 0 0, (I6 k), .ptr 0 4, (I6 a), .ptr 0 5, (I6 n), .agg [(I6 k), (S6 ({ data := #[] })), (S6 ({ data := #[] })), (I6 0), (I6 a), (I6 n), (S6 ({ data := #[] })), (I6 0), (I6 0), (I6 0)], (B6 (k == k && (ByteArray.toList key == ByteArray.toList { data := #[] } && (ByteArray.toList f == ByteArray.toList { data := #[] } && (inner == 0 && (a == a && (n == n && (ByteArray.toList t == ByteArray.toList { data := #[] } && (p == 0 && s == 0 && i == 0))))))))), (B6 (k == k && (ByteArray.toList key == ByteArray.toList { data := #[] } && (ByteArray.toList f == ByteArray.toList { data := #[] } && (inner == 0 && (a == a && (n == n && (ByteArray.toList t == ByteArray.toList { data := #[] } && (p == 0 && s == 0 && i == 0)))))))))] ++ UU 30, [⟨[(I6 k), (S6 key), (S6 f), (I6 inner), (I6 a), (I6 n), (S6 t), (I6 p), (I6 s), (I6 i)], 10, .fresh⟩]⟩ (by kernel_rfl) ⟨(by omega), trivial, (by omega), trivial, (by omega), trivial, (by omega), trivial, ⟨⟨(by omega), ⟨(by omega), trivial⟩⟩, ⟨⟨(by omega), ⟨(by omega), trivial⟩⟩, ⟨⟨(by omega), ⟨(by omega), trivial⟩⟩, ⟨⟨(by omega), ⟨(by omega), trivial⟩⟩, ⟨⟨(by omega), ⟨(by omega), trivial⟩⟩, ⟨⟨(by omega), ⟨(by omega), trivial⟩⟩, ⟨⟨(by omega), ⟨(by omega), trivial⟩⟩, ⟨(by omega), ⟨(by omega), ⟨⟨(by omega), ⟨(by omega), ⟨⟨(by omega), ⟨(by omega), trivial⟩⟩, ⟨(by omega), ⟨(by omega), trivial⟩⟩⟩⟩⟩, ⟨(by omega), ⟨(by omega), trivial⟩⟩⟩⟩⟩⟩⟩⟩⟩⟩⟩⟩, trivial, trivial, trivial⟩ ?_
        rw [Go.Abs.nil_beq (key)]
        rw [Go.Abs.nil_beq (f)]
        rw [Go.Abs.nil_beq (t)]
        refine KL (NN 8 25) ⟨[U6, .ptr 0 0, (B6 (k == k && (decide (ByteArray.size key = 0) && (decide (ByteArray.size f = 0) && (inner == 0 && (a == a && (n == n && (decide (ByteArray.size t = 0) && (p == 0 && s == 0 && i == 0)))))))))] ++ UU 60, [⟨[(I6 k), (S6 key), (S6 f), (I6 inner), (I6 a), (I6 n), (S6 t), (I6 p), (I6 s), (I6 i)], 10, .fresh⟩]⟩ ?_
        refine AWP.ret ?_
        refine FI (B6 (k == k && (decide (ByteArray.size key = 0) && (decide (ByteArray.size f = 0) && (inner == 0 && (a == a && (n == n && (decide (ByteArray.size t = 0) && (p == 0 && s == 0 && i == 0))))))))) ?_
        refine Shrink.all ?_ rfl
        ((first | refine congrArg B6 ?_ | refine congrArg I6 ?_ | congr 2); rw [Bool.eq_iff_iff]; simp [opP, *] <;> omega; done)
  · have h1' := ne_of_beq_false h1
    refine AWP.skip (SQ (PI 2 (10 ≤ 10 ∧ True ∧ True) ⟨(by omega), trivial, trivial⟩ ?_))
    refine CD (o_fits k inner a n p s i ((0 : Int)) key f t) ?_
    refine RT 5 ?_
    refine AWP.seq (KL ([8] ++ NN 33 6) ⟨[U6, .ptr 0 0, (B6 false), (B6 (decide (plP k inner a n key f t))), (B6 (decide (fitP k inner a n key f t)))] ++ UU 58, [⟨[(I6 k), (S6 key), (S6 f), (I6 inner), (I6 a), (I6 n), (S6 t), (I6 p), (I6 s), (I6 i)], 10, .fresh⟩]⟩ ?_)
    refine AWP.reg (RI (True ∧ 10 ≤ 10 ∧ True ∧ ((((2 : Nat) ≤ (3 : Nat)) ∧ (((2 : Nat) ≤ (3 : Nat)) ∧ ((((0 : Nat) < (2 : Nat)) ∧ (((0 : Nat) < (2 : Nat)) ∧ (True))) ∧ (((1 : Nat) < (2 : Nat)) ∧ (((1 : Nat) < (2 : Nat)) ∧ (True)))))) ∧ (((2 : Nat) < (3 : Nat)) ∧ (((2 : Nat) < (3 : Nat)) ∧ (True)))) ∧ True ∧ True) ⟨trivial, (by omega), trivial, ⟨⟨(by omega), ⟨(by omega), ⟨⟨(by omega), ⟨(by omega), trivial⟩⟩, ⟨(by omega), ⟨(by omega), trivial⟩⟩⟩⟩⟩, ⟨(by omega), ⟨(by omega), trivial⟩⟩⟩, trivial, trivial⟩ ?_)
    refine AWP.seq (AWP.seq (KL [39, 40, 41, 42] ⟨[U6, .ptr 0 0, (B6 false), (B6 (decide (plP k inner a n key f t))), (B6 (decide (fitP k inner a n key f t))), (B6 (p == 0 && s == 0 && i == 0))] ++ UU 57, [⟨[(I6 k), (S6 key), (S6 f), (I6 inner), (I6 a), (I6 n), (S6 t), (I6 p), (I6 s), (I6 i)], 10, .fresh⟩]⟩ ?_))
    refine AWP.reg (RT 2 ?_)
    refine KL [3, 43] ⟨[U6, .ptr 0 0, (B6 false), U6, (B6 (decide (fitP k inner a n key f t))), (B6 (p == 0 && s == 0 && i == 0))] ++ UU 38 ++ [(B6 (!decide (plP k inner a n key f t)))] ++ UU 18, [⟨[(I6 k), (S6 key), (S6 f), (I6 inner), (I6 a), (I6 n), (S6 t), (I6 p), (I6 s), (I6 i)], 10, .fresh⟩]⟩ ?_
    refine CN (!decide (plP k inner a n key f t)) (fun h2 => ?_) (fun h2 => ?_)
    · have h2' := h2
      simp only [Bool.and_eq_true, Bool.and_eq_false_iff, Bool.or_eq_true, Bool.or_eq_false_iff, Bool.not_eq_true', Bool.not_eq_false', beq_iff_eq, beq_eq_false_iff_ne, decide_eq_true_eq, decide_eq_false_iff_not, ne_eq] at h2'
      refine SQ (PT 2 2 ?_)
      refine DerQ.to ⟨[U6, .ptr 0 0, (B6 false), U6, (B6 (decide (fitP k inner a n key f t))), (B6 (p == 0 && s == 0 && i == 0))] ++ UU 38 ++ [(B6 (!decide (plP k inner a n key f t))), (B6 (decide (fitP k inner a n key f t))), (B6 (decide (fitP k inner a n key f t)))] ++ UU 16, [⟨[(I6 k), (S6 key), (S6 f), (I6 inner), (I6 a), (I6 n), (S6 t), (I6 p), (I6 s), (I6 i)], 10, .fresh⟩]⟩ (by kernel_rfl) ?_
      cases h3 : (decide (fitP k inner a n key f t))
      · have h3' := of_decide_eq_false h3
        refine RT 2 ?_
        refine AWP.ret ?_
        refine FI (B6 false) ?_
        refine Shrink.all ?_ rfl
        ((first | refine congrArg B6 ?_ | refine congrArg I6 ?_ | congr 2); rw [Bool.eq_iff_iff]; simp [opP, *] <;> omega; done)
      · have h3' := of_decide_eq_true h3
        refine RT 3 ?_
        refine AWP.ret ?_
        refine FI (B6 (p == 0 && s == 0 && i == 0)) ?_
        refine Shrink.all ?_ rfl
        ((first | refine congrArg B6 ?_ | refine congrArg I6 ?_ | congr 2); rw [Bool.eq_iff_iff]; simp [opP, *] <;> omega; done)
    · have h2' := h2
      simp only [Bool.and_eq_true, Bool.and_eq_false_iff, Bool.or_eq_true, Bool.or_eq_false_iff, Bool.not_eq_true', Bool.not_eq_false', beq_iff_eq, beq_eq_false_iff_ne, decide_eq_true_eq, decide_eq_false_iff_not, ne_eq] at h2'
      refine AWP.skip (SQ (PT 2 2 ?_))
      refine DerQ.to ⟨[U6, .ptr 0 0, (B6 false), U6, (B6 (decide (fitP k inner a n key f t))), (B6 (p == 0 && s == 0 && i == 0))] ++ UU 38 ++ [(B6 (!decide (plP k inner a n key f t))), U6, U6, U6, U6, (B6 (decide (fitP k inner a n key f t))), (B6 (decide (fitP k inner a n key f t)))] ++ UU 12, [⟨[(I6 k), (S6 key), (S6 f), (I6 inner), (I6 a), (I6 n), (S6 t), (I6 p), (I6 s), (I6 i)], 10, .fresh⟩]⟩ (by kernel_rfl) ?_
      cases h3 : (decide (fitP k inner a n key f t))
      · have h3' := of_decide_eq_false h3
        refine RT 2 ?_
        refine AWP.ret ?_
        refine FI (B6 false) ?_
        refine Shrink.all ?_ rfl
        ((first | refine congrArg B6 ?_ | refine congrArg I6 ?_ | congr 2); rw [Bool.eq_iff_iff]; simp [opP, *] <;> omega; done)
      · have h3' := of_decide_eq_true h3
        refine PT 2 2 ?_
        refine DerQ.to ⟨[U6, .ptr 0 0, (B6 false), U6, (B6 true), (B6 (p == 0 && s == 0 && i == 0))] ++ UU 38 ++ [(B6 (!decide (plP k inner a n key f t))), U6, U6, U6, U6, (B6 true), (B6 true), (B6 (p == 0 && s == 0 && i == 0)), (B6 (p == 0 && s == 0 && i == 0))] ++ UU 10, [⟨[(I6 k), (S6 key), (S6 f), (I6 inner), (I6 a), (I6 n), (S6 t), (I6 p), (I6 s), (I6 i)], 10, .fresh⟩]⟩ (by kernel_rfl) ?_
        cases h4 : (p == 0 && s == 0 && i == 0)
        · have h4' := h4
          simp only [Bool.and_eq_true, Bool.and_eq_false_iff, Bool.or_eq_true, Bool.or_eq_false_iff, Bool.not_eq_true', Bool.not_eq_false', beq_iff_eq, beq_eq_false_iff_ne, decide_eq_true_eq, decide_eq_false_iff_not, ne_eq] at h4'
          refine PI 7 (True ∧ True ∧ True ∧ 10 ≤ 10 ∧ True) ⟨trivial, trivial, trivial, (by omega), trivial⟩ ?_
          refine CD (o_referred p s i) ?_
          refine RT 3 ?_
          refine AWP.ret ?_
          refine FI (B6 (decide (refP p s i))) ?_
          refine Shrink.all ?_ rfl
          ((first | refine congrArg B6 ?_ | refine congrArg I6 ?_ | congr 2); rw [Bool.eq_iff_iff]; simp [opP, *] <;> omega; done)
        · have h4' := h4
          simp only [Bool.and_eq_true, Bool.and_eq_false_iff, Bool.or_eq_true, Bool.or_eq_false_iff, Bool.not_eq_true', Bool.not_eq_false', beq_iff_eq, beq_eq_false_iff_ne, decide_eq_true_eq, decide_eq_false_iff_not, ne_eq] at h4'
          refine PI 5 (True ∧ 4 < 10 ∧ True ∧ True ∧ True ∧ True) ⟨trivial, (by omega), trivial, trivial, trivial, trivial⟩ ?_
          refine DerQ.to ⟨[U6, .ptr 0 0, (B6 false), U6, (B6 true), (B6 true)] ++ UU 38 ++ [(B6 (!decide (plP k inner a n key f t))), U6, U6, U6, U6, (B6 true), (B6 true), (B6 true), (B6 true), .ptr 0 4, (I6 a), (B6 (a == 4)), (B6 (a == 4)), (B6 (a == 4))] ++ UU 5, [⟨[(I6 k), (S6 key), (S6 f), (I6 inner), (I6 a), (I6 n), (S6 t), (I6 p), (I6 s), (I6 i)], 10, .fresh⟩]⟩ (by kernel_rfl) ?_
          cases h5 : (a == 4)
          · have h5' := ne_of_beq_false h5
            refine PI 2 (True ∧ 10 ≤ 10 ∧ True) ⟨trivial, (by omega), trivial⟩ ?_
            refine CD (o_referred p s i) ?_
            refine RT 3 ?_
            refine AWP.ret ?_
            refine FI (B6 (decide (refP p s i))) ?_
            refine Shrink.all ?_ rfl
            ((first | refine congrArg B6 ?_ | refine congrArg I6 ?_ | congr 2); rw [Bool.eq_iff_iff]; simp [opP, *] <;> omega; done)
          · have h5' := eq_of_beq h5
            refine RT 3 ?_
            refine AWP.ret ?_
            refine FI (B6 true) ?_
            refine Shrink.all ?_ rfl
            ((first | refine congrArg B6 ?_ | refine congrArg I6 ?_ | congr 2); grind [opP]; done)
end Go.Ops
