/- Walks and laws. -/
import Derived.Test.YtfkilkfaiiijbaaProg
import Derived.Test.YtfkilkfaiiijbaaLibC
set_option maxRecDepth 100000
set_option maxHeartbeats 0
set_option linter.unusedSimpArgs false
set_option linter.unusedVariables false
namespace Go.Ops
open Go Go.Abs Go.Proofs
theorem mixed : Try.prog.follows .mixedOrders = true := by kernel_rfl
theorem isNaN (x : Int) : EvD Try.prog 95 [.sc (.int .i64 x)] (.sc (.bool false)) := by
  refine EvD.body Try.func95 rfl rfl rfl ?_
  refine AWP.seq ?_
  refine TO ⟨[(I6 x)] ++ UU 5, []⟩ ?_
  refine AWP.reg (RT 1 ?_)
  refine AWP.seq ?_
  refine TO ⟨[(I6 x), U6, (B6 false), U6, U6, .undef], []⟩ ?_
  refine AWP.reg (RT 4 ?_)
  refine AWP.ret ?_
  refine FI (B6 (x != x)) ?_
  refine Shrink.all ?_ rfl
  ((simp); done)
def cmpI (x y : Int) : Int := if x < y then -1 else if y < x then 1 else 0
theorem compare (x y : Int) : EvD Try.prog 59 [.sc (.int .i64 x), .sc (.int .i64 y)] (.sc (.int .i64 (cmpI x y))) := by
  refine EvD.body Try.func59 rfl rfl rfl ?_
  refine AWP.seq ?_
  refine TO ⟨[(I6 x), (I6 y)] ++ UU 18, []⟩ ?_
  refine AWP.reg (RT 1 ?_)
  refine AWP.seq ?_
  refine TO ⟨[(I6 x), (I6 y), U6, U6, (I6 0)] ++ UU 15, []⟩ ?_
  refine AWP.reg (PT 1 1 ?_)
  refine CD (isNaN x) ?_
  refine RT 1 ?_
  refine AWP.seq (KL [7, 8] ⟨[(I6 x), (I6 y), U6, U6, (I6 0), (B6 false)] ++ UU 14, []⟩ ?_)
  refine AWP.reg (PT 1 1 ?_)
  refine CD (isNaN y) ?_
  refine RT 1 ?_
  refine AWP.seq (AWP.seq (KL [9, 10] ⟨[(I6 x), (I6 y), U6, U6, (I6 0), (B6 false), (B6 false)] ++ UU 13, []⟩ ?_))
  refine AWP.reg (RT 1 ?_)
  refine KL [5] ⟨[(I6 x), (I6 y), U6, U6, (I6 0), U6, (B6 false), U6, U6, U6, U6, (B6 false)] ++ UU 8, []⟩ ?_
  refine CN false (fun h => nomatch h) (fun _ => ?_)
  refine AWP.skip (AWP.seq (SQ (RT 1 ?_)))
  refine KL [6, 11] ⟨[(I6 x), (I6 y), U6, U6, (I6 0)] ++ UU 8 ++ [(B6 false)] ++ UU 6, []⟩ ?_
  refine CN false (fun h => nomatch h) (fun _ => ?_)
  refine AWP.skip (AWP.seq (SQ (RT 3 ?_)))
  refine KL [13, 14, 15] ⟨[(I6 x), (I6 y), U6, U6, (I6 0)] ++ UU 11 ++ [(B6 (decide (x < y))), U6, U6, .undef], []⟩ ?_
  refine CN (decide (x < y)) (fun h1 => ?_) (fun h1 => ?_)
  · have h1' := of_decide_eq_true h1
    refine SQ (RT 1 ?_)
    refine AWP.ret ?_
    refine FI (I6 (-1)) ?_
    refine Shrink.all ?_ rfl
    (((first | refine congrArg B6 ?_ | refine congrArg I6 ?_ | congr 2); unfold cmpI; (repeat' split) <;> omega); done)
  · have h1' := of_decide_eq_false h1
    refine AWP.skip (AWP.seq (SQ (RT 3 ?_)))
    refine KL [0, 1, 16, 17, 18] ⟨[U6, U6, U6, U6, (I6 0)] ++ UU 14 ++ [(B6 (decide (x > y)))], []⟩ ?_
    refine CN (decide (x > y)) (fun h2 => ?_) (fun h2 => ?_)
    · have h2' := of_decide_eq_true h2
      refine SQ (RT 1 ?_)
      refine AWP.ret ?_
      refine FI (I6 1) ?_
      refine Shrink.all ?_ rfl
      (((first | refine congrArg B6 ?_ | refine congrArg I6 ?_ | congr 2); unfold cmpI; (repeat' split) <;> omega); done)
    · have h2' := of_decide_eq_false h2
      refine AWP.skip (SQ (RT 1 ?_))
      refine AWP.ret ?_
      refine FI (I6 0) ?_
      refine Shrink.all ?_ rfl
      (((first | refine congrArg B6 ?_ | refine congrArg I6 ?_ | congr 2); unfold cmpI; (repeat' split) <;> omega); done)
def or3 (a b c : Int) : Int := if a ≠ 0 then a else if b ≠ 0 then b else c
def or2 (a b : Int) : Int := if a ≠ 0 then a else b
theorem or_2 (a b : Int) : EvD Try.prog 58 [.sl [.sc (.int .i64 a), .sc (.int .i64 b)] 2 .any] (.sc (.int .i64 (or2 a b))) := by
  refine EvD.body Try.func58 rfl rfl rfl ?_
  refine SQ ?_
  refine DerQ.run (True ∧ True) ⟨[.sl [(I6 a), (I6 b)] 2 .any, U6, (I6 0)] ++ UU 15, []⟩ (by kernel_rfl) ⟨trivial, trivial⟩ ?_
  refine SQ ?_
  refine DerQ.run (True ∧ True) ⟨[.sl [(I6 a), (I6 b)] 2 .any, U6, (I6 0), (I6 0)] ++ UU 14, []⟩ (by kernel_rfl) ⟨trivial, trivial⟩ ?_
  refine AWP.seq (SQ ?_)
  refine DerQ.run (TT 3) ⟨[.sl [(I6 a), (I6 b)] 2 .any, U6, (I6 0), (I6 0), U6, U6, .sl [(I6 a), (I6 b)] 2 .any, (I6 2), (I6 0)] ++ UU 9, []⟩ (by kernel_rfl) (tt 3) ?_
  refine AWP.block ?_
  refine AWP.loopN 4 ?_
  refine AWP.turn ?_
  refine SQ ?_
  refine DerQ.run (True ∧ True) ⟨[.sl [(I6 a), (I6 b)] 2 .any, U6, (I6 0), (I6 0), U6, U6, .sl [(I6 a), (I6 b)] 2 .any, (I6 2), (I6 0), (B6 true)] ++ UU 8, []⟩ (by kernel_rfl) ⟨trivial, trivial⟩ ?_
  refine AWP.seq ?_
  refine CN true (fun _ => ?_) (fun h => nomatch h)
  refine AWP.skip (AWP.seq (AWP.block (SQ ?_)))
  refine DerQ.run (((((0 : Int) ≤ (0 : Int)) ∧ ((0 : Int) < (2 : Int))) ∧ (1 ≤ List.length [(I6 a), (I6 b)])) ∧ (0 < List.length [(I6 a)]) ∧ True ∧ True) ⟨[.sl [(I6 a), (I6 b)] 2 .any, U6, (I6 0), (I6 0), U6, (I6 a), .sl [(I6 a), (I6 b)] 2 .any, (I6 2), (I6 0), (B6 true), .dptr [(I6 a)], (I6 a)] ++ UU 6, []⟩ (by kernel_rfl) ⟨⟨⟨(by omega), (by omega)⟩, (by simp)⟩, (by simp), trivial, trivial⟩ ?_
  refine SQ ?_
  refine DerQ.run (TT 3) ⟨[.sl [(I6 a), (I6 b)] 2 .any, U6, (I6 0), (I6 0), U6, (I6 a), .sl [(I6 a), (I6 b)] 2 .any, (I6 2), (I6 0), (B6 true), .dptr [(I6 a)], (I6 a), (I6 a), (I6 0), (B6 (a != 0)), U6, U6, .undef], []⟩ (by kernel_rfl) (tt 3) ?_
  refine CN (a != 0) (fun h1 => ?_) (fun h1 => ?_)
  · have h1' := bne_iff_ne.1 h1
    refine SQ ?_
    refine DerQ.run (TT 2) ⟨[.sl [(I6 a), (I6 b)] 2 .any, U6, (I6 a), (I6 0), U6, (I6 a), .sl [(I6 a), (I6 b)] 2 .any, (I6 2), (I6 0), (B6 true), .dptr [(I6 a)], (I6 a), (I6 a), (I6 0), (B6 (a != 0)), (I6 a), U6, .undef], []⟩ (by kernel_rfl) (tt 2) ?_
    refine AWP.ret ?_
    refine FI (I6 a) ?_
    refine Shrink.all ?_ rfl
    ((first | refine congrArg B6 ?_ | refine congrArg I6 ?_ | congr 2); unfold or2; (repeat' split) <;> omega)
  · have h1' := bne_eq_false_iff_eq.1 h1
    refine AWP.skip (AWP.reg ?_)
    refine DerQ.run (TT 2) ⟨[.sl [(I6 a), (I6 b)] 2 .any, U6, (I6 0), (I6 0), U6, (I6 a), .sl [(I6 a), (I6 b)] 2 .any, (I6 2), (I6 1), (B6 true), .dptr [(I6 a)], (I6 a), (I6 a), (I6 0), (B6 (a != 0)), U6, (I6 1), .undef], []⟩ (by kernel_rfl) (tt 2) ?_
    refine AWP.turn ?_
    refine SQ ?_
    refine DerQ.run (True ∧ True) ⟨[.sl [(I6 a), (I6 b)] 2 .any, U6, (I6 0), (I6 0), U6, (I6 a), .sl [(I6 a), (I6 b)] 2 .any, (I6 2), (I6 1), (B6 true), .dptr [(I6 a)], (I6 a), (I6 a), (I6 0), (B6 (a != 0)), U6, (I6 1), .undef], []⟩ (by kernel_rfl) ⟨trivial, trivial⟩ ?_
    refine AWP.seq ?_
    refine CN true (fun _ => ?_) (fun h => nomatch h)
    refine AWP.skip (AWP.seq (AWP.block (SQ ?_)))
    refine DerQ.run (((((0 : Int) ≤ (1 : Int)) ∧ ((1 : Int) < (2 : Int))) ∧ (2 ≤ List.length [(I6 a), (I6 b)])) ∧ (0 < List.length [(I6 b)]) ∧ True ∧ True) ⟨[.sl [(I6 a), (I6 b)] 2 .any, U6, (I6 0), (I6 0), U6, (I6 b), .sl [(I6 a), (I6 b)] 2 .any, (I6 2), (I6 1), (B6 true), .dptr [(I6 b)], (I6 b), (I6 a), (I6 0), (B6 (a != 0)), U6, (I6 1), .undef], []⟩ (by kernel_rfl) ⟨⟨⟨(by omega), (by omega)⟩, (by simp)⟩, (by simp), trivial, trivial⟩ ?_
    refine SQ ?_
    refine DerQ.run (TT 3) ⟨[.sl [(I6 a), (I6 b)] 2 .any, U6, (I6 0), (I6 0), U6, (I6 b), .sl [(I6 a), (I6 b)] 2 .any, (I6 2), (I6 1), (B6 true), .dptr [(I6 b)], (I6 b), (I6 b), (I6 0), (B6 (b != 0)), U6, (I6 1), .undef], []⟩ (by kernel_rfl) (tt 3) ?_
    refine CN (b != 0) (fun h2 => ?_) (fun h2 => ?_)
    · have h2' := bne_iff_ne.1 h2
      refine SQ ?_
      refine DerQ.run (TT 2) ⟨[.sl [(I6 a), (I6 b)] 2 .any, U6, (I6 b), (I6 0), U6, (I6 b), .sl [(I6 a), (I6 b)] 2 .any, (I6 2), (I6 1), (B6 true), .dptr [(I6 b)], (I6 b), (I6 b), (I6 0), (B6 (b != 0)), (I6 b), (I6 1), .undef], []⟩ (by kernel_rfl) (tt 2) ?_
      refine AWP.ret ?_
      refine FI (I6 b) ?_
      refine Shrink.all ?_ rfl
      ((first | refine congrArg B6 ?_ | refine congrArg I6 ?_ | congr 2); unfold or2; (repeat' split) <;> omega)
    · have h2' := bne_eq_false_iff_eq.1 h2
      refine AWP.skip (AWP.reg ?_)
      refine DerQ.run (TT 2) ⟨[.sl [(I6 a), (I6 b)] 2 .any, U6, (I6 0), (I6 0), U6, (I6 b), .sl [(I6 a), (I6 b)] 2 .any, (I6 2), (I6 2), (B6 true), .dptr [(I6 b)], (I6 b), (I6 b), (I6 0), (B6 (b != 0)), U6, (I6 2), .undef], []⟩ (by kernel_rfl) (tt 2) ?_
      refine AWP.turn ?_
      refine SQ ?_
      refine DerQ.run (True ∧ True) ⟨[.sl [(I6 a), (I6 b)] 2 .any, U6, (I6 0), (I6 0), U6, (I6 b), .sl [(I6 a), (I6 b)] 2 .any, (I6 2), (I6 2), (B6 false), .dptr [(I6 b)], (I6 b), (I6 b), (I6 0), (B6 (b != 0)), U6, (I6 2), .undef], []⟩ (by kernel_rfl) ⟨trivial, trivial⟩ ?_
      refine AWP.seq ?_
      refine CN false (fun h => nomatch h) (fun _ => ?_)
      refine AWP.exit ?_
      refine SQ ?_
      refine DerQ.run (TT 2) ⟨[.sl [(I6 a), (I6 b)] 2 .any, U6, (I6 0), (I6 0), U6, (I6 b), .sl [(I6 a), (I6 b)] 2 .any, (I6 2), (I6 2), (B6 false), .dptr [(I6 b)], (I6 b), (I6 b), (I6 0), (B6 (b != 0)), U6, (I6 2), (I6 0)], []⟩ (by kernel_rfl) (tt 2) ?_
      refine AWP.ret ?_
      refine FI (I6 0) ?_
      refine Shrink.all ?_ rfl
      ((first | refine congrArg B6 ?_ | refine congrArg I6 ?_ | congr 2); unfold or2; (repeat' split) <;> omega)
/-- a mark is ahead -/
def lessP (p s i q t j : Int) : Prop := p < q ∨ p = q ∧ (s < t ∨ s = t ∧ i < j)
instance (p s i q t j : Int) : Decidable (lessP p s i q t j) := by unfold lessP; infer_instance
def lessB (p s i q t j : Int) : Bool := decide (lessP p s i q t j)
end Go.Ops
