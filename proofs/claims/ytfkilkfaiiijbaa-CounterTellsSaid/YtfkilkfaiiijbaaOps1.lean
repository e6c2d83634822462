/- Walks and laws. -/
import Derived.Test.YtfkilkfaiiijbaaProg
import Derived.Test.YtfkilkfaiiijbaaLibC
set_option maxRecDepth 100000
set_option maxHeartbeats 0
set_option linter.unusedSimpArgs false
set_option linter.unusedVariables false
namespace Go.Ops
open Go Go.Abs Go.Proofs
theorem mixed : Try.prog.follows .mixedOrders = true := by kernel_rfl
theorem isNaN (x : Int) : EvD Try.prog 95 [.sc (.int .i64 x)] (.sc (.bool false)) := by
  refine EvD.body Try.func95 rfl rfl rfl ?_
  refine SQ ?_
  refine DerQ.run (True ∧ True) ⟨[(I6 x), U6, (B6 false), U6, U6, .undef], []⟩ (by kernel_rfl) ⟨trivial, trivial⟩ ?_
  refine SQ ?_
  refine DerQ.run (TT 4) ⟨[(I6 x), U6, (B6 (x != x)), (I6 x), (I6 x), (B6 (x != x))], []⟩ (by kernel_rfl) (tt 4) ?_
  refine AWP.ret ?_
  refine FI (B6 (x != x)) ?_
  refine Shrink.all ?_ rfl
  (simp)
def cmpI (x y : Int) : Int := if x < y then -1 else if y < x then 1 else 0
theorem compare (x y : Int) : EvD Try.prog 59 [.sc (.int .i64 x), .sc (.int .i64 y)] (.sc (.int .i64 (cmpI x y))) := by
  refine EvD.body Try.func59 rfl rfl rfl ?_
  refine SQ ?_
  refine DerQ.run (True ∧ True) ⟨[(I6 x), (I6 y), U6, U6, (I6 0)] ++ UU 15, []⟩ (by kernel_rfl) ⟨trivial, trivial⟩ ?_
  refine SQ ?_
  refine DerQ.pre 1 (True ∧ True) ⟨[(I6 x), (I6 y), U6, U6, (I6 0), U6, U6, (I6 x)] ++ UU 12, []⟩ (by kernel_rfl) ⟨trivial, trivial⟩ ?_
  refine DerQ.callD (isNaN x) ⟨[(I6 x), (I6 y), U6, U6, (I6 0), U6, U6, (I6 x), (B6 false)] ++ UU 11, []⟩ ⟨by kernel_rfl, by kernel_rfl, by kernel_rfl⟩ ?_
  refine DerQ.run (True ∧ True) ⟨[(I6 x), (I6 y), U6, U6, (I6 0), (B6 false), U6, (I6 x), (B6 false)] ++ UU 11, []⟩ (by kernel_rfl) ⟨trivial, trivial⟩ ?_
  refine SQ ?_
  refine DerQ.pre 1 (True ∧ True) ⟨[(I6 x), (I6 y), U6, U6, (I6 0), (B6 false), U6, (I6 x), (B6 false), (I6 y)] ++ UU 10, []⟩ (by kernel_rfl) ⟨trivial, trivial⟩ ?_
  refine DerQ.callD (isNaN y) ⟨[(I6 x), (I6 y), U6, U6, (I6 0), (B6 false), U6, (I6 x), (B6 false), (I6 y), (B6 false)] ++ UU 9, []⟩ ⟨by kernel_rfl, by kernel_rfl, by kernel_rfl⟩ ?_
  refine DerQ.run (True ∧ True) ⟨[(I6 x), (I6 y), U6, U6, (I6 0), (B6 false), (B6 false), (I6 x), (B6 false), (I6 y), (B6 false)] ++ UU 9, []⟩ (by kernel_rfl) ⟨trivial, trivial⟩ ?_
  refine AWP.seq (SQ ?_)
  refine DerQ.run (True ∧ True) ⟨[(I6 x), (I6 y), U6, U6, (I6 0), (B6 false), (B6 false), (I6 x), (B6 false), (I6 y), (B6 false), (B6 false)] ++ UU 8, []⟩ (by kernel_rfl) ⟨trivial, trivial⟩ ?_
  refine CN false (fun h => nomatch h) (fun _ => ?_)
  refine AWP.skip (AWP.seq (SQ ?_))
  refine DerQ.run (True ∧ True) ⟨[(I6 x), (I6 y), U6, U6, (I6 0), (B6 false), (B6 false), (I6 x), (B6 false), (I6 y), (B6 false), (B6 false), U6, (B6 false)] ++ UU 6, []⟩ (by kernel_rfl) ⟨trivial, trivial⟩ ?_
  refine CN false (fun h => nomatch h) (fun _ => ?_)
  refine AWP.skip (AWP.seq (SQ ?_))
  refine DerQ.run (TT 3) ⟨[(I6 x), (I6 y), U6, U6, (I6 0), (B6 false), (B6 false), (I6 x), (B6 false), (I6 y), (B6 false), (B6 false), U6, (B6 false), (I6 x), (I6 y), (B6 (decide (x < y))), U6, U6, .undef], []⟩ (by kernel_rfl) (tt 3) ?_
  refine CN (decide (x < y)) (fun h1 => ?_) (fun h1 => ?_)
  · have h1' := of_decide_eq_true h1
    refine SQ ?_
    refine DerQ.run (True ∧ True) ⟨[(I6 x), (I6 y), U6, U6, (I6 (-1)), (B6 false), (B6 false), (I6 x), (B6 false), (I6 y), (B6 false), (B6 false), U6, (B6 false), (I6 x), (I6 y), (B6 (decide (x < y))), U6, U6, .undef], []⟩ (by kernel_rfl) ⟨trivial, trivial⟩ ?_
    refine AWP.ret ?_
    refine FI (I6 (-1)) ?_
    refine Shrink.all ?_ rfl
    ((first | refine congrArg B6 ?_ | refine congrArg I6 ?_ | congr 2); unfold cmpI; (repeat' split) <;> omega)
  · have h1' := of_decide_eq_false h1
    refine AWP.skip (AWP.seq (SQ ?_))
    refine DerQ.run (TT 3) ⟨[(I6 x), (I6 y), U6, U6, (I6 0), (B6 false), (B6 false), (I6 x), (B6 false), (I6 y), (B6 false), (B6 false), U6, (B6 false), (I6 x), (I6 y), (B6 (decide (x < y))), (I6 x), (I6 y), (B6 (decide (x > y)))], []⟩ (by kernel_rfl) (tt 3) ?_
    refine CN (decide (x > y)) (fun h2 => ?_) (fun h2 => ?_)
    · have h2' := of_decide_eq_true h2
      refine SQ ?_
      refine DerQ.run (True ∧ True) ⟨[(I6 x), (I6 y), U6, U6, (I6 1), (B6 false), (B6 false), (I6 x), (B6 false), (I6 y), (B6 false), (B6 false), U6, (B6 false), (I6 x), (I6 y), (B6 (decide (x < y))), (I6 x), (I6 y), (B6 (decide (x > y)))], []⟩ (by kernel_rfl) ⟨trivial, trivial⟩ ?_
      refine AWP.ret ?_
      refine FI (I6 1) ?_
      refine Shrink.all ?_ rfl
      ((first | refine congrArg B6 ?_ | refine congrArg I6 ?_ | congr 2); unfold cmpI; (repeat' split) <;> omega)
    · have h2' := of_decide_eq_false h2
      refine AWP.skip (SQ ?_)
      refine DerQ.run (True ∧ True) ⟨[(I6 x), (I6 y), U6, U6, (I6 0), (B6 false), (B6 false), (I6 x), (B6 false), (I6 y), (B6 false), (B6 false), U6, (B6 false), (I6 x), (I6 y), (B6 (decide (x < y))), (I6 x), (I6 y), (B6 (decide (x > y)))], []⟩ (by kernel_rfl) ⟨trivial, trivial⟩ ?_
      refine AWP.ret ?_
      refine FI (I6 0) ?_
      refine Shrink.all ?_ rfl
      ((first | refine congrArg B6 ?_ | refine congrArg I6 ?_ | congr 2); unfold cmpI; (repeat' split) <;> omega)
def or3 (a b c : Int) : Int := if a ≠ 0 then a else if b ≠ 0 then b else c
def or2 (a b : Int) : Int := if a ≠ 0 then a else b
theorem or_3 (a b c : Int) : EvD Try.prog 58 [.sl [.sc (.int .i64 a), .sc (.int .i64 b), .sc (.int .i64 c)] 3 .any] (.sc (.int .i64 (or3 a b c))) := by
  refine EvD.body Try.func58 rfl rfl rfl ?_
  refine SQ ?_
  refine DerQ.run (True ∧ True) ⟨[.sl [(I6 a), (I6 b), (I6 c)] 3 .any, U6, (I6 0)] ++ UU 15, []⟩ (by kernel_rfl) ⟨trivial, trivial⟩ ?_
  refine SQ ?_
  refine DerQ.run (True ∧ True) ⟨[.sl [(I6 a), (I6 b), (I6 c)] 3 .any, U6, (I6 0), (I6 0)] ++ UU 14, []⟩ (by kernel_rfl) ⟨trivial, trivial⟩ ?_
  refine AWP.seq (SQ ?_)
  refine DerQ.run (TT 3) ⟨[.sl [(I6 a), (I6 b), (I6 c)] 3 .any, U6, (I6 0), (I6 0), U6, U6, .sl [(I6 a), (I6 b), (I6 c)] 3 .any, (I6 3), (I6 0)] ++ UU 9, []⟩ (by kernel_rfl) (tt 3) ?_
  refine AWP.block ?_
  refine AWP.loopN 4 ?_
  refine AWP.turn ?_
  refine SQ ?_
  refine DerQ.run (True ∧ True) ⟨[.sl [(I6 a), (I6 b), (I6 c)] 3 .any, U6, (I6 0), (I6 0), U6, U6, .sl [(I6 a), (I6 b), (I6 c)] 3 .any, (I6 3), (I6 0), (B6 true)] ++ UU 8, []⟩ (by kernel_rfl) ⟨trivial, trivial⟩ ?_
  refine AWP.seq ?_
  refine CN true (fun _ => ?_) (fun h => nomatch h)
  refine AWP.skip (AWP.seq (AWP.block (SQ ?_)))
  refine DerQ.run (((((0 : Int) ≤ (0 : Int)) ∧ ((0 : Int) < (3 : Int))) ∧ (1 ≤ List.length [(I6 a), (I6 b), (I6 c)])) ∧ (0 < List.length [(I6 a)]) ∧ True ∧ True) ⟨[.sl [(I6 a), (I6 b), (I6 c)] 3 .any, U6, (I6 0), (I6 0), U6, (I6 a), .sl [(I6 a), (I6 b), (I6 c)] 3 .any, (I6 3), (I6 0), (B6 true), .dptr [(I6 a)], (I6 a)] ++ UU 6, []⟩ (by kernel_rfl) ⟨⟨⟨(by omega), (by omega)⟩, (by simp)⟩, (by simp), trivial, trivial⟩ ?_
  refine SQ ?_
  refine DerQ.run (TT 3) ⟨[.sl [(I6 a), (I6 b), (I6 c)] 3 .any, U6, (I6 0), (I6 0), U6, (I6 a), .sl [(I6 a), (I6 b), (I6 c)] 3 .any, (I6 3), (I6 0), (B6 true), .dptr [(I6 a)], (I6 a), (I6 a), (I6 0), (B6 (a != 0)), U6, U6, .undef], []⟩ (by kernel_rfl) (tt 3) ?_
  refine CN (a != 0) (fun h1 => ?_) (fun h1 => ?_)
  · have h1' := bne_iff_ne.1 h1
    refine SQ ?_
    refine DerQ.run (TT 2) ⟨[.sl [(I6 a), (I6 b), (I6 c)] 3 .any, U6, (I6 a), (I6 0), U6, (I6 a), .sl [(I6 a), (I6 b), (I6 c)] 3 .any, (I6 3), (I6 0), (B6 true), .dptr [(I6 a)], (I6 a), (I6 a), (I6 0), (B6 (a != 0)), (I6 a), U6, .undef], []⟩ (by kernel_rfl) (tt 2) ?_
    refine AWP.ret ?_
    refine FI (I6 a) ?_
    refine Shrink.all ?_ rfl
    ((first | refine congrArg B6 ?_ | refine congrArg I6 ?_ | congr 2); unfold or3; (repeat' split) <;> omega)
  · have h1' := bne_eq_false_iff_eq.1 h1
    refine AWP.skip (AWP.reg ?_)
    refine DerQ.run (TT 2) ⟨[.sl [(I6 a), (I6 b), (I6 c)] 3 .any, U6, (I6 0), (I6 0), U6, (I6 a), .sl [(I6 a), (I6 b), (I6 c)] 3 .any, (I6 3), (I6 1), (B6 true), .dptr [(I6 a)], (I6 a), (I6 a), (I6 0), (B6 (a != 0)), U6, (I6 1), .undef], []⟩ (by kernel_rfl) (tt 2) ?_
    refine AWP.turn ?_
    refine SQ ?_
    refine DerQ.run (True ∧ True) ⟨[.sl [(I6 a), (I6 b), (I6 c)] 3 .any, U6, (I6 0), (I6 0), U6, (I6 a), .sl [(I6 a), (I6 b), (I6 c)] 3 .any, (I6 3), (I6 1), (B6 true), .dptr [(I6 a)], (I6 a), (I6 a), (I6 0), (B6 (a != 0)), U6, (I6 1), .undef], []⟩ (by kernel_rfl) ⟨trivial, trivial⟩ ?_
    refine AWP.seq ?_
    refine CN true (fun _ => ?_) (fun h => nomatch h)
    refine AWP.skip (AWP.seq (AWP.block (SQ ?_)))
    refine DerQ.run (((((0 : Int) ≤ (1 : Int)) ∧ ((1 : Int) < (3 : Int))) ∧ (2 ≤ List.length [(I6 a), (I6 b), (I6 c)])) ∧ (0 < List.length [(I6 b)]) ∧ True ∧ True) ⟨[.sl [(I6 a), (I6 b), (I6 c)] 3 .any, U6, (I6 0), (I6 0), U6, (I6 b), .sl [(I6 a), (I6 b), (I6 c)] 3 .any, (I6 3), (I6 1), (B6 true), .dptr [(I6 b)], (I6 b), (I6 a), (I6 0), (B6 (a != 0)), U6, (I6 1), .undef], []⟩ (by kernel_rfl) ⟨⟨⟨(by omega), (by omega)⟩, (by simp)⟩, (by simp), trivial, trivial⟩ ?_
    refine SQ ?_
    refine DerQ.run (TT 3) ⟨[.sl [(I6 a), (I6 b), (I6 c)] 3 .any, U6, (I6 0), (I6 0), U6, (I6 b), .sl [(I6 a), (I6 b), (I6 c)] 3 .any, (I6 3), (I6 1), (B6 true), .dptr [(I6 b)], (I6 b), (I6 b), (I6 0), (B6 (b != 0)), U6, (I6 1), .undef], []⟩ (by kernel_rfl) (tt 3) ?_
    refine CN (b != 0) (fun h2 => ?_) (fun h2 => ?_)
    · have h2' := bne_iff_ne.1 h2
      refine SQ ?_
      refine DerQ.run (TT 2) ⟨[.sl [(I6 a), (I6 b), (I6 c)] 3 .any, U6, (I6 b), (I6 0), U6, (I6 b), .sl [(I6 a), (I6 b), (I6 c)] 3 .any, (I6 3), (I6 1), (B6 true), .dptr [(I6 b)], (I6 b), (I6 b), (I6 0), (B6 (b != 0)), (I6 b), (I6 1), .undef], []⟩ (by kernel_rfl) (tt 2) ?_
      refine AWP.ret ?_
      refine FI (I6 b) ?_
      refine Shrink.all ?_ rfl
      ((first | refine congrArg B6 ?_ | refine congrArg I6 ?_ | congr 2); unfold or3; (repeat' split) <;> omega)
    · have h2' := bne_eq_false_iff_eq.1 h2
      refine AWP.skip (AWP.reg ?_)
      refine DerQ.run (TT 2) ⟨[.sl [(I6 a), (I6 b), (I6 c)] 3 .any, U6, (I6 0), (I6 0), U6, (I6 b), .sl [(I6 a), (I6 b), (I6 c)] 3 .any, (I6 3), (I6 2), (B6 true), .dptr [(I6 b)], (I6 b), (I6 b), (I6 0), (B6 (b != 0)), U6, (I6 2), .undef], []⟩ (by kernel_rfl) (tt 2) ?_
      refine AWP.turn ?_
      refine SQ ?_
      refine DerQ.run (True ∧ True) ⟨[.sl [(I6 a), (I6 b), (I6 c)] 3 .any, U6, (I6 0), (I6 0), U6, (I6 b), .sl [(I6 a), (I6 b), (I6 c)] 3 .any, (I6 3), (I6 2), (B6 true), .dptr [(I6 b)], (I6 b), (I6 b), (I6 0), (B6 (b != 0)), U6, (I6 2), .undef], []⟩ (by kernel_rfl) ⟨trivial, trivial⟩ ?_
      refine AWP.seq ?_
      refine CN true (fun _ => ?_) (fun h => nomatch h)
      refine AWP.skip (AWP.seq (AWP.block (SQ ?_)))
      refine DerQ.run (((((0 : Int) ≤ (2 : Int)) ∧ ((2 : Int) < (3 : Int))) ∧ (3 ≤ List.length [(I6 a), (I6 b), (I6 c)])) ∧ (0 < List.length [(I6 c)]) ∧ True ∧ True) ⟨[.sl [(I6 a), (I6 b), (I6 c)] 3 .any, U6, (I6 0), (I6 0), U6, (I6 c), .sl [(I6 a), (I6 b), (I6 c)] 3 .any, (I6 3), (I6 2), (B6 true), .dptr [(I6 c)], (I6 c), (I6 b), (I6 0), (B6 (b != 0)), U6, (I6 2), .undef], []⟩ (by kernel_rfl) ⟨⟨⟨(by omega), (by omega)⟩, (by simp)⟩, (by simp), trivial, trivial⟩ ?_
      refine SQ ?_
      refine DerQ.run (TT 3) ⟨[.sl [(I6 a), (I6 b), (I6 c)] 3 .any, U6, (I6 0), (I6 0), U6, (I6 c), .sl [(I6 a), (I6 b), (I6 c)] 3 .any, (I6 3), (I6 2), (B6 true), .dptr [(I6 c)], (I6 c), (I6 c), (I6 0), (B6 (c != 0)), U6, (I6 2), .undef], []⟩ (by kernel_rfl) (tt 3) ?_
      refine CN (c != 0) (fun h3 => ?_) (fun h3 => ?_)
      · have h3' := bne_iff_ne.1 h3
        refine SQ ?_
        refine DerQ.run (TT 2) ⟨[.sl [(I6 a), (I6 b), (I6 c)] 3 .any, U6, (I6 c), (I6 0), U6, (I6 c), .sl [(I6 a), (I6 b), (I6 c)] 3 .any, (I6 3), (I6 2), (B6 true), .dptr [(I6 c)], (I6 c), (I6 c), (I6 0), (B6 (c != 0)), (I6 c), (I6 2), .undef], []⟩ (by kernel_rfl) (tt 2) ?_
        refine AWP.ret ?_
        refine FI (I6 c) ?_
        refine Shrink.all ?_ rfl
        ((first | refine congrArg B6 ?_ | refine congrArg I6 ?_ | congr 2); unfold or3; (repeat' split) <;> omega)
      · have h3' := bne_eq_false_iff_eq.1 h3
        refine AWP.skip (AWP.reg ?_)
        refine DerQ.run (TT 2) ⟨[.sl [(I6 a), (I6 b), (I6 c)] 3 .any, U6, (I6 0), (I6 0), U6, (I6 c), .sl [(I6 a), (I6 b), (I6 c)] 3 .any, (I6 3), (I6 3), (B6 true), .dptr [(I6 c)], (I6 c), (I6 c), (I6 0), (B6 (c != 0)), U6, (I6 3), .undef], []⟩ (by kernel_rfl) (tt 2) ?_
        refine AWP.turn ?_
        refine SQ ?_
        refine DerQ.run (True ∧ True) ⟨[.sl [(I6 a), (I6 b), (I6 c)] 3 .any, U6, (I6 0), (I6 0), U6, (I6 c), .sl [(I6 a), (I6 b), (I6 c)] 3 .any, (I6 3), (I6 3), (B6 false), .dptr [(I6 c)], (I6 c), (I6 c), (I6 0), (B6 (c != 0)), U6, (I6 3), .undef], []⟩ (by kernel_rfl) ⟨trivial, trivial⟩ ?_
        refine AWP.seq ?_
        refine CN false (fun h => nomatch h) (fun _ => ?_)
        refine AWP.exit ?_
        refine SQ ?_
        refine DerQ.run (TT 2) ⟨[.sl [(I6 a), (I6 b), (I6 c)] 3 .any, U6, (I6 0), (I6 0), U6, (I6 c), .sl [(I6 a), (I6 b), (I6 c)] 3 .any, (I6 3), (I6 3), (B6 false), .dptr [(I6 c)], (I6 c), (I6 c), (I6 0), (B6 (c != 0)), U6, (I6 3), (I6 0)], []⟩ (by kernel_rfl) (tt 2) ?_
        refine AWP.ret ?_
        refine FI (I6 0) ?_
        refine Shrink.all ?_ rfl
        ((first | refine congrArg B6 ?_ | refine congrArg I6 ?_ | congr 2); unfold or3; (repeat' split) <;> omega)
/-- a mark is ahead -/
def lessP (p s i q t j : Int) : Prop := p < q ∨ p = q ∧ (s < t ∨ s = t ∧ i < j)
instance (p s i q t j : Int) : Decidable (lessP p s i q t j) := by unfold lessP; infer_instance
theorem less_or (p s i q t j : Int) : (or3 (cmpI p q) (cmpI s t) (cmpI i j) < 0) ↔ lessP p s i q t j := by
  unfold or3 cmpI lessP
  (repeat' split) <;> omega
def lessB (p s i q t j : Int) : Bool := decide (lessP p s i q t j)
theorem less (p s i q t j : Int) : EvD Try.prog 19 [.agg [.sc (.int .i64 p), .sc (.int .i64 s), .sc (.int .i64 i)], .agg [.sc (.int .i64 q), .sc (.int .i64 t), .sc (.int .i64 j)]] (.sc (.bool (lessB p s i q t j))) := by
  refine EvD.body Try.func19 rfl rfl rfl ?_
  refine SQ ?_
  refine DerQ.run (TT 3) ⟨[.agg [(I6 p), (I6 s), (I6 i)], .agg [(I6 q), (I6 t), (I6 j)], .ptr 0 0, .ptr 1 0, (B6 false)] ++ UU 22, [⟨[(I6 p), (I6 s), (I6 i)], 3, .fresh⟩, ⟨[(I6 q), (I6 t), (I6 j)], 3, .fresh⟩]⟩ (by kernel_rfl) (tt 3) ?_
  refine AWP.seq ?_
  refine AWP.drawX mixed (fun o => [24, 11, 18, 23, 25].contains (o.dst.getD 0)) (by kernel_rfl) ?_
  refine DerX.quiet (True) (.ptr 0 0) ⟨[.agg [(I6 p), (I6 s), (I6 i)], .agg [(I6 q), (I6 t), (I6 j)], .ptr 0 0, .ptr 1 0, (B6 false), .ptr 0 0] ++ UU 21, [⟨[(I6 p), (I6 s), (I6 i)], 3, .fresh⟩, ⟨[(I6 q), (I6 t), (I6 j)], 3, .fresh⟩]⟩ (by intro ext; kernel_rfl) ⟨by kernel_rfl, by kernel_rfl⟩ trivial ?_
  refine DerX.quiet (True) (.ptr 0 0) ⟨[.agg [(I6 p), (I6 s), (I6 i)], .agg [(I6 q), (I6 t), (I6 j)], .ptr 0 0, .ptr 1 0, (B6 false), .ptr 0 0, .ptr 0 0] ++ UU 20, [⟨[(I6 p), (I6 s), (I6 i)], 3, .fresh⟩, ⟨[(I6 q), (I6 t), (I6 j)], 3, .fresh⟩]⟩ (by intro ext; kernel_rfl) ⟨by kernel_rfl, by kernel_rfl⟩ trivial ?_
  refine DerX.quiet (0 < List.length [(I6 p), (I6 s), (I6 i)]) (I6 p) ⟨[.agg [(I6 p), (I6 s), (I6 i)], .agg [(I6 q), (I6 t), (I6 j)], .ptr 0 0, .ptr 1 0, (B6 false), .ptr 0 0, .ptr 0 0, (I6 p)] ++ UU 19, [⟨[(I6 p), (I6 s), (I6 i)], 3, .fresh⟩, ⟨[(I6 q), (I6 t), (I6 j)], 3, .fresh⟩]⟩ (by intro ext; kernel_rfl) ⟨by kernel_rfl, by kernel_rfl⟩ (by simp) ?_
  refine DerX.quiet (True) (.ptr 1 0) ⟨[.agg [(I6 p), (I6 s), (I6 i)], .agg [(I6 q), (I6 t), (I6 j)], .ptr 0 0, .ptr 1 0, (B6 false), .ptr 0 0, .ptr 0 0, (I6 p), .ptr 1 0] ++ UU 18, [⟨[(I6 p), (I6 s), (I6 i)], 3, .fresh⟩, ⟨[(I6 q), (I6 t), (I6 j)], 3, .fresh⟩]⟩ (by intro ext; kernel_rfl) ⟨by kernel_rfl, by kernel_rfl⟩ trivial ?_
  refine DerX.quiet (True) (.ptr 1 0) ⟨[.agg [(I6 p), (I6 s), (I6 i)], .agg [(I6 q), (I6 t), (I6 j)], .ptr 0 0, .ptr 1 0, (B6 false), .ptr 0 0, .ptr 0 0, (I6 p), .ptr 1 0, .ptr 1 0] ++ UU 17, [⟨[(I6 p), (I6 s), (I6 i)], 3, .fresh⟩, ⟨[(I6 q), (I6 t), (I6 j)], 3, .fresh⟩]⟩ (by intro ext; kernel_rfl) ⟨by kernel_rfl, by kernel_rfl⟩ trivial ?_
  refine DerX.quiet (0 < List.length [(I6 q), (I6 t), (I6 j)]) (I6 q) ⟨[.agg [(I6 p), (I6 s), (I6 i)], .agg [(I6 q), (I6 t), (I6 j)], .ptr 0 0, .ptr 1 0, (B6 false), .ptr 0 0, .ptr 0 0, (I6 p), .ptr 1 0, .ptr 1 0, (I6 q)] ++ UU 16, [⟨[(I6 p), (I6 s), (I6 i)], 3, .fresh⟩, ⟨[(I6 q), (I6 t), (I6 j)], 3, .fresh⟩]⟩ (by intro ext; kernel_rfl) ⟨by kernel_rfl, by kernel_rfl⟩ (by simp) ?_
  refine DerX.callD (compare p q) ⟨[.agg [(I6 p), (I6 s), (I6 i)], .agg [(I6 q), (I6 t), (I6 j)], .ptr 0 0, .ptr 1 0, (B6 false), .ptr 0 0, .ptr 0 0, (I6 p), .ptr 1 0, .ptr 1 0, (I6 q), (I6 (cmpI p q))] ++ UU 15, [⟨[(I6 p), (I6 s), (I6 i)], 3, .fresh⟩, ⟨[(I6 q), (I6 t), (I6 j)], 3, .fresh⟩]⟩ ⟨by kernel_rfl, by kernel_rfl, by kernel_rfl⟩ ?_
  refine DerX.quiet (True) (.ptr 0 0) ⟨[.agg [(I6 p), (I6 s), (I6 i)], .agg [(I6 q), (I6 t), (I6 j)], .ptr 0 0, .ptr 1 0, (B6 false), .ptr 0 0, .ptr 0 0, (I6 p), .ptr 1 0, .ptr 1 0, (I6 q), (I6 (cmpI p q)), .ptr 0 0] ++ UU 14, [⟨[(I6 p), (I6 s), (I6 i)], 3, .fresh⟩, ⟨[(I6 q), (I6 t), (I6 j)], 3, .fresh⟩]⟩ (by intro ext; kernel_rfl) ⟨by kernel_rfl, by kernel_rfl⟩ trivial ?_
  refine DerX.quiet (True) (.ptr 0 1) ⟨[.agg [(I6 p), (I6 s), (I6 i)], .agg [(I6 q), (I6 t), (I6 j)], .ptr 0 0, .ptr 1 0, (B6 false), .ptr 0 0, .ptr 0 0, (I6 p), .ptr 1 0, .ptr 1 0, (I6 q), (I6 (cmpI p q)), .ptr 0 0, .ptr 0 1] ++ UU 13, [⟨[(I6 p), (I6 s), (I6 i)], 3, .fresh⟩, ⟨[(I6 q), (I6 t), (I6 j)], 3, .fresh⟩]⟩ (by intro ext; kernel_rfl) ⟨by kernel_rfl, by kernel_rfl⟩ trivial ?_
  refine DerX.quiet (1 < List.length [(I6 p), (I6 s), (I6 i)]) (I6 s) ⟨[.agg [(I6 p), (I6 s), (I6 i)], .agg [(I6 q), (I6 t), (I6 j)], .ptr 0 0, .ptr 1 0, (B6 false), .ptr 0 0, .ptr 0 0, (I6 p), .ptr 1 0, .ptr 1 0, (I6 q), (I6 (cmpI p q)), .ptr 0 0, .ptr 0 1, (I6 s)] ++ UU 12, [⟨[(I6 p), (I6 s), (I6 i)], 3, .fresh⟩, ⟨[(I6 q), (I6 t), (I6 j)], 3, .fresh⟩]⟩ (by intro ext; kernel_rfl) ⟨by kernel_rfl, by kernel_rfl⟩ (by simp) ?_
  refine DerX.quiet (True) (.ptr 1 0) ⟨[.agg [(I6 p), (I6 s), (I6 i)], .agg [(I6 q), (I6 t), (I6 j)], .ptr 0 0, .ptr 1 0, (B6 false), .ptr 0 0, .ptr 0 0, (I6 p), .ptr 1 0, .ptr 1 0, (I6 q), (I6 (cmpI p q)), .ptr 0 0, .ptr 0 1, (I6 s), .ptr 1 0] ++ UU 11, [⟨[(I6 p), (I6 s), (I6 i)], 3, .fresh⟩, ⟨[(I6 q), (I6 t), (I6 j)], 3, .fresh⟩]⟩ (by intro ext; kernel_rfl) ⟨by kernel_rfl, by kernel_rfl⟩ trivial ?_
  refine DerX.quiet (True) (.ptr 1 1) ⟨[.agg [(I6 p), (I6 s), (I6 i)], .agg [(I6 q), (I6 t), (I6 j)], .ptr 0 0, .ptr 1 0, (B6 false), .ptr 0 0, .ptr 0 0, (I6 p), .ptr 1 0, .ptr 1 0, (I6 q), (I6 (cmpI p q)), .ptr 0 0, .ptr 0 1, (I6 s), .ptr 1 0, .ptr 1 1] ++ UU 10, [⟨[(I6 p), (I6 s), (I6 i)], 3, .fresh⟩, ⟨[(I6 q), (I6 t), (I6 j)], 3, .fresh⟩]⟩ (by intro ext; kernel_rfl) ⟨by kernel_rfl, by kernel_rfl⟩ trivial ?_
  refine DerX.quiet (1 < List.length [(I6 q), (I6 t), (I6 j)]) (I6 t) ⟨[.agg [(I6 p), (I6 s), (I6 i)], .agg [(I6 q), (I6 t), (I6 j)], .ptr 0 0, .ptr 1 0, (B6 false), .ptr 0 0, .ptr 0 0, (I6 p), .ptr 1 0, .ptr 1 0, (I6 q), (I6 (cmpI p q)), .ptr 0 0, .ptr 0 1, (I6 s), .ptr 1 0, .ptr 1 1, (I6 t)] ++ UU 9, [⟨[(I6 p), (I6 s), (I6 i)], 3, .fresh⟩, ⟨[(I6 q), (I6 t), (I6 j)], 3, .fresh⟩]⟩ (by intro ext; kernel_rfl) ⟨by kernel_rfl, by kernel_rfl⟩ (by simp) ?_
  refine DerX.callD (compare s t) ⟨[.agg [(I6 p), (I6 s), (I6 i)], .agg [(I6 q), (I6 t), (I6 j)], .ptr 0 0, .ptr 1 0, (B6 false), .ptr 0 0, .ptr 0 0, (I6 p), .ptr 1 0, .ptr 1 0, (I6 q), (I6 (cmpI p q)), .ptr 0 0, .ptr 0 1, (I6 s), .ptr 1 0, .ptr 1 1, (I6 t), (I6 (cmpI s t))] ++ UU 8, [⟨[(I6 p), (I6 s), (I6 i)], 3, .fresh⟩, ⟨[(I6 q), (I6 t), (I6 j)], 3, .fresh⟩]⟩ ⟨by kernel_rfl, by kernel_rfl, by kernel_rfl⟩ ?_
  refine DerX.quiet (True) (.ptr 0 2) ⟨[.agg [(I6 p), (I6 s), (I6 i)], .agg [(I6 q), (I6 t), (I6 j)], .ptr 0 0, .ptr 1 0, (B6 false), .ptr 0 0, .ptr 0 0, (I6 p), .ptr 1 0, .ptr 1 0, (I6 q), (I6 (cmpI p q)), .ptr 0 0, .ptr 0 1, (I6 s), .ptr 1 0, .ptr 1 1, (I6 t), (I6 (cmpI s t)), .ptr 0 2] ++ UU 7, [⟨[(I6 p), (I6 s), (I6 i)], 3, .fresh⟩, ⟨[(I6 q), (I6 t), (I6 j)], 3, .fresh⟩]⟩ (by intro ext; kernel_rfl) ⟨by kernel_rfl, by kernel_rfl⟩ trivial ?_
  refine DerX.quiet (2 < List.length [(I6 p), (I6 s), (I6 i)]) (I6 i) ⟨[.agg [(I6 p), (I6 s), (I6 i)], .agg [(I6 q), (I6 t), (I6 j)], .ptr 0 0, .ptr 1 0, (B6 false), .ptr 0 0, .ptr 0 0, (I6 p), .ptr 1 0, .ptr 1 0, (I6 q), (I6 (cmpI p q)), .ptr 0 0, .ptr 0 1, (I6 s), .ptr 1 0, .ptr 1 1, (I6 t), (I6 (cmpI s t)), .ptr 0 2, (I6 i)] ++ UU 6, [⟨[(I6 p), (I6 s), (I6 i)], 3, .fresh⟩, ⟨[(I6 q), (I6 t), (I6 j)], 3, .fresh⟩]⟩ (by intro ext; kernel_rfl) ⟨by kernel_rfl, by kernel_rfl⟩ (by simp) ?_
  refine DerX.quiet (True) (.ptr 1 2) ⟨[.agg [(I6 p), (I6 s), (I6 i)], .agg [(I6 q), (I6 t), (I6 j)], .ptr 0 0, .ptr 1 0, (B6 false), .ptr 0 0, .ptr 0 0, (I6 p), .ptr 1 0, .ptr 1 0, (I6 q), (I6 (cmpI p q)), .ptr 0 0, .ptr 0 1, (I6 s), .ptr 1 0, .ptr 1 1, (I6 t), (I6 (cmpI s t)), .ptr 0 2, (I6 i), .ptr 1 2] ++ UU 5, [⟨[(I6 p), (I6 s), (I6 i)], 3, .fresh⟩, ⟨[(I6 q), (I6 t), (I6 j)], 3, .fresh⟩]⟩ (by intro ext; kernel_rfl) ⟨by kernel_rfl, by kernel_rfl⟩ trivial ?_
  refine DerX.quiet (2 < List.length [(I6 q), (I6 t), (I6 j)]) (I6 j) ⟨[.agg [(I6 p), (I6 s), (I6 i)], .agg [(I6 q), (I6 t), (I6 j)], .ptr 0 0, .ptr 1 0, (B6 false), .ptr 0 0, .ptr 0 0, (I6 p), .ptr 1 0, .ptr 1 0, (I6 q), (I6 (cmpI p q)), .ptr 0 0, .ptr 0 1, (I6 s), .ptr 1 0, .ptr 1 1, (I6 t), (I6 (cmpI s t)), .ptr 0 2, (I6 i), .ptr 1 2, (I6 j), U6, U6, U6, .undef], [⟨[(I6 p), (I6 s), (I6 i)], 3, .fresh⟩, ⟨[(I6 q), (I6 t), (I6 j)], 3, .fresh⟩]⟩ (by intro ext; kernel_rfl) ⟨by kernel_rfl, by kernel_rfl⟩ (by simp) ?_
  refine DerX.callD (compare i j) ⟨[.agg [(I6 p), (I6 s), (I6 i)], .agg [(I6 q), (I6 t), (I6 j)], .ptr 0 0, .ptr 1 0, (B6 false), .ptr 0 0, .ptr 0 0, (I6 p), .ptr 1 0, .ptr 1 0, (I6 q), (I6 (cmpI p q)), .ptr 0 0, .ptr 0 1, (I6 s), .ptr 1 0, .ptr 1 1, (I6 t), (I6 (cmpI s t)), .ptr 0 2, (I6 i), .ptr 1 2, (I6 j), (I6 (cmpI i j)), U6, U6, .undef], [⟨[(I6 p), (I6 s), (I6 i)], 3, .fresh⟩, ⟨[(I6 q), (I6 t), (I6 j)], 3, .fresh⟩]⟩ ⟨by kernel_rfl, by kernel_rfl, by kernel_rfl⟩ ?_
  refine DerX.quiet (True) (.sl [(I6 (cmpI p q)), (I6 (cmpI s t)), (I6 (cmpI i j))] 3 .nn) ⟨[.agg [(I6 p), (I6 s), (I6 i)], .agg [(I6 q), (I6 t), (I6 j)], .ptr 0 0, .ptr 1 0, (B6 false), .ptr 0 0, .ptr 0 0, (I6 p), .ptr 1 0, .ptr 1 0, (I6 q), (I6 (cmpI p q)), .ptr 0 0, .ptr 0 1, (I6 s), .ptr 1 0, .ptr 1 1, (I6 t), (I6 (cmpI s t)), .ptr 0 2, (I6 i), .ptr 1 2, (I6 j), (I6 (cmpI i j)), .sl [(I6 (cmpI p q)), (I6 (cmpI s t)), (I6 (cmpI i j))] 3 .nn, U6, .undef], [⟨[(I6 p), (I6 s), (I6 i)], 3, .fresh⟩, ⟨[(I6 q), (I6 t), (I6 j)], 3, .fresh⟩]⟩ (by intro ext; kernel_rfl) ⟨by kernel_rfl, by kernel_rfl⟩ trivial ?_
  refine DerX.callE (or_3 (cmpI p q) (cmpI s t) (cmpI i j)) [.sl [(I6 (cmpI p q)), (I6 (cmpI s t)), (I6 (cmpI i j))] 3 .nn] ⟨[.agg [(I6 p), (I6 s), (I6 i)], .agg [(I6 q), (I6 t), (I6 j)], .ptr 0 0, .ptr 1 0, (B6 false), .ptr 0 0, .ptr 0 0, (I6 p), .ptr 1 0, .ptr 1 0, (I6 q), (I6 (cmpI p q)), .ptr 0 0, .ptr 0 1, (I6 s), .ptr 1 0, .ptr 1 1, (I6 t), (I6 (cmpI s t)), .ptr 0 2, (I6 i), .ptr 1 2, (I6 j), (I6 (cmpI i j)), .sl [(I6 (cmpI p q)), (I6 (cmpI s t)), (I6 (cmpI i j))] 3 .nn, (I6 (or3 (cmpI p q) (cmpI s t) (cmpI i j))), .undef], [⟨[(I6 p), (I6 s), (I6 i)], 3, .fresh⟩, ⟨[(I6 q), (I6 t), (I6 j)], 3, .fresh⟩]⟩ ⟨by kernel_rfl, by kernel_rfl, by kernel_rfl, by kernel_rfl⟩ ?_
  refine DerX.quiet (True) (B6 (decide (or3 (cmpI p q) (cmpI s t) (cmpI i j) < 0))) ⟨[.agg [(I6 p), (I6 s), (I6 i)], .agg [(I6 q), (I6 t), (I6 j)], .ptr 0 0, .ptr 1 0, (B6 false), .ptr 0 0, .ptr 0 0, (I6 p), .ptr 1 0, .ptr 1 0, (I6 q), (I6 (cmpI p q)), .ptr 0 0, .ptr 0 1, (I6 s), .ptr 1 0, .ptr 1 1, (I6 t), (I6 (cmpI s t)), .ptr 0 2, (I6 i), .ptr 1 2, (I6 j), (I6 (cmpI i j)), .sl [(I6 (cmpI p q)), (I6 (cmpI s t)), (I6 (cmpI i j))] 3 .nn, (I6 (or3 (cmpI p q) (cmpI s t) (cmpI i j))), (B6 (decide (or3 (cmpI p q) (cmpI s t) (cmpI i j) < 0)))], [⟨[(I6 p), (I6 s), (I6 i)], 3, .fresh⟩, ⟨[(I6 q), (I6 t), (I6 j)], 3, .fresh⟩]⟩ (by intro ext; kernel_rfl) ⟨by kernel_rfl, by kernel_rfl⟩ trivial ?_
  refine DerX.quiet (True) (B6 (decide (or3 (cmpI p q) (cmpI s t) (cmpI i j) < 0))) ⟨[.agg [(I6 p), (I6 s), (I6 i)], .agg [(I6 q), (I6 t), (I6 j)], .ptr 0 0, .ptr 1 0, (B6 (decide (or3 (cmpI p q) (cmpI s t) (cmpI i j) < 0))), .ptr 0 0, .ptr 0 0, (I6 p), .ptr 1 0, .ptr 1 0, (I6 q), (I6 (cmpI p q)), .ptr 0 0, .ptr 0 1, (I6 s), .ptr 1 0, .ptr 1 1, (I6 t), (I6 (cmpI s t)), .ptr 0 2, (I6 i), .ptr 1 2, (I6 j), (I6 (cmpI i j)), .sl [(I6 (cmpI p q)), (I6 (cmpI s t)), (I6 (cmpI i j))] 3 .nn, (I6 (or3 (cmpI p q) (cmpI s t) (cmpI i j))), (B6 (decide (or3 (cmpI p q) (cmpI s t) (cmpI i j) < 0)))], [⟨[(I6 p), (I6 s), (I6 i)], 3, .fresh⟩, ⟨[(I6 q), (I6 t), (I6 j)], 3, .fresh⟩]⟩ (by intro ext; kernel_rfl) ⟨by kernel_rfl, by kernel_rfl⟩ trivial ?_
  refine DerX.nil ?_
  refine AWP.ret ?_
  refine FI (B6 (decide (or3 (cmpI p q) (cmpI s t) (cmpI i j) < 0))) ?_
  refine Shrink.all ?_ rfl
  (rw [lessB, decide_eq_decide.2 (less_or ..)])
theorem r_less (p s i q t j : Int) : EvD Try.prog 28 [.agg [.sc (.int .i64 p), .sc (.int .i64 s), .sc (.int .i64 i)], .agg [.sc (.int .i64 q), .sc (.int .i64 t), .sc (.int .i64 j)]] (.sc (.bool (lessB p s i q t j))) := by
  refine EvD.body Try.func28 rfl rfl rfl ?_
  refine SQ ?_
  refine DerQ.run (TT 3) ⟨[.agg [(I6 p), (I6 s), (I6 i)], .agg [(I6 q), (I6 t), (I6 j)], .ptr 0 0, .ptr 1 0, (B6 false)] ++ UU 33, [⟨[(I6 p), (I6 s), (I6 i)], 3, .fresh⟩, ⟨[(I6 q), (I6 t), (I6 j)], 3, .fresh⟩]⟩ (by kernel_rfl) (tt 3) ?_
  refine AWP.seq (SQ ?_)
  refine DerQ.run (True ∧ True ∧ (0 < List.length [(I6 p), (I6 s), (I6 i)]) ∧ True ∧ True ∧ (0 < List.length [(I6 q), (I6 t), (I6 j)]) ∧ True ∧ True) ⟨[.agg [(I6 p), (I6 s), (I6 i)], .agg [(I6 q), (I6 t), (I6 j)], .ptr 0 0, .ptr 1 0, (B6 false), .ptr 0 0, .ptr 0 0, (I6 p), .ptr 1 0, .ptr 1 0, (I6 q), (B6 (p != q))] ++ UU 26, [⟨[(I6 p), (I6 s), (I6 i)], 3, .fresh⟩, ⟨[(I6 q), (I6 t), (I6 j)], 3, .fresh⟩]⟩ (by kernel_rfl) ⟨trivial, trivial, (by simp), trivial, trivial, (by simp), trivial, trivial⟩ ?_
  refine CN (p != q) (fun h1 => ?_) (fun h1 => ?_)
  · have h1' := bne_iff_ne.1 h1
    refine SQ ?_
    refine DerQ.run (True ∧ True ∧ (0 < List.length [(I6 p), (I6 s), (I6 i)]) ∧ True ∧ True ∧ (0 < List.length [(I6 q), (I6 t), (I6 j)]) ∧ True ∧ True ∧ True) ⟨[.agg [(I6 p), (I6 s), (I6 i)], .agg [(I6 q), (I6 t), (I6 j)], .ptr 0 0, .ptr 1 0, (B6 (decide (p < q))), .ptr 0 0, .ptr 0 0, (I6 p), .ptr 1 0, .ptr 1 0, (I6 q), (B6 (p != q)), .ptr 0 0, .ptr 0 0, (I6 p), .ptr 1 0, .ptr 1 0, (I6 q), (B6 (decide (p < q)))] ++ UU 19, [⟨[(I6 p), (I6 s), (I6 i)], 3, .fresh⟩, ⟨[(I6 q), (I6 t), (I6 j)], 3, .fresh⟩]⟩ (by kernel_rfl) ⟨trivial, trivial, (by simp), trivial, trivial, (by simp), trivial, trivial, trivial⟩ ?_
    refine AWP.ret ?_
    refine FI (B6 (decide (p < q))) ?_
    refine Shrink.all ?_ rfl
    ((first | refine congrArg B6 ?_ | refine congrArg I6 ?_ | congr 2); refine decide_eq_decide.2 ?_; unfold lessP; omega)
  · have h1' := bne_eq_false_iff_eq.1 h1
    refine AWP.skip (AWP.seq (SQ ?_))
    refine DerQ.run (True ∧ True ∧ (1 < List.length [(I6 p), (I6 s), (I6 i)]) ∧ True ∧ True ∧ (1 < List.length [(I6 q), (I6 t), (I6 j)]) ∧ True ∧ True) ⟨[.agg [(I6 p), (I6 s), (I6 i)], .agg [(I6 q), (I6 t), (I6 j)], .ptr 0 0, .ptr 1 0, (B6 false), .ptr 0 0, .ptr 0 0, (I6 p), .ptr 1 0, .ptr 1 0, (I6 q), (B6 (p != q))] ++ UU 7 ++ [.ptr 0 0, .ptr 0 1, (I6 s), .ptr 1 0, .ptr 1 1, (I6 t), (B6 (s != t))] ++ UU 12, [⟨[(I6 p), (I6 s), (I6 i)], 3, .fresh⟩, ⟨[(I6 q), (I6 t), (I6 j)], 3, .fresh⟩]⟩ (by kernel_rfl) ⟨trivial, trivial, (by simp), trivial, trivial, (by simp), trivial, trivial⟩ ?_
    refine CN (s != t) (fun h2 => ?_) (fun h2 => ?_)
    · have h2' := bne_iff_ne.1 h2
      refine SQ ?_
      refine DerQ.run (True ∧ True ∧ (1 < List.length [(I6 p), (I6 s), (I6 i)]) ∧ True ∧ True ∧ (1 < List.length [(I6 q), (I6 t), (I6 j)]) ∧ True ∧ True ∧ True) ⟨[.agg [(I6 p), (I6 s), (I6 i)], .agg [(I6 q), (I6 t), (I6 j)], .ptr 0 0, .ptr 1 0, (B6 (decide (s < t))), .ptr 0 0, .ptr 0 0, (I6 p), .ptr 1 0, .ptr 1 0, (I6 q), (B6 (p != q))] ++ UU 7 ++ [.ptr 0 0, .ptr 0 1, (I6 s), .ptr 1 0, .ptr 1 1, (I6 t), (B6 (s != t)), .ptr 0 0, .ptr 0 1, (I6 s), .ptr 1 0, .ptr 1 1, (I6 t), (B6 (decide (s < t)))] ++ UU 5, [⟨[(I6 p), (I6 s), (I6 i)], 3, .fresh⟩, ⟨[(I6 q), (I6 t), (I6 j)], 3, .fresh⟩]⟩ (by kernel_rfl) ⟨trivial, trivial, (by simp), trivial, trivial, (by simp), trivial, trivial, trivial⟩ ?_
      refine AWP.ret ?_
      refine FI (B6 (decide (s < t))) ?_
      refine Shrink.all ?_ rfl
      ((first | refine congrArg B6 ?_ | refine congrArg I6 ?_ | congr 2); refine decide_eq_decide.2 ?_; unfold lessP; omega)
    · have h2' := bne_eq_false_iff_eq.1 h2
      refine AWP.skip (SQ ?_)
      refine DerQ.run (True ∧ (2 < List.length [(I6 p), (I6 s), (I6 i)]) ∧ True ∧ (2 < List.length [(I6 q), (I6 t), (I6 j)]) ∧ True ∧ True ∧ True) ⟨[.agg [(I6 p), (I6 s), (I6 i)], .agg [(I6 q), (I6 t), (I6 j)], .ptr 0 0, .ptr 1 0, (B6 (decide (i < j))), .ptr 0 0, .ptr 0 0, (I6 p), .ptr 1 0, .ptr 1 0, (I6 q), (B6 (p != q))] ++ UU 7 ++ [.ptr 0 0, .ptr 0 1, (I6 s), .ptr 1 0, .ptr 1 1, (I6 t), (B6 (s != t))] ++ UU 7 ++ [.ptr 0 2, (I6 i), .ptr 1 2, (I6 j), (B6 (decide (i < j)))], [⟨[(I6 p), (I6 s), (I6 i)], 3, .fresh⟩, ⟨[(I6 q), (I6 t), (I6 j)], 3, .fresh⟩]⟩ (by kernel_rfl) ⟨trivial, (by simp), trivial, (by simp), trivial, trivial, trivial⟩ ?_
      refine AWP.ret ?_
      refine FI (B6 (decide (i < j))) ?_
      refine Shrink.all ?_ rfl
      ((first | refine congrArg B6 ?_ | refine congrArg I6 ?_ | congr 2); refine decide_eq_decide.2 ?_; unfold lessP; omega)
end Go.Ops
