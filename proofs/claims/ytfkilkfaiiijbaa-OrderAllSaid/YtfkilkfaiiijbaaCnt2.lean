/- Walks and laws. -/
import Derived.Test.YtfkilkfaiiijbaaCnt1
import Derived.Test.YtfkilkfaiiijbaaLibC
set_option maxRecDepth 100000
set_option maxHeartbeats 0
set_option linter.unusedSimpArgs false
set_option linter.unusedVariables false
namespace Go.Cnt
open Go Go.Abs Go.Proofs Go.Ops
theorem contains (l : List AmtD) (hx : l.length ≤ 1000) : EvD Try.prog 74 [.sl (amsc l) l.length .any, .fn 73 []] (.sc (.bool (decide (0 ≤ idxA l 0)))) := by
  refine EvD.body Try.func74 rfl rfl rfl ?_
  refine SQ ?_
  refine DerQ.run (True ∧ True) ⟨[.sl (amsc l) (l.length) .any, .fn 73 [], U6, U6, (B6 false), U6, U6, U6, .undef], []⟩ (by kernel_rfl) ⟨trivial, trivial⟩ ?_
  refine SQ ?_
  refine DerQ.pre 2 (TT 2) ⟨[.sl (amsc l) (l.length) .any, .fn 73 [], U6, U6, (B6 false), .sl (amsc l) (l.length) .any, .fn 73 [], U6, .undef], []⟩ (by kernel_rfl) (tt 2) ?_
  refine DerQ.callD (index l (by omega)) ⟨[.sl (amsc l) (l.length) .any, .fn 73 [], U6, U6, (B6 false), .sl (amsc l) (l.length) .any, .fn 73 [], (I6 (idxA l 0)), .undef], []⟩ ⟨by kernel_rfl, by kernel_rfl, by kernel_rfl⟩ ?_
  refine DerQ.run (TT 2) ⟨[.sl (amsc l) (l.length) .any, .fn 73 [], U6, U6, (B6 (decide (idxA l 0 ≥ 0))), .sl (amsc l) (l.length) .any, .fn 73 [], (I6 (idxA l 0)), (B6 (decide (idxA l 0 ≥ 0)))], []⟩ (by kernel_rfl) (tt 2) ?_
  refine AWP.ret FA
def chkP (kind base : Int) (am : List AmtD) (w m e : Nat) : Prop := kind = 1 ∧ w = 0 ∧ m = 0 ∧ e = 0 ∧ (-1152921504606846976 ≤ base ∧ base ≤ 1152921504606846976) ∧ ¬ (0 ≤ idxA am 0) ∧ upP am
instance (kind base : Int) (am : List AmtD) (w m e : Nat) : Decidable (chkP kind base am w m e) := by unfold chkP; infer_instance
end Go.Cnt
