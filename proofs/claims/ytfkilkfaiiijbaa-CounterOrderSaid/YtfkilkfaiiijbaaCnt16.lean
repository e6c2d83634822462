/- Walks and laws. -/
import Derived.Test.YtfkilkfaiiijbaaCnt15
import Derived.Test.YtfkilkfaiiijbaaLibB
set_option maxRecDepth 100000
set_option maxHeartbeats 0
set_option linter.unusedSimpArgs false
set_option linter.unusedVariables false
namespace Go.Cnt
open Go Go.Abs Go.Proofs Go.Ops
theorem dec_f {P : Program} {f : FuncId} {args : List AVal} {p : Prop} [Decidable p] (h : EvD P f args (.sc (.bool (decide p)))) (hp : ¬ p) : EvD P f args (.sc (.bool false)) := by
  rwa [decide_eq_false hp] at h
theorem r_same1 (k1 b1 k2 b2 : Int) (a1 a2 : List AmtD) (n1 n2 : Nat) (w1 m1 e1 w2 m2 e2 : List AVal) (p1 q1 s1 p2 q2 s2 : Nat) (hw1 : dataAll w1 = true) (hm1 : dataAll m1 = true) (he1 : dataAll e1 = true) (hw2 : dataAll w2 = true) (hm2 : dataAll m2 = true) (he2 : dataAll e2 = true) (hx : a1.length ≤ 1000)
    (hz : p1 = 0 ∧ q1 = 0 ∧ s1 = 0 ∧ p2 = 0 ∧ q2 = 0 ∧ s2 = 0) (hn1 : n1 = a1.length) (hn2 : n2 = a2.length) :
    EvD Try.prog 36 [.agg [.sc (.int .i64 k1), .sc (.int .i64 b1), .sl (amsc a1) n1 .any, .sl w1 p1 .any, .sl m1 q1 .any, .sl e1 s1 .any], .agg [.sc (.int .i64 k2), .sc (.int .i64 b2), .sl (amsc a2) n2 .any, .sl w2 p2 .any, .sl m2 q2 .any, .sl e2 s2 .any]] (.sc (.bool (decide (k1 = k2 ∧ b1 = b2 ∧ a1 = a2)))) := by
  obtain ⟨rfl, rfl, rfl, rfl, rfl, rfl⟩ := hz
  subst hn1; subst hn2
  exact r_same0 k1 b1 k2 b2 a1 a2 w1 m1 e1 w2 m2 e2 hw1 hm1 he1 hw2 hm2 he2 hx
end Go.Cnt
