/- Library: an abstract machine over the model, part 31. -/
import Derived.Test.YtmcjdeiicbgmhabAbs30
import Derived.Scope
set_option linter.unusedVariables false
namespace Go.Abs
open Go
def noGotoQ (Q : Exit → St → Prop) : Exit → St → Prop
  | .goto _, _ => False
  | e, st => Q e st
/-- A scope in which nobody jumps. -/
theorem AWP.scope {P : Program} {N : Nat} {c : Code} {Q : Exit → St → Prop} {st : St} (h : AWP P N c (noGotoQ Q) st) : AWP P N (.scope c) Q st := by
  intro hN X m w a hr
  refine wp_scope_straight (wp_mono (h hN X m w a hr) ?_)
  rintro e a' w' ⟨s, m', h1, h2, h3, h4⟩
  cases e with
  | goto l => exact h1.elim
  | normal => exact ⟨s, m', h1, h2, h3, h4⟩
  | exit id => exact ⟨s, m', h1, h2, h3, h4⟩
  | ret => exact ⟨s, m', h1, h2, h3, h4⟩
  | panic ch => exact ⟨s, m', h1, h2, h3, h4⟩
  | outgrown => exact ⟨s, m', h1, h2, h3, h4⟩
end Go.Abs
