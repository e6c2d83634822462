/- Library: an abstract machine over the model, part 28. -/
import Derived.Test.YtmcjdeiicbgmhabAbs27
set_option linter.unusedVariables false
set_option linter.unusedSimpArgs false
namespace Go.Abs
open Go
/-- At most so many rounds. -/
def AWP.rounds (P : Program) (N : Nat) (c : Code) (Q : Exit → St → Prop) : Nat → St → Prop
  | 0 => fun _ => False
  | n + 1 => fun st => AWP P N c (thenQ (AWP.rounds P N c Q n) Q) st
theorem AWP.turn {P : Program} {N : Nat} {c : Code} {Q : Exit → St → Prop} {n : Nat} {st : St} (h : AWP P N c (thenQ (AWP.rounds P N c Q n) Q) st) : AWP.rounds P N c Q (n + 1) st := h
theorem AWP.loopN {P : Program} {N : Nat} {c : Code} {Q : Exit → St → Prop} {st : St} (n : Nat) (h : AWP.rounds P N c Q n st) : AWP P N (.loop c) Q st := by
  refine AWP.loop (fun k s => AWP.rounds P N c Q k s) n h ?_
  intro k s hk
  cases k with
  | zero => exact hk.elim
  | succ k =>
    refine AWP.mono hk ?_
    intro e s' hq
    cases e with
    | normal => exact ⟨k, Nat.lt_succ_self k, hq⟩
    | exit id => exact hq
    | goto l => exact hq
    | ret => exact hq
    | panic ch => exact hq
    | outgrown => exact hq
end Go.Abs
namespace Go.Abs
open Go
theorem wf_i64 {n : Int} (h : (Lit.int .i64 n).wf = true) : -9223372036854775808 ≤ n ∧ n ≤ 9223372036854775807 := by
  simp only [Lit.wf, Bool.and_eq_true, decide_eq_true_eq] at h
  have e1 : IntKind.i64.min = -9223372036854775808 := by decide
  have e2 : IntKind.i64.max = 9223372036854775807 := by decide
  rw [e1, e2] at h; exact h
theorem wf_u8 {n : Int} (h : (Lit.int .u8 n).wf = true) : 0 ≤ n ∧ n < 256 := by
  simp only [Lit.wf, Bool.and_eq_true, decide_eq_true_eq] at h
  have e1 : IntKind.u8.min = 0 := by decide
  have e2 : IntKind.u8.max = 255 := by decide
  rw [e1, e2] at h; omega
theorem wf_u32 {n : Int} (h : (Lit.int .u32 n).wf = true) : 0 ≤ n ∧ n < 4294967296 := by
  simp only [Lit.wf, Bool.and_eq_true, decide_eq_true_eq] at h
  have e1 : IntKind.u32.min = 0 := by decide
  have e2 : IntKind.u32.max = 4294967295 := by decide
  rw [e1, e2] at h; omega
end Go.Abs
namespace Go.Abs
open Go
theorem u8s_splice (xs : List Int) (i : Nat) (v : Int) (h : i < xs.length) : spliceA (u8s xs) i [.sc (.int .u8 v)] = u8s (xs.set i v) := by
  simp only [spliceA]
  apply List.ext_getElem
  · simp
  · intro j h1 h2
    simp [List.getElem_set]
end Go.Abs
