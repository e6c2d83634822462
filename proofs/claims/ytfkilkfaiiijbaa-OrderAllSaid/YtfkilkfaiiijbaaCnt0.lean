/- Walks and laws. -/
import Derived.Test.YtfkilkfaiiijbaaOpsT
set_option linter.unusedSimpArgs false
set_option linter.unusedVariables false
namespace Go.Cnt
open Go Go.Abs Go.Ops
structure AmtD where
  p : Int
  s : Int
  i : Int
  n : Int
  deriving DecidableEq
def amc (a : AmtD) : List AVal := [.sc (.int .i64 a.p), .sc (.int .i64 a.s), .sc (.int .i64 a.i), .sc (.int .i64 a.n)]
def amsc (l : List AmtD) : List AVal := l.flatMap amc
@[simp] theorem amsc_length (l : List AmtD) : (amsc l).length = l.length * 4 := by
  induction l with
  | nil => rfl
  | cons o l ih => simp [amsc, amc] at ih ⊢; omega
@[simp] theorem amsc_data (l : List AmtD) : dataAll (amsc l) = true := by
  induction l with
  | nil => rfl
  | cons o l ih => rw [amsc, List.flatMap_cons, dataAll_append]; exact ih
abbrev CA (k b : Int) (a : List AmtD) (x : List AVal) (p : Nat) (y : List AVal) (q : Nat) (z : List AVal) (r : Nat) : List AVal := [.sc (.int .i64 k), .sc (.int .i64 b), .sl (amsc a) (List.length a) .any, .sl x p .any, .sl y q .any, .sl z r .any]
def am0 : AmtD := ⟨0, 0, 0, 0⟩
theorem amsc_at (l : List AmtD) (i : Nat) (h : i < l.length) : List.take 4 (List.drop (i * 4) (amsc l)) = amc (l.getD i am0) := by
  induction l generalizing i with
  | nil => simp at h
  | cons o l ih =>
    cases i with
    | zero => rfl
    | succ i =>
      have e : (i + 1) * 4 = 4 + i * 4 := by omega
      rw [amsc, List.flatMap_cons, e, ← List.drop_drop]
      have : List.drop 4 (amc o ++ l.flatMap amc) = l.flatMap amc := List.drop_left' rfl
      rw [this, List.getD_cons_succ]
      exact ih i (by simpa using h)
theorem amsc_cells (l : List AmtD) (i : Nat) (h : i < l.length) : [List.getD (amsc l) (i * 4) .undef, List.getD (amsc l) (i * 4 + 1) .undef, List.getD (amsc l) (i * 4 + 2) .undef, List.getD (amsc l) (i * 4 + 3) .undef] = amc (l.getD i am0) := by
  have e0 : List.getD (amsc l) (i * 4) .undef = List.getD (amsc l) (i * 4 + 0) .undef := rfl
  rw [e0, getD_seg _ _ 4 0 (by omega), getD_seg _ _ 4 1 (by omega), getD_seg _ _ 4 2 (by omega), getD_seg _ _ 4 3 (by omega), amsc_at l i h]
  rfl
end Go.Cnt
