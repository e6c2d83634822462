/- Library: an abstract machine over the model, part 33. -/
import Derived.Test.YtmcjdeiicbgmhabAbs32
set_option linter.unusedVariables false
namespace Go.Abs
open Go
/-- What is made anew, and is data, is data. -/
theorem EvA.toD {P : Program} {f : FuncId} {args : List AVal} {r : Nat → AVal} {ext : Nat → List Row} (h : EvA P f args r ext) (hd : dataAll args = true) {r' : AVal}
    (hs : Shrink 0 (ext 0) (r 0) [] r') (hr : r'.data = true) : EvD P f args r' := by
  refine EvD.of hd hr ?_
  have h1 := h []
  simp at h1
  exact EvF.shrink h1 hs
/-- One row. -/
theorem EvA.toSl {P : Program} {f : FuncId} {args : List AVal} {xs : List Int} {n : Nat} {st : RowSt} (h : EvA P f args (fun k => .row k 0 n) (fun _ => [⟨u8s xs, 1, st⟩])) (hs : st = .fresh ∨ st = .grown) (hn : n = xs.length) (hd : dataAll args = true) :
    EvD P f args (.sl (u8s xs) n .any) := by
  refine h.toD hd ?_ rfl
  rcases hs with rfl | rfl
  · refine Shrink.dataK [0] (dataAll (u8s xs) = true ∧ True) (.sl ((u8s xs).drop 0 |>.take (n * 1)) n .any) (by kernel_rfl) ⟨dataAll_u8s _, trivial⟩ ?_ rfl
    simp only [AVal.anyA]; rw [hn, List.drop_zero, Nat.mul_one, List.take_of_length_le (by simp)]
  · refine Shrink.dataK [0] (dataAll (u8s xs) = true ∧ True) (.sl ((u8s xs).drop 0 |>.take (n * 1)) n .any) (by kernel_rfl) ⟨dataAll_u8s _, trivial⟩ ?_ rfl
    simp only [AVal.anyA]; rw [hn, List.drop_zero, Nat.mul_one, List.take_of_length_le (by simp)]
theorem Bts.of_all (xs : List Int) (h : xs.all (fun x => decide (0 ≤ x) && decide (x < 256)) = true) : Bts xs := by
  intro x hx
  have := List.all_eq_true.1 h x hx
  simpa using this
end Go.Abs
