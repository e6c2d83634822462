/- Walks and laws. -/
import Derived.Test.YtikllaiggklljaaRc0
import Derived.Test.YtikllaiggklljaaLibB
import Derived.HandedShaped
import Derived.Test.YtikllaiggklljaaProg
set_option maxRecDepth 100000
set_option maxHeartbeats 0
set_option linter.unusedSimpArgs false
set_option linter.unusedVariables false
namespace Go.Rec
open Go Go.Abs Go.Proofs Go.Chu
theorem flat1 {α : Type} (f : α → AVal) (l : List α) : l.flatMap (fun x => [f x]) = l.map f := by
  induction l with
  | nil => rfl
  | cons a l ih => rw [List.flatMap_cons, ih]; rfl
theorem bytes_of {xs : List AVal} (h : HasT Try.prog 23 xs) : ∃ l : List Int, Bts l ∧ xs = [.sl (u8s l) l.length .any] := by
  obtain ⟨ys, n, rfl, h1, _, h2⟩ := HasT.slice_inv Try.underlying23 h
  have hc : Try.prog.cellsOf 5 = 1 := by kernel_rfl
  rw [hc] at h1 h2
  obtain ⟨l, h3, h4, h5⟩ := items_of (fun x : Int => [AVal.sc (.int .u8 x)]) (fun x => 0 ≤ x ∧ x < 256) 1 n ys h1 (fun i hi => by
    obtain ⟨a, hw, ha⟩ := HasT.int_inv Try.underlying5 (h2 i hi)
    exact ⟨a, wf_u8 hw, ha⟩)
  subst h3
  refine ⟨l, fun x hx => h4 x hx, ?_⟩
  rw [h5, flat1]
theorem lists_of {y : AVal} (h : HasT Try.prog 22 [y]) : ∃ l : List (List Int), (∀ x ∈ l, Bts x) ∧ y = .sl (bss l) l.length .any := by
  obtain ⟨ys, n, h0, h1, _, h2⟩ := HasT.slice_inv Try.underlying22 h
  have hc : Try.prog.cellsOf 23 = 1 := by kernel_rfl
  rw [hc] at h1 h2
  obtain ⟨l, h3, h4, h5⟩ := items_of (fun x : List Int => [AVal.sl (u8s x) x.length .any]) (fun x => Bts x) 1 n ys h1 (fun i hi => by
    obtain ⟨a, hw, ha⟩ := bytes_of (h2 i hi)
    exact ⟨a, hw, ha⟩)
  subst h3
  injection h0 with h0
  exact ⟨l, h4, by rw [h0, h5, flat1]⟩
theorem tys : okTys Try.prog [3, 5, 22, 23] = true := by kernel_rfl
end Go.Rec
