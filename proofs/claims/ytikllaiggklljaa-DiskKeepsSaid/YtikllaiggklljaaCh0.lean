/- Walks and laws. -/
import Derived.Test.YtikllaiggklljaaLibC
set_option linter.unusedSimpArgs false
set_option linter.unusedVariables false
namespace Go.Chu
open Go Go.Abs
/-- lists of bytes -/
abbrev bs1 (x : List Int) : AVal := .sl (u8s x) x.length .any
abbrev bss (l : List (List Int)) : List AVal := l.map fun x => .sl (u8s x) x.length .any
theorem bss_getD (l : List (List Int)) (i : Nat) (h : i < l.length) : (bss l).getD i .undef = .sl (u8s (l.getD i [])) (l.getD i []).length .any := by
  simp [bss, List.getD_eq_getElem?_getD, h]
def flt (l : List (List Int)) (i : Nat) : Nat := (l.take i).flatten.length
theorem take_flat (l : List (List Int)) (i : Nat) (h : i < l.length) : (l.take (i + 1)).flatten = (l.take i).flatten ++ l.getD i [] := by
  rw [List.take_add_one, List.flatten_append]
  simp [List.getD_eq_getElem?_getD, h]
theorem flt_step (l : List (List Int)) (i : Nat) (h : i < l.length) : (flt l i : Int) + ((l.getD i []).length : Int) = (flt l (i + 1) : Int) := by
  rw [flt, flt, take_flat l i h, List.length_append]; omega
theorem flt_stepN (l : List (List Int)) (i : Nat) (h : i < l.length) : flt l i + (l.getD i []).length = flt l (i + 1) := by have := flt_step l i h; omega
theorem take_flat' (l : List (List Int)) (i : Nat) (h : i < l.length) : (l.take i).flatten ++ l.getD i [] = (l.take (i + 1)).flatten := (take_flat l i h).symm
theorem flt_le (l : List (List Int)) (i : Nat) : flt l i ≤ l.flatten.length := by
  have e : l.flatten = (l.take i).flatten ++ (l.drop i).flatten := by rw [← List.flatten_append, List.take_append_drop]
  rw [e, List.length_append, flt]; omega
theorem flt_all (l : List (List Int)) (i : Nat) (h : l.length ≤ i) : flt l i = l.flatten.length := by rw [flt, List.take_of_length_le h]
theorem item_le (l : List (List Int)) (i : Nat) (h : i < l.length) : flt l i + (l.getD i []).length ≤ l.flatten.length := by
  have := flt_step l i h
  have := flt_le l (i + 1)
  omega
/-- pieces -/
def npn (n : Nat) : Nat := max 1 ((n + 511) / 512)
abbrev np (b : List Int) : Nat := npn b.length
def piece (b : List Int) (i : Nat) : List Int := (b.drop (512 * i)).take 512
def pieces (b : List Int) : List (List Int) := (List.range (np b)).map (piece b)
/-- the cells when i pieces are laid -/
def part (b : List Int) (n i : Nat) : List AVal := (List.range n).map fun j => if j < i then .sl (u8s (piece b j)) (piece b j).length .any else .sl [] 0 .nil
/-- the first pieces -/
def pcs (b : List Int) (j : Nat) : List (List Int) := (List.range j).map (piece b)
@[simp] theorem pcs_length (b : List Int) (j : Nat) : (pcs b j).length = j := by simp [pcs]
theorem succ_all {P : Nat → Prop} {i : Nat} (hd : ∀ j, j < i → P j) (h : P i) : ∀ j, j < i + 1 → P j := by
  intro j hj
  by_cases e : j = i
  · subst e; exact h
  · exact hd j (by omega)
end Go.Chu
