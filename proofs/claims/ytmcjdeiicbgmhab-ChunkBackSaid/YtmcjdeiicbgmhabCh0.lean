/- Walks and laws. -/
import Derived.Test.YtmcjdeiicbgmhabLibB
set_option linter.unusedSimpArgs false
set_option linter.unusedVariables false
namespace Go.Chu
open Go Go.Abs
/-- lists of bytes -/
abbrev bs1 (x : List Int) : AVal := .sl (u8s x) x.length .any
abbrev bss (l : List (List Int)) : List AVal := l.map fun x => .sl (u8s x) x.length .any
theorem bss_length (l : List (List Int)) : (bss l).length = l.length := by simp [bss]
theorem bss_getD (l : List (List Int)) (i : Nat) (h : i < l.length) : (bss l).getD i .undef = .sl (u8s (l.getD i [])) (l.getD i []).length .any := by
  simp [bss, List.getD_eq_getElem?_getD, h]
theorem dataAll_bss (l : List (List Int)) : dataAll (bss l) = true := by
  rw [dataAll_iff]
  intro i hi
  rw [bss_length] at hi
  rw [bss_getD l i hi]; rfl
theorem bss_snoc (l : List (List Int)) (x : List Int) : bss l ++ [AVal.sl (u8s x) (List.length x) .any] = bss (l ++ [x]) := by simp [bss]
theorem snoc_data (l : List (List Int)) (x : List Int) : dataAll (bss l ++ [AVal.sl (u8s x) (List.length x) .any]) = true := by rw [bss_snoc]; exact dataAll_bss _
theorem one_sl (c : List AVal) (n : Nat) (k : SlK) : ∀ i : Nat, i < List.length [AVal.sl c n k] → (List.getD [AVal.sl c n k] i .undef).one = true := by
  intro i hi
  have : i = 0 := by simp at hi; omega
  subst this; rfl
def flt (l : List (List Int)) (i : Nat) : Nat := (l.take i).flatten.length
theorem take_flat (l : List (List Int)) (i : Nat) (h : i < l.length) : (l.take (i + 1)).flatten = (l.take i).flatten ++ l.getD i [] := by
  rw [List.take_add_one, List.flatten_append]
  simp [List.getD_eq_getElem?_getD, h]
theorem flt_step (l : List (List Int)) (i : Nat) (h : i < l.length) : (flt l i : Int) + ((l.getD i []).length : Int) = (flt l (i + 1) : Int) := by
  rw [flt, flt, take_flat l i h, List.length_append]; omega
theorem flt_stepN (l : List (List Int)) (i : Nat) (h : i < l.length) : flt l i + (l.getD i []).length = flt l (i + 1) := by have := flt_step l i h; omega
theorem take_flat' (l : List (List Int)) (i : Nat) (h : i < l.length) : (l.take i).flatten ++ l.getD i [] = (l.take (i + 1)).flatten := (take_flat l i h).symm
theorem flt_le (l : List (List Int)) (i : Nat) : flt l i ≤ l.flatten.length := by
  have e : l.flatten = (l.take i).flatten ++ (l.drop i).flatten := by rw [← List.flatten_append, List.take_append_drop]
  rw [e, List.length_append, flt]; omega
theorem flt_all (l : List (List Int)) (i : Nat) (h : l.length ≤ i) : flt l i = l.flatten.length := by rw [flt, List.take_of_length_le h]
theorem item_le (l : List (List Int)) (i : Nat) (h : i < l.length) : flt l i + (l.getD i []).length ≤ l.flatten.length := by
  have := flt_step l i h
  have := flt_le l (i + 1)
  omega
/-- pieces -/
def npn (n : Nat) : Nat := max 1 ((n + 511) / 512)
abbrev np (b : List Int) : Nat := npn b.length
theorem npn_spec (n : Nat) : 1 ≤ npn n ∧ (npn n = 1 ∨ npn n = (n + 511) / 512) ∧ (n + 511) / 512 ≤ npn n ∧ npn n ≤ n + 1 := by unfold npn; omega
theorem npn_w (n : Nat) (h : n ≤ 1000000) : (if IntKind.wrap IntKind.i64 (Int.tdiv ((n : Int) + 512 - 1) 512) > 1 then IntKind.wrap IntKind.i64 (Int.tdiv ((n : Int) + 512 - 1) 512) else 1) = (npn n : Int) := by
  have e : Int.tdiv ((n : Int) + 512 - 1) 512 = (((n + 511) / 512 : Nat) : Int) := by
    rw [show (n : Int) + 512 - 1 = ((n + 511 : Nat) : Int) by omega]; exact (Int.ofNat_tdiv (n + 511) 512).symm
  rw [e, IntWalk.i64_in _ (by omega)]
  unfold npn
  split <;> omega
def piece (b : List Int) (i : Nat) : List Int := (b.drop (512 * i)).take 512
def pieces (b : List Int) : List (List Int) := (List.range (np b)).map (piece b)
/-- the cells when i pieces are laid -/
def part (b : List Int) (n i : Nat) : List AVal := (List.range n).map fun j => if j < i then .sl (u8s (piece b j)) (piece b j).length .any else .sl [] 0 .nil
theorem part_zero (b : List Int) (n : Nat) : repA [.sl [] 0 .nil] n = part b n 0 := by
  induction n with
  | zero => rfl
  | succ n ih =>
    have h2 : repA [AVal.sl [] 0 .nil] (n + 1) = repA [.sl [] 0 .nil] n ++ [.sl [] 0 .nil] := by
      clear ih
      induction n with
      | zero => rfl
      | succ n ih =>
        show [AVal.sl [] 0 .nil] ++ repA [.sl [] 0 .nil] (n + 1) = ([AVal.sl [] 0 .nil] ++ repA [.sl [] 0 .nil] n) ++ [.sl [] 0 .nil]
        rw [ih, List.append_assoc]
    rw [h2, ih, part, part, List.range_succ]
    simp
theorem part_zero' (b : List Int) (n : Nat) : repA [constA (Value.slice none 0 0)] n = part b n 0 := part_zero b n
theorem part_length (b : List Int) (n i : Nat) : (part b n i).length = n := by simp [part]
theorem part_data (b : List Int) (n i : Nat) : dataAll (part b n i) = true := by
  rw [dataAll_iff]
  intro j hj
  rw [part_length] at hj
  simp only [part, List.getD_eq_getElem?_getD, List.getElem?_map, List.getElem?_range hj, Option.map_some, Option.getD_some]
  split <;> rfl
theorem part_end (b : List Int) : part b (np b) (np b) = bss (pieces b) := by
  unfold part bss pieces
  rw [List.map_map]
  apply List.map_congr_left
  intro j hj
  rw [List.mem_range] at hj
  rw [if_pos hj]; rfl
theorem piece_length (b : List Int) (i : Nat) : (piece b i).length = min 512 (b.length - 512 * i) := by simp [piece]
theorem pieces_length (b : List Int) : (pieces b).length = np b := by simp [pieces]
theorem pieces_getD (b : List Int) (i : Nat) (h : i < np b) : (pieces b).getD i [] = piece b i := by
  simp [pieces, List.getD_eq_getElem?_getD, h]
/-- the first pieces -/
def pcs (b : List Int) (j : Nat) : List (List Int) := (List.range j).map (piece b)
theorem pcs_zero (b : List Int) : pcs b 0 = [] := rfl
@[simp] theorem pcs_length (b : List Int) (j : Nat) : (pcs b j).length = j := by simp [pcs]
theorem pcs_succ (b : List Int) (j : Nat) : pcs b (j + 1) = pcs b j ++ [(b.drop (512 * j)).take 512] := by
  rw [pcs, List.range_succ, List.map_append]; rfl
theorem succ_all {P : Nat → Prop} {i : Nat} (hd : ∀ j, j < i → P j) (h : P i) : ∀ j, j < i + 1 → P j := by
  intro j hj
  by_cases e : j = i
  · subst e; exact h
  · exact hd j (by omega)
theorem part_set (b : List Int) (n i : Nat) (x : List AVal) (k : Nat) (h : i < n) (hx : x = u8s (piece b i)) (hk : k = (piece b i).length) : spliceA (part b n i) i [.sl x k .any] = part b n (i + 1) := by
  subst hx hk
  show (part b n i).set i _ = _
  apply List.ext_getElem
  · simp [part_length]
  · intro j h1 h2
    rw [part_length] at h2
    rw [List.getElem_set]
    simp only [part, List.getElem_map, List.getElem_range]
    by_cases e : i = j
    · subst e; rw [if_pos rfl, if_pos (by omega)]
    · rw [if_neg e]
      by_cases hl : j < i
      · rw [if_pos hl, if_pos (by omega)]
      · rw [if_neg hl, if_neg (by omega)]
theorem part_round (b : List Int) (n i : Nat) (h : i < n) (hl : 512 * i ≤ b.length) : spliceA (part b n i) i [AVal.sl (u8s (List.take (Int.toNat (if (↑(List.length b) : Int) < ((↑i : Int) + 1) * 512 then (↑(List.length b) : Int) else ((↑i : Int) + 1) * 512) - Int.toNat ((↑i : Int) * 512)) (List.drop (Int.toNat ((↑i : Int) * 512)) b))) (Int.toNat (if (↑(List.length b) : Int) < ((↑i : Int) + 1) * 512 then (↑(List.length b) : Int) else ((↑i : Int) + 1) * 512) - Int.toNat ((↑i : Int) * 512)) SlK.any] = part b n (i + 1) := by
  have e1 : Int.toNat ((↑i : Int) * 512) = 512 * i := by omega
  rw [e1]
  refine part_set b n i _ _ h ?_ ?_
  · congr 1
    unfold piece
    split
    · rw [List.take_of_length_le (by simp <;> omega), List.take_of_length_le (by simp <;> omega)]
    · congr 1; omega
  · rw [piece_length]
    split <;> omega
end Go.Chu
