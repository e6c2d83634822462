/- Walks and laws, part NumP. -/
import Derived.Test.YtmcjdeiicbgmhabNum8
set_option linter.unusedSimpArgs false
set_option linter.unusedVariables false
namespace Go.Num
open Go Go.Abs
def tl (s : ByteArray) : ByteArray := s.extract 1 s.size
theorem ext_tl (s : ByteArray) : ByteArray.extract s 1 (ByteArray.size s) = tl s := rfl
theorem bytes_id (l : List UInt8) : List.map byteOf1 (u8s (l.map fun b => (b.toNat : Int))) = l := by
  induction l with
  | nil => rfl
  | cons b l ih =>
    have h : byteOf1 (.sc (.int .u8 (b.toNat : Int))) = b := by simp [byteOf1]
    simp only [u8s, List.map_cons] at ih ⊢
    rw [h, ih]
theorem strOf_strB (s : ByteArray) : strOf (u8s (strB s)) = s := by
  apply ByteArray.ext
  apply Array.ext'
  unfold strOf
  exact bytes_id s.data.toList
theorem ba_toList (s : ByteArray) : ByteArray.toList s = s.data.toList := by
  have h := strOf_toList (u8s (strB s))
  rw [strOf_strB] at h
  rw [h]; exact bytes_id s.data.toList
theorem strB_strOf (xs : List Int) (hb : Bts xs) : strB (strOf (u8s xs)) = xs := by
  simp only [strB, strOf, u8s, List.map_map]
  conv => rhs; rw [← List.map_id xs]
  apply List.map_congr_left
  intro x hx
  have := hb x hx
  simp [byteOf1]
  omega
theorem strB_inj {a b : ByteArray} (h : strB a = strB b) : a = b := by
  rw [← strOf_strB a, ← strOf_strB b, h]
theorem nil_beq (s : ByteArray) : (ByteArray.toList s == ByteArray.toList { data := #[] }) = decide (s.size = 0) := by
  rw [ba_toList, ba_toList, Bool.eq_iff_iff]
  cases h : s.data.toList with
  | nil => simp [ByteArray.size, ← Array.length_toList, h]
  | cons a l => simp [ByteArray.size, ← Array.length_toList, h]
theorem str_beq (a b : ByteArray) : (ByteArray.toList a == ByteArray.toList b) = decide (a = b) := by
  rw [ba_toList, ba_toList, Bool.eq_iff_iff, beq_iff_eq, decide_eq_true_iff]
  constructor
  · intro h; exact ByteArray.ext (Array.ext' h)
  · intro h; rw [h]
theorem tl_list (s : ByteArray) : (s.data.extract 1 s.data.size).toList = s.data.toList.drop 1 := by
  rw [Array.toList_extract, List.extract_eq_take_drop, List.take_of_length_le (by simp)]
theorem strB_tl (s : ByteArray) : strB (tl s) = (strB s).drop 1 := by
  rw [strB, strB, ← List.map_drop, ← tl_list]
  have : (tl s).data = s.data.extract 1 s.size := by simp [tl]
  rw [this]; rfl
theorem tl_cells (s : ByteArray) (h : 1 ≤ s.size) : List.map byteV (Array.extract #[] 0 0 ++ Array.extract s.data 1 (1 + (ByteArray.size s - 1)) ++ Array.extract #[] (min (ByteArray.size s - 1) (Array.size s.data - 1)) 0).toList = u8s (strB (tl s)) := by
  have e : (Array.extract #[] 0 0 ++ Array.extract s.data 1 (1 + (ByteArray.size s - 1)) ++ Array.extract #[] (min (ByteArray.size s - 1) (Array.size s.data - 1)) 0) = s.data.extract 1 s.data.size := by
    have h1 : 1 + (ByteArray.size s - 1) = s.data.size := by
      show 1 + (ByteArray.size s - 1) = ByteArray.size s
      omega
    rw [h1]; simp
  rw [e, tl_list, strB_tl, List.map_drop, byteV_map, u8s_drop]
theorem get_strB (s : ByteArray) (i : Nat) : (↑(UInt8.toNat (Array.getD s.data i 0)) : Int) = (strB s).getD i 0 := by
  by_cases h : i < s.data.size
  · have h2 : i < (strB s).length := by simpa using h
    rw [List.getD_eq_getElem?_getD, List.getElem?_eq_getElem h2, Option.getD_some]
    have h' : i < s.size := h
    simp [strB, Array.getD, h']
  · have h2 : ¬ i < (strB s).length := by simpa using h
    rw [List.getD_eq_getElem?_getD, List.getElem?_eq_none (by omega), Option.getD_none]
    have h' : ¬ i < s.size := h
    simp [Array.getD, h']
def vals (xs : List Int) : Nat → Int
  | 0 => 0
  | i + 1 => (10 * vals xs i + (xs.getD i 0 - 48)) % 18446744073709551616
theorem vals_app (p q : List Int) (i : Nat) (hi : i ≤ p.length) : vals (p ++ q) i = vals p i := by
  induction i with
  | zero => rfl
  | succ i ih =>
    simp only [vals]
    rw [ih (by omega)]
    congr 3
    rw [List.getD_eq_getElem?_getD, List.getElem?_append_left (by omega), ← List.getD_eq_getElem?_getD]
theorem dig_spec : ∀ (k : Nat) (u : Int), 0 ≤ u → u < ((10 ^ (k + 1) : Nat) : Int) → (∀ x ∈ dig (k + 1) u, 48 ≤ x ∧ x ≤ 57) ∧ vals (dig (k + 1) u) (dig (k + 1) u).length = u % 18446744073709551616 ∧ dig (k + 1) u ≠ [] := by
  intro k
  induction k with
  | zero =>
    intro u h0 h1
    have : u / 10 = 0 := by simp at h1; omega
    simp [dig, this, vals]
    omega
  | succ k ih =>
    intro u h0 h1
    rw [dig]
    split
    · rename_i h
      simp [vals]; omega
    · rename_i h
      have h2 : u / 10 < ((10 ^ (k + 1) : Nat) : Int) := by
        have : 10 ^ (k + 1 + 1) = 10 ^ (k + 1) * 10 := Nat.pow_succ ..
        omega
      obtain ⟨g1, g2, g3⟩ := ih (u / 10) (by omega) h2
      refine ⟨?_, ?_, by simp⟩
      · intro x hx
        rw [List.mem_append] at hx
        rcases hx with hx | hx
        · exact g1 x hx
        · simp at hx; omega
      · rw [List.length_append, List.length_singleton]
        simp only [vals]
        rw [vals_app _ _ _ (by omega), g2]
        have : (dig (k + 1) (u / 10) ++ [48 + u % 10]).getD (dig (k + 1) (u / 10)).length 0 = 48 + u % 10 := by simp
        rw [this]; omega
theorem dig_len19 (u : Int) (h0 : 0 ≤ u) (h1 : u ≤ 9223372036854775808) : (dig 20 u).length ≤ 19 := by
  have key : ∀ (d i : Nat) (u : Int), d = 19 - i → i ≤ 18 → 0 ≤ u → u < bd i → (dig (20 - i) u).length ≤ 19 - i := by
    intro d
    induction d with
    | zero => intro i u hd hi; omega
    | succ d ih =>
      intro i u hd hi h0 h1
      by_cases h : u / 10 = 0
      · rw [z_last i u (by omega) h]; simp; omega
      · rw [z_next i u (by omega) h]
        by_cases h18 : i = 18
        · subst h18
          have : bd 18 = 10 := by decide
          omega
        have := ih (i + 1) (u / 10) (by omega) (by omega) (by omega) (bd_succ i u h1)
        rw [List.length_append, List.length_singleton]; omega
  exact key 19 0 u rfl (by omega) h0 (by simp [bd]; omega)
theorem strB_app (a b : ByteArray) : strB (a ++ b) = strB a ++ strB b := by
  simp [strB]
theorem dig_all (u : Int) (h0 : 0 ≤ u) (h1 : u ≤ 9223372036854775808) : (∀ x ∈ dig 20 u, 48 ≤ x ∧ x ≤ 57) ∧ vals (dig 20 u) (dig 20 u).length = u ∧ dig 20 u ≠ [] ∧ Bts (dig 20 u) := by
  obtain ⟨a, b, c⟩ := dig_spec 19 u h0 (by simp; omega)
  exact ⟨a, by rw [b]; omega, c, fun x hx => by have := a x hx; omega⟩
theorem strB_dec (m : Int) (h0 : -9223372036854775808 ≤ m) (h1 : m ≤ 9223372036854775807) : strB (decS m) = if m < 0 then 45 :: dig 20 (-m) else dig 20 m := by
  unfold decS absN
  split
  · rw [strB_app, strB_strOf _ (dig_all _ (by omega) (by omega)).2.2.2]; rfl
  · rw [strB_strOf _ (dig_all _ (by omega) (by omega)).2.2.2]
def rng (m : Int) : Prop := -9223372036854775808 ≤ m ∧ m ≤ 9223372036854775807
theorem dec_neg {s : ByteArray} {m : Int} (hm : rng m) (h45 : (strB s).getD 0 0 = 45) (h : decS m = s) : m < 0 ∧ strB (tl s) = dig 20 (-m) := by
  subst h
  rw [strB_dec m hm.1 hm.2] at h45
  split at h45
  · rename_i hn
    refine ⟨hn, ?_⟩
    rw [strB_tl, strB_dec m hm.1 hm.2, if_pos hn]; rfl
  · rename_i hn
    obtain ⟨a, b, c, d⟩ := dig_all m (by omega) (by have := hm.2; omega)
    cases h : dig 20 m with
    | nil => exact absurd h c
    | cons x l =>
      rw [h] at h45 a
      have := a x (by simp)
      simp at h45; omega
theorem dec_pos {s : ByteArray} {m : Int} (hm : rng m) (h45 : (strB s).getD 0 0 ≠ 45) (h : decS m = s) : 0 ≤ m ∧ strB s = dig 20 m := by
  subst h
  rw [strB_dec m hm.1 hm.2] at h45
  split at h45
  · simp at h45
  · rename_i hn
    exact ⟨by omega, by rw [strB_dec m hm.1 hm.2, if_neg hn]⟩
open Classical in
noncomputable def parseR (s : ByteArray) : Int × Bool := if h : ∃ m, rng m ∧ decS m = s then (Classical.choose h, true) else (0, false)
theorem decS_inj {m k : Int} (hm : rng m) (hk : rng k) (h : decS m = decS k) : m = k := by
  have e := congrArg strB h
  rw [strB_dec m hm.1 hm.2, strB_dec k hk.1 hk.2] at e
  have key : ∀ a b : Int, 0 ≤ a → a ≤ 9223372036854775808 → 0 ≤ b → b ≤ 9223372036854775808 → dig 20 a = dig 20 b → a = b := by
    intro a b a0 a1 b0 b1 h
    have := (dig_all a a0 a1).2.1
    rw [h, (dig_all b b0 b1).2.1] at this
    exact this.symm
  have hd : ∀ a b : Int, 0 ≤ b → b ≤ 9223372036854775808 → ∀ l, dig 20 b ≠ 45 :: l := by
    intro a b b0 b1 l h
    have := (dig_all b b0 b1).1 45 (by rw [h]; simp)
    omega
  have := hm.1; have := hm.2; have := hk.1; have := hk.2
  split at e <;> split at e
  · simp at e
    have := key _ _ (by omega) (by omega) (by omega) (by omega) e
    omega
  · exact absurd e.symm (hd 0 k (by omega) (by omega) _)
  · exact absurd e (hd 0 m (by omega) (by omega) _)
  · exact key _ _ (by omega) (by omega) (by omega) (by omega) e
theorem parse_yes (m : Int) (hm : rng m) : parseR (decS m) = (m, true) := by
  have h : ∃ k, rng k ∧ decS k = decS m := ⟨m, hm, rfl⟩
  unfold parseR
  rw [dif_pos h]
  have := Classical.choose_spec h
  rw [decS_inj this.1 hm this.2]
theorem parse_no (s : ByteArray) (h : ∀ m, rng m → decS m ≠ s) : parseR s = (0, false) := by
  unfold parseR
  rw [dif_neg]
  rintro ⟨m, hm, he⟩
  exact h m hm he
/-- What digits are. -/
theorem digits_ok {D : ByteArray} {u : Int} (h0 : 0 ≤ u) (h1 : u ≤ 9223372036854775808) (h : strB D = dig 20 u) :
    D.size ≠ 0 ∧ D.size ≤ 19 ∧ (∀ i, i < D.size → 48 ≤ (strB D).getD i 0 ∧ (strB D).getD i 0 ≤ 57) ∧ vals (strB D) D.size = u := by
  obtain ⟨a, b, c, d⟩ := dig_all u h0 h1
  have hl : D.size = (dig 20 u).length := by rw [← h]; simp
  refine ⟨?_, ?_, ?_, ?_⟩
  · rw [hl]; intro h; exact c (List.length_eq_zero_iff.1 h)
  · rw [hl]; exact dig_len19 u h0 h1
  · intro i hi
    rw [h]
    rw [hl] at hi
    have := a ((dig 20 u)[i]) (List.getElem_mem ..)
    simpa [List.getD_eq_getElem?_getD, hi] using this
  · rw [hl, h, b]
/-- No number has this text. -/
theorem no_neg {s : ByteArray} (h45 : (strB s).getD 0 0 = 45) (h : (tl s).size = 0 ∨ 19 < (tl s).size ∨ (∃ i, i < (tl s).size ∧ ¬ (48 ≤ (strB (tl s)).getD i 0 ∧ (strB (tl s)).getD i 0 ≤ 57)) ∨
    decS (IntKind.wrap .i64 (IntKind.wrap .u64 (0 - vals (strB (tl s)) (tl s).size))) ≠ s) : parseR s = (0, false) := by
  refine parse_no s fun m hm he => ?_
  obtain ⟨h1, h2⟩ := dec_neg hm h45 he
  have := hm.1
  obtain ⟨a, b, c, d⟩ := digits_ok (D := tl s) (u := -m) (by omega) (by omega) h2
  rcases h with h | h | ⟨i, hi, h⟩ | h
  · exact a h
  · omega
  · exact h (c i hi)
  · rw [d] at h
    apply h
    rw [IntKind.wrap_u64, IntKind.wrap_i64] at *
    rw [← he]; congr 1; omega
theorem no_pos {s : ByteArray} (h45 : (strB s).getD 0 0 ≠ 45) (h : s.size = 0 ∨ 19 < s.size ∨ (∃ i, i < s.size ∧ ¬ (48 ≤ (strB s).getD i 0 ∧ (strB s).getD i 0 ≤ 57)) ∨
    decS (IntKind.wrap .i64 (vals (strB s) s.size)) ≠ s) : parseR s = (0, false) := by
  refine parse_no s fun m hm he => ?_
  obtain ⟨h1, h2⟩ := dec_pos hm h45 he
  have := hm.2
  obtain ⟨a, b, c, d⟩ := digits_ok (D := s) (u := m) (by omega) (by omega) h2
  rcases h with h | h | ⟨i, hi, h⟩ | h
  · exact a h
  · omega
  · exact h (c i hi)
  · rw [d] at h
    apply h
    rw [IntKind.wrap_i64] at *
    rw [← he]; congr 1; omega
theorem vals_rng (xs : List Int) (i : Nat) : 0 ≤ vals xs i ∧ vals xs i < 18446744073709551616 := by
  cases i with
  | zero => simp [vals]
  | succ i => simp only [vals]; omega
end Go.Num
