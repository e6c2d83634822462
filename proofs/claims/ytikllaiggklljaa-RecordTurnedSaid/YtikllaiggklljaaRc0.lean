/- Walks and laws. -/
import Derived.Test.YtikllaiggklljaaCh0
import Derived.Test.YtikllaiggklljaaCrR7
set_option linter.unusedSimpArgs false
set_option linter.unusedVariables false
namespace Go.Rec
open Go Go.Abs Go.Crc Go.Chu
/-- A number of bytes, the greatest one ahead. -/
def be (l : List Int) : Int := l.foldl (fun n c => 256 * n + c) 0
theorem be_snoc (l : List Int) (c : Int) : be (l ++ [c]) = 256 * be l + c := by simp [be]
theorem be_take (l : List Int) (i : Nat) (h : i < l.length) : be (l.take (i + 1)) = 256 * be (l.take i) + l.getD i 0 := by
  rw [← be_snoc]; congr 1
  rw [List.take_succ_eq_append_getElem h, List.getD_eq_getElem?_getD, List.getElem?_eq_getElem h]; rfl
theorem be_bnd : ∀ (i : Nat) (l : List Int), Bts l → i ≤ 4 → 0 ≤ be (l.take i) ∧ be (l.take i) < ((256 ^ i : Nat) : Int)
  | 0, l, _, _ => by simp [be]
  | i + 1, l, hb, hi => by
    have ih := be_bnd i l hb (by omega)
    rcases Nat.lt_or_ge i l.length with h | h
    · rw [be_take l i h]
      have hc := hb.get i
      rw [Nat.pow_succ]
      have : ((256 ^ i * 256 : Nat) : Int) = ((256 ^ i : Nat) : Int) * 256 := by simp
      omega
    · rw [List.take_of_length_le (by omega)]
      rw [List.take_of_length_le h] at ih
      refine ⟨ih.1, Int.lt_of_lt_of_le ih.2 ?_⟩
      exact_mod_cast Nat.pow_le_pow_right (by omega) (by omega)
theorem orb (n c : Int) (h0 : 0 ≤ n) (h1 : n < 281474976710656) (c0 : 0 ≤ c) (c1 : c < 256) : (↑(BitVec.toNat (BitVec.ofInt 64 (n * 256) ||| BitVec.ofInt 64 c)) : Int) = 256 * n + c := by
  obtain ⟨x, rfl⟩ : ∃ x : Nat, n = x := ⟨n.toNat, by omega⟩
  obtain ⟨w, rfl⟩ : ∃ w : Nat, c = w := ⟨c.toNat, by omega⟩
  rw [BitVec.toNat_or, BitVec.toNat_ofInt, BitVec.toNat_ofInt]
  have e1 : ((x : Int) * 256 % 2 ^ 64).toNat = x <<< 8 := by rw [Nat.shiftLeft_eq]; omega
  have e2 : ((w : Int) % 2 ^ 64).toNat = w := by omega
  have e1' : ((x : Int) * 256 % ((2 ^ 64 : Nat) : Int)).toNat = x <<< 8 := by rw [Nat.shiftLeft_eq]; omega
  have e2' : ((w : Int) % ((2 ^ 64 : Nat) : Int)).toNat = w := by omega
  rw [e1', e2', ← Nat.shiftLeft_add_eq_or_of_lt (by omega), Nat.shiftLeft_eq]
  omega
theorem be_small (i : Nat) (b : List Int) (hb : Bts b) (hi : i ≤ 4) : 0 ≤ be (b.take i) ∧ be (b.take i) < 4294967296 := by
  have h := be_bnd i b hb hi
  refine ⟨h.1, Int.lt_of_lt_of_le h.2 ?_⟩
  have h2 : 256 ^ i ≤ 4294967296 := Nat.le_trans (Nat.pow_le_pow_right (by omega) hi) (by decide)
  omega
theorem be_round (b : List Int) (i : Nat) (h : i < 4) (hl : 4 ≤ b.length) : 256 * be (b.take i) + List.getD (b.take 4) i 0 = be (b.take (i + 1)) := by
  rw [be_take b i (by omega)]
  congr 1
  rw [List.getD_eq_getElem?_getD, List.getD_eq_getElem?_getD, List.getElem?_take_of_lt h]
/-- The body of the record at the beginning. -/
def bodyP (b : List Int) : Option (List Int) :=
  if b.length < 8 then none else if be (b.take 4) > 60000 ∨ be (b.take 4) > b.length - 8 then none else opn ((b.drop 4).take ((be (b.take 4)).toNat + 4))
theorem bodyP_short (b : List Int) (h : b.length < 8) : bodyP b = none := by unfold bodyP; rw [if_pos h]
theorem bodyP_big (b : List Int) (h : ¬ b.length < 8) (h2 : 60000 < be (b.take 4) ∨ (b.length : Int) - 8 < be (b.take 4)) : bodyP b = none := by unfold bodyP; rw [if_neg h, if_pos (by omega)]
theorem bodyP_open (b : List Int) (h : ¬ b.length < 8) (h2 : ¬ 60000 < be (b.take 4)) (h3 : ¬ (b.length : Int) - 8 < be (b.take 4)) : bodyP b = opn ((b.drop 4).take ((be (b.take 4)).toNat + 4)) := by unfold bodyP; rw [if_neg h, if_neg (by omega)]
theorem resO_data (o : Option (List Int)) : (resO o).data = true := by cases o <;> rfl
def recd (x : List Int) : List Int := [b8 (Int.fdiv x.length 16777216), b8 (Int.fdiv x.length 65536), b8 (Int.fdiv x.length 256), b8 x.length] ++ (x ++ laid (sum x))
/-- The records from a place on, each with the place behind it. -/
def scanF : Nat → List Int → Nat → List (Nat × List Int)
  | 0, _, _ => []
  | k + 1, b, p => match bodyP (b.drop p) with
    | none => []
    | some x => (p + 8 + x.length, x) :: scanF k b (p + 8 + x.length)
theorem scanF_none {k : Nat} {b : List Int} {p : Nat} (h : bodyP (b.drop p) = none) : scanF (k + 1) b p = [] := by simp [scanF, h]
theorem scanF_some {k : Nat} {b x : List Int} {p : Nat} (h : bodyP (b.drop p) = some x) : scanF (k + 1) b p = (p + 8 + x.length, x) :: scanF k b (p + 8 + x.length) := by simp [scanF, h]
theorem bodyP_len {b x : List Int} (h : bodyP b = some x) : x.length + 8 ≤ b.length := by
  unfold bodyP at h
  split at h
  · simp at h
  · split at h
    · simp at h
    · have := (opn_some h).2
      rw [List.length_take, List.length_drop] at this
      omega
theorem take_rest (b : List Int) (n : Nat) : List.take (b.length - n) (List.drop n b) = List.drop n b := List.take_of_length_le (by rw [List.length_drop]; omega)
theorem at_next (a n : Nat) : (a : Int) + (8 + (n : Int)) = ((a + 8 + n : Nat) : Int) := by omega
theorem dec_no {p : Prop} [Decidable p] (h : ¬ p) : AVal.sc (.bool false) = .sc (.bool (decide p)) := by rw [decide_eq_false h]
theorem dec_yes {p : Prop} [Decidable p] (h : p) : AVal.sc (.bool true) = .sc (.bool (decide p)) := by rw [decide_eq_true h]
def fewP (l : List (List Int)) : Prop := l.length ≤ 40 ∧ l.flatten.length ≤ 6000
instance (l : List (List Int)) : Decidable (fewP l) := by unfold fewP; infer_instance
theorem BB.get {l : List (List Int)} (h : ∀ x ∈ l, Bts x) (i : Nat) : Bts (l.getD i []) := by
  rcases Nat.lt_or_ge i l.length with hi | hi
  · rw [List.getD_eq_getElem?_getD, List.getElem?_eq_getElem hi]; exact h _ (List.getElem_mem hi)
  · rw [List.getD_eq_getElem?_getD, List.getElem?_eq_none hi]; exact Bts.nil
theorem lists_eq (a b : List (List Int)) (hl : a.length = b.length) (h : ∀ j, j < a.length → a.getD j [] = b.getD j []) : a = b := by
  apply List.ext_getElem hl
  intro j h1 h2
  have := h j h1
  rwa [List.getD_eq_getElem?_getD, List.getD_eq_getElem?_getD, List.getElem?_eq_getElem h1, List.getElem?_eq_getElem h2] at this
/-- What is opened, and whether. -/
def oV (o : Option (List Int)) : List Int := o.getD []
def encR (q : Nat × List Int) : List AVal := [.sc (.int .i64 (q.1 : Int)), .sl (u8s q.2) q.2.length .any]
end Go.Rec
