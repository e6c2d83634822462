/- Walks and laws, part Num5. -/
import Derived.Test.YtmcjdeiicbgmhabNum0
set_option linter.unusedSimpArgs false
set_option linter.unusedVariables false
namespace Go.Num
open Go Go.Abs
theorem valN_append (p q : List Int) (i : Nat) (hi : i ≤ p.length) : valN (p ++ q) i = valN p i := by
  induction i with
  | zero => rfl
  | succ i ih =>
    simp only [valN]
    rw [ih (by omega)]
    congr 2
    rw [List.getD_eq_getElem?_getD, List.getElem?_append_left (by omega), ← List.getD_eq_getElem?_getD]
theorem getD_app (p q : List Int) (c : Int) : (p ++ c :: q).getD p.length 0 = c := by simp
theorem zig_zag (u : Int) (h : 0 ≤ u) : zig (zag u) = u := by
  unfold zag zig
  split <;> split <;> omega
theorem pow_succ128 (i : Nat) : ((128 ^ (i + 1) : Nat) : Int) = ((128 ^ i : Nat) : Int) * 128 := by
  rw [Nat.pow_succ]; simp
/-- What is put is got. -/
theorem get_put (d : Nat) : ∀ (i : Nat) (pre rest : List Int) (u : Int), d = 10 - i → i ≤ 9 → pre.length = i → 0 ≤ u → u < bnd i → (0 < i → 0 < u) →
    getF (pre ++ encF (10 - i) u ++ rest) (10 - i) i = .ok (zag (valN pre i + u * ((128 ^ i : Nat) : Int))) (i + (encF (10 - i) u).length) := by
  induction d with
  | zero => intro i pre rest u hd hi; omega
  | succ d ih =>
    intro i pre rest u hd hi hp h0 h1 hz
    rw [getF_step _ i hi]
    by_cases hu : u < 128
    · rw [enc_last i u hi hu]
      have hg : (pre ++ [u] ++ rest).getD i 0 = u := by
        rw [← hp, List.append_assoc]; exact getD_app pre rest u
      rw [if_neg (by simp; omega), hg, if_neg, if_pos hu, if_neg]
      · simp only [valN]
        rw [hg, List.append_assoc, valN_append _ _ _ (by omega), Int.emod_eq_of_lt h0 hu]
        simp
      · rintro ⟨h3, h4⟩; have := hz h3; omega
      · rintro ⟨h3, h4⟩
        subst h3
        have : bnd 9 = 2 := by decide
        omega
    · rw [enc_step i u hi hu]
      have hi9 : i ≠ 9 := by
        intro h; subst h; exact hu (bnd_nine u h1)
      have hg : (pre ++ (u % 128 + 128) :: encF (10 - (i + 1)) (u / 128) ++ rest).getD i 0 = u % 128 + 128 := by
        rw [← hp, List.append_assoc]; exact getD_app pre _ _
      rw [if_neg (by simp; omega), hg, if_neg (by omega), if_neg (by omega)]
      have := ih (i + 1) (pre ++ [u % 128 + 128]) rest (u / 128) (by omega) (by omega) (by simp [hp]) (by omega) (bnd_succ i u h1) (by omega)
      have e : pre ++ (u % 128 + 128) :: encF (10 - (i + 1)) (u / 128) ++ rest = pre ++ [u % 128 + 128] ++ encF (10 - (i + 1)) (u / 128) ++ rest := by simp
      rw [e, this]
      have hv : valN (pre ++ [u % 128 + 128]) (i + 1) = valN pre i + (u % 128) * ((128 ^ i : Nat) : Int) := by
        simp only [valN]
        rw [valN_append _ _ _ (by omega)]
        have : (pre ++ [u % 128 + 128]).getD i 0 = u % 128 + 128 := by rw [← hp]; exact getD_app pre [] _
        rw [this]
        congr 2
        omega
      rw [hv, pow_succ128]
      congr 1
      · congr 1
        have : u = u % 128 + 128 * (u / 128) := by omega
        have h2 : u * ((128 ^ i : Nat) : Int) = (u % 128) * ((128 ^ i : Nat) : Int) + 128 * (u / 128) * ((128 ^ i : Nat) : Int) := by
          conv => lhs; rw [this, Int.add_mul]
        rw [h2]
        have h3 : 128 * (u / 128) * ((128 ^ i : Nat) : Int) = u / 128 * (((128 ^ i : Nat) : Int) * 128) := by
          rw [Int.mul_comm 128, Int.mul_assoc, Int.mul_comm 128]
        omega
      · simp; omega
/-- What is cut short is short. -/
theorem get_cut (d : Nat) : ∀ (i : Nat) (pre : List Int) (u : Int) (j : Nat), d = 10 - i → i ≤ 9 → pre.length = i → 0 ≤ u → u < bnd i → j < (encF (10 - i) u).length →
    getF (pre ++ (encF (10 - i) u).take j) (10 - i) i = .short := by
  induction d with
  | zero => intro i pre u j hd hi; omega
  | succ d ih =>
    intro i pre u j hd hi hp h0 h1 hj
    rw [getF_step _ i hi]
    cases j with
    | zero => rw [if_pos (by simp; omega)]
    | succ j =>
      by_cases hu : u < 128
      · rw [enc_last i u hi hu] at hj; simp at hj
      · rw [enc_step i u hi hu] at hj ⊢
        have hi9 : i ≠ 9 := by
          intro h; subst h; exact hu (bnd_nine u h1)
        rw [List.take_succ_cons]
        have hg : (pre ++ (u % 128 + 128) :: (encF (10 - (i + 1)) (u / 128)).take j).getD i 0 = u % 128 + 128 := by
          rw [← hp]; exact getD_app pre _ _
        rw [if_neg (by simp; omega), hg, if_neg (by omega), if_neg (by omega)]
        have := ih (i + 1) (pre ++ [u % 128 + 128]) (u / 128) j (by omega) (by omega) (by simp [hp]) (by omega) (bnd_succ i u h1) (by simpa using hj)
        rw [← this]
        congr 1
        simp
/-- Bytes that are read are those that the number has. -/
theorem get_one (d : Nat) : ∀ (i : Nat) (xs : List Int) (v : Int) (k : Nat), d = 10 - i → i ≤ 9 → Bts xs → (0 < i → 128 ≤ xs.getD (i - 1) 0) → getF xs (10 - i) i = .ok v k →
    ∃ u, 0 ≤ u ∧ u < bnd i ∧ (0 < i → 0 < u) ∧ encF (10 - i) u = (xs.drop i).take (k - i) ∧ v = zag (valN xs i + u * ((128 ^ i : Nat) : Int)) ∧ i < k ∧ k ≤ xs.length := by
  induction d with
  | zero => intro i xs v k hd hi; omega
  | succ d ih =>
    intro i xs v k hd hi hb hpre h
    rw [getF_step _ i hi] at h
    split at h
    · simp at h
    rename_i hl
    split at h
    · simp at h
    rename_i h9
    have hc := hb.get i
    have hdrop : xs.drop i = xs.getD i 0 :: xs.drop (i + 1) := by
      rw [List.drop_eq_getElem_cons (by omega)]
      congr 1
      simp [show i < xs.length by omega]
    split at h
    · rename_i h128
      split at h
      · simp at h
      rename_i hz
      simp only [GR.ok.injEq] at h
      obtain ⟨rfl, rfl⟩ := h
      have hb2 : xs.getD i 0 < bnd i := by
        have h10 : i = 0 ∨ i = 1 ∨ i = 2 ∨ i = 3 ∨ i = 4 ∨ i = 5 ∨ i = 6 ∨ i = 7 ∨ i = 8 ∨ i = 9 := by omega
        rcases h10 with rfl | rfl | rfl | rfl | rfl | rfl | rfl | rfl | rfl | rfl
        all_goals first
          | (have : bnd 9 = 2 := by decide
             omega)
          | (refine Int.lt_of_lt_of_le h128 ?_; decide)
      refine ⟨xs.getD i 0, hc.1, hb2, by omega, ?_, ?_, by omega, by omega⟩
      · rw [enc_last i _ hi h128, hdrop]
        have : i + 1 - i = 1 := by omega
        rw [this]; simp
      · simp only [valN]
        rw [Int.emod_eq_of_lt hc.1 h128]
    · rename_i h128
      by_cases hi9 : i = 9
      · subst hi9; exfalso; omega
      obtain ⟨u, g1, g2, g3, g4, g5, g6, g7⟩ := ih (i + 1) xs v k (by omega) (by omega) hb (by intro _; rw [show i + 1 - 1 = i by omega]; omega) h
      have gu := g3 (by omega)
      refine ⟨u * 128 + xs.getD i 0 % 128, by omega, ?_, by omega, ?_, ?_, by omega, g7⟩
      · have hm : bnd i % 128 = 0 := by
          have h10 : i = 0 ∨ i = 1 ∨ i = 2 ∨ i = 3 ∨ i = 4 ∨ i = 5 ∨ i = 6 ∨ i = 7 ∨ i = 8 := by omega
          rcases h10 with rfl | rfl | rfl | rfl | rfl | rfl | rfl | rfl | rfl <;> decide
        simp only [bnd] at g2; omega
      · rw [enc_step i _ hi (by omega), hdrop]
        have e1 : (u * 128 + xs.getD i 0 % 128) % 128 + 128 = xs.getD i 0 := by omega
        have e2 : (u * 128 + xs.getD i 0 % 128) / 128 = u := by omega
        have e3 : k - i = (k - (i + 1)) + 1 := by omega
        rw [e1, e2, g4, e3, List.take_succ_cons]
      · rw [g5]
        simp only [valN]
        rw [pow_succ128, Int.add_mul, Int.add_assoc]
        congr 2
        rw [Int.mul_assoc, Int.mul_comm 128]
        omega
theorem encF_le (d : Nat) : ∀ (i : Nat) (u : Int), d = 10 - i → i ≤ 9 → u < bnd i → (encF (10 - i) u).length ≤ 10 - i := by
  induction d with
  | zero => intro i u hd hi; omega
  | succ d ih =>
    intro i u hd hi h1
    by_cases hu : u < 128
    · rw [enc_last i u hi hu]; simp; omega
    · rw [enc_step i u hi hu]
      have hi9 : i ≠ 9 := by
        intro h; subst h; exact hu (bnd_nine u h1)
      have := ih (i + 1) (u / 128) (by omega) (by omega) (bnd_succ i u h1)
      rw [List.length_cons]; omega
theorem getR_enc (n : Int) (h0 : -9223372036854775808 ≤ n) (h1 : n ≤ 9223372036854775807) (rest : List Int) : getR (enc (zig n) ++ rest) = .ok n (enc (zig n)).length := by
  have hz := zig_rng n h0 h1
  have := get_put 10 0 [] rest (zig n) rfl (by omega) rfl hz.1 (by simpa [bnd] using hz.2) (by omega)
  simp [valN, zag_zig] at this
  exact this
theorem getR_cut (n : Int) (h0 : -9223372036854775808 ≤ n) (h1 : n ≤ 9223372036854775807) (j : Nat) (hj : j < (enc (zig n)).length) : getR ((enc (zig n)).take j) = .short := by
  have hz := zig_rng n h0 h1
  have := get_cut 10 0 [] (zig n) j rfl (by omega) rfl hz.1 (by simpa [bnd] using hz.2) hj
  simpa [getR, enc] using this
theorem getR_one {xs : List Int} {v : Int} {k : Nat} (hb : Bts xs) (h : getR xs = .ok v k) : enc (zig v) = xs.take k ∧ 0 < k ∧ k ≤ xs.length ∧ -9223372036854775808 ≤ v ∧ v ≤ 9223372036854775807 := by
  obtain ⟨u, g1, g2, g3, g4, g5, g6, g7⟩ := get_one 10 0 xs v k rfl (by omega) hb (by omega) h
  simp [valN, bnd] at g2 g5
  subst g5
  refine ⟨?_, g6, g7, ?_, ?_⟩
  · rw [zig_zag u g1]; simpa [enc] using g4
  · unfold zag; split <;> omega
  · unfold zag; split <;> omega
theorem enc_len (n : Int) (h0 : -9223372036854775808 ≤ n) (h1 : n ≤ 9223372036854775807) : (enc (zig n)).length ≤ 10 ∧ 0 < (enc (zig n)).length := by
  have hz := zig_rng n h0 h1
  exact ⟨encF_le 10 0 (zig n) rfl (by omega) (by simpa [bnd] using hz.2), (enc_length _).2⟩
theorem enc_inj (n m : Int) (h0 : -9223372036854775808 ≤ n) (h1 : n ≤ 9223372036854775807) (g0 : -9223372036854775808 ≤ m) (g1 : m ≤ 9223372036854775807) (h : enc (zig n) = enc (zig m)) : n = m := by
  have a := getR_enc n h0 h1 []
  have b := getR_enc m g0 g1 []
  rw [h, b] at a
  simp only [GR.ok.injEq] at a
  exact a.1.symm
end Go.Num
