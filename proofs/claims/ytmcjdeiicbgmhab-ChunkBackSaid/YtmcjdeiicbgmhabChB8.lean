/- Walks and laws. -/
import Derived.Test.YtmcjdeiicbgmhabChB7
import Derived.Test.YtmcjdeiicbgmhabLibB
set_option maxRecDepth 100000
set_option maxHeartbeats 0
set_option linter.unusedSimpArgs false
set_option linter.unusedVariables false
namespace Go.Chu
open Go Go.Abs Go.Proofs
theorem flat_pcs (b : List Int) (i : Nat) : (pcs b i).flatten = b.take (512 * i) := by
  induction i with
  | zero => simp [pcs_zero]
  | succ i ih =>
    rw [pcs_succ, List.flatten_append, ih, show 512 * (i + 1) = 512 * i + 512 by omega, List.take_add]
    simp
theorem flat_pieces (b : List Int) : (pcs b (np b)).flatten = b := by
  rw [flat_pcs, List.take_of_length_le]
  have := npn_spec b.length
  show b.length ≤ 512 * npn b.length
  omega
def op00 : Go.Ops.TxD := ⟨0, 0, fun _ => 0, 0, []⟩
def mt0 : MT := ⟨0, 0, 0, op00, fun _ => 0, fun _ => 0, false, 0, 0, 0, [], .mk 0 [], .mk 0 [], []⟩
def mcells (x : MT) : List AVal := msgl (x.toM .on)
def mss (l : List MT) : List AVal := l.flatMap mcells
theorem msgl_data (M : MsgD) : dataAll (msgl M) = true := msgc_data .on M
theorem mcells_length (x : MT) : (mcells x).length = 56 := by
  have := msgc_length .on (x.toM .on)
  exact this
@[simp] theorem mss_length (l : List MT) : (mss l).length = l.length * 56 := by
  induction l with
  | nil => rfl
  | cons a l ih => simp only [mss, List.flatMap_cons, List.length_append, mcells_length, List.length_cons] at ih ⊢; omega
theorem mss_data (l : List MT) : dataAll (mss l) = true := by
  induction l with
  | nil => rfl
  | cons a l ih => rw [mss, List.flatMap_cons, dataAll_append]; exact Bool.and_eq_true_iff.2 ⟨msgc_data .on (a.toM .on), ih⟩
theorem mss_at (l : List MT) (i : Nat) (h : i < l.length) : List.take 56 (List.drop (i * 56) (mss l)) = mcells (l.getD i mt0) := by
  induction l generalizing i with
  | nil => simp at h
  | cons a l ih =>
    cases i with
    | zero => rw [Nat.zero_mul, List.drop_zero, mss, List.flatMap_cons, List.take_left' (mcells_length a)]; rfl
    | succ i =>
      rw [show (i + 1) * 56 = 56 + i * 56 by omega, ← List.drop_drop, mss, List.flatMap_cons, List.drop_left' (mcells_length a), List.getD_cons_succ]
      exact ih i (by simpa using h)
theorem mss_cells (l : List MT) (i : Nat) (h : i < l.length) : (List.getD (mss l) (i * 56) .undef :: List.getD (mss l) (i * 56 + 1) .undef :: List.getD (mss l) (i * 56 + 2) .undef :: List.getD (mss l) (i * 56 + 3) .undef :: List.getD (mss l) (i * 56 + 4) .undef :: List.getD (mss l) (i * 56 + 5) .undef :: List.getD (mss l) (i * 56 + 6) .undef :: List.getD (mss l) (i * 56 + 7) .undef :: List.getD (mss l) (i * 56 + 8) .undef :: List.getD (mss l) (i * 56 + 9) .undef :: List.getD (mss l) (i * 56 + 10) .undef :: List.getD (mss l) (i * 56 + 11) .undef :: List.getD (mss l) (i * 56 + 12) .undef :: List.getD (mss l) (i * 56 + 13) .undef :: List.getD (mss l) (i * 56 + 14) .undef :: List.getD (mss l) (i * 56 + 15) .undef :: List.getD (mss l) (i * 56 + 16) .undef :: List.getD (mss l) (i * 56 + 17) .undef :: List.getD (mss l) (i * 56 + 18) .undef :: List.getD (mss l) (i * 56 + 19) .undef :: List.getD (mss l) (i * 56 + 20) .undef :: List.getD (mss l) (i * 56 + 21) .undef :: List.getD (mss l) (i * 56 + 22) .undef :: List.getD (mss l) (i * 56 + 23) .undef :: List.getD (mss l) (i * 56 + 24) .undef :: List.getD (mss l) (i * 56 + 25) .undef :: List.getD (mss l) (i * 56 + 26) .undef :: List.getD (mss l) (i * 56 + 27) .undef :: List.getD (mss l) (i * 56 + 28) .undef :: List.getD (mss l) (i * 56 + 29) .undef :: List.getD (mss l) (i * 56 + 30) .undef :: List.getD (mss l) (i * 56 + 31) .undef :: List.getD (mss l) (i * 56 + 32) .undef :: List.getD (mss l) (i * 56 + 33) .undef :: List.getD (mss l) (i * 56 + 34) .undef :: List.getD (mss l) (i * 56 + 35) .undef :: List.getD (mss l) (i * 56 + 36) .undef :: List.getD (mss l) (i * 56 + 37) .undef :: List.getD (mss l) (i * 56 + 38) .undef :: List.getD (mss l) (i * 56 + 39) .undef :: List.getD (mss l) (i * 56 + 40) .undef :: List.getD (mss l) (i * 56 + 41) .undef :: List.getD (mss l) (i * 56 + 42) .undef :: List.getD (mss l) (i * 56 + 43) .undef :: List.getD (mss l) (i * 56 + 44) .undef :: List.getD (mss l) (i * 56 + 45) .undef :: List.getD (mss l) (i * 56 + 46) .undef :: List.getD (mss l) (i * 56 + 47) .undef :: List.getD (mss l) (i * 56 + 48) .undef :: List.getD (mss l) (i * 56 + 49) .undef :: List.getD (mss l) (i * 56 + 50) .undef :: List.getD (mss l) (i * 56 + 51) .undef :: List.getD (mss l) (i * 56 + 52) .undef :: List.getD (mss l) (i * 56 + 53) .undef :: List.getD (mss l) (i * 56 + 54) .undef :: List.getD (mss l) (i * 56 + 55) .undef :: ([] : List AVal)) = mcells (l.getD i mt0) := by
  have e0 : List.getD (mss l) (i * 56) .undef = List.getD (mss l) (i * 56 + 0) .undef := rfl
  rw [e0]
  rw [Go.Ops.getD_seg _ (i * 56) 56 0 (by omega), Go.Ops.getD_seg _ (i * 56) 56 1 (by omega), Go.Ops.getD_seg _ (i * 56) 56 2 (by omega), Go.Ops.getD_seg _ (i * 56) 56 3 (by omega), Go.Ops.getD_seg _ (i * 56) 56 4 (by omega), Go.Ops.getD_seg _ (i * 56) 56 5 (by omega), Go.Ops.getD_seg _ (i * 56) 56 6 (by omega), Go.Ops.getD_seg _ (i * 56) 56 7 (by omega), Go.Ops.getD_seg _ (i * 56) 56 8 (by omega), Go.Ops.getD_seg _ (i * 56) 56 9 (by omega), Go.Ops.getD_seg _ (i * 56) 56 10 (by omega), Go.Ops.getD_seg _ (i * 56) 56 11 (by omega), Go.Ops.getD_seg _ (i * 56) 56 12 (by omega), Go.Ops.getD_seg _ (i * 56) 56 13 (by omega), Go.Ops.getD_seg _ (i * 56) 56 14 (by omega), Go.Ops.getD_seg _ (i * 56) 56 15 (by omega), Go.Ops.getD_seg _ (i * 56) 56 16 (by omega), Go.Ops.getD_seg _ (i * 56) 56 17 (by omega), Go.Ops.getD_seg _ (i * 56) 56 18 (by omega), Go.Ops.getD_seg _ (i * 56) 56 19 (by omega), Go.Ops.getD_seg _ (i * 56) 56 20 (by omega), Go.Ops.getD_seg _ (i * 56) 56 21 (by omega), Go.Ops.getD_seg _ (i * 56) 56 22 (by omega), Go.Ops.getD_seg _ (i * 56) 56 23 (by omega), Go.Ops.getD_seg _ (i * 56) 56 24 (by omega), Go.Ops.getD_seg _ (i * 56) 56 25 (by omega), Go.Ops.getD_seg _ (i * 56) 56 26 (by omega), Go.Ops.getD_seg _ (i * 56) 56 27 (by omega), Go.Ops.getD_seg _ (i * 56) 56 28 (by omega), Go.Ops.getD_seg _ (i * 56) 56 29 (by omega), Go.Ops.getD_seg _ (i * 56) 56 30 (by omega), Go.Ops.getD_seg _ (i * 56) 56 31 (by omega), Go.Ops.getD_seg _ (i * 56) 56 32 (by omega), Go.Ops.getD_seg _ (i * 56) 56 33 (by omega), Go.Ops.getD_seg _ (i * 56) 56 34 (by omega), Go.Ops.getD_seg _ (i * 56) 56 35 (by omega), Go.Ops.getD_seg _ (i * 56) 56 36 (by omega), Go.Ops.getD_seg _ (i * 56) 56 37 (by omega), Go.Ops.getD_seg _ (i * 56) 56 38 (by omega), Go.Ops.getD_seg _ (i * 56) 56 39 (by omega), Go.Ops.getD_seg _ (i * 56) 56 40 (by omega), Go.Ops.getD_seg _ (i * 56) 56 41 (by omega), Go.Ops.getD_seg _ (i * 56) 56 42 (by omega), Go.Ops.getD_seg _ (i * 56) 56 43 (by omega), Go.Ops.getD_seg _ (i * 56) 56 44 (by omega), Go.Ops.getD_seg _ (i * 56) 56 45 (by omega), Go.Ops.getD_seg _ (i * 56) 56 46 (by omega), Go.Ops.getD_seg _ (i * 56) 56 47 (by omega), Go.Ops.getD_seg _ (i * 56) 56 48 (by omega), Go.Ops.getD_seg _ (i * 56) 56 49 (by omega), Go.Ops.getD_seg _ (i * 56) 56 50 (by omega), Go.Ops.getD_seg _ (i * 56) 56 51 (by omega), Go.Ops.getD_seg _ (i * 56) 56 52 (by omega), Go.Ops.getD_seg _ (i * 56) 56 53 (by omega), Go.Ops.getD_seg _ (i * 56) 56 54 (by omega), Go.Ops.getD_seg _ (i * 56) 56 55 (by omega), mss_at l i h]
  rfl
theorem pieceI (f m : Int) (b : List Int) (i : Nat) (h : i < np b) : EvD Try.prog 12 [.agg [.sc (.int .i64 f), .sc (.int .i64 m), .sc (.int .i64 (np b : Int)), .sl (bss (pieces b)) (np b) .any], .sc (.int .i64 (i : Int)), .sc (.int .i64 2)] (.tup [.agg (msgl (pieceM 4 f 2 m i (np b) (piece b i))), .sc (.bool true)]) := by
  have h1 := piece_yes .on f m (np b) i 2 (pieces b) (fun j hj => by
    rw [pieces_length] at hj
    rw [pieces_getD b j hj, piece_length]; omega) (by rw [pieces_length]; omega)
  rw [Int.toNat_natCast, pieces_getD b i h, pieces_length] at h1
  exact h1
theorem takeI (f m f1 m1 o1 : Int) (b : List Int) (i : Nat) (h : i < np b) (hp : np b ≤ 4096) (hi : 0 < i → f1 = f ∧ m1 = m ∧ o1 = np b) : EvD Try.prog 14 [.agg [.sc (.int .i64 f1), .sc (.int .i64 m1), .sc (.int .i64 o1), .sl (bss (pcs b i)) i .any], .agg (msgl (pieceM 4 f 2 m i (np b) (piece b i)))] (.tup [.agg [.sc (.int .i64 f), .sc (.int .i64 m), .sc (.int .i64 (np b : Int)), .sl (bss (pcs b (i + 1))) (i + 1) .any], .sc (.bool true)]) := by
  have hd : (piece b i).length ≤ 1000000 := by rw [piece_length]; omega
  by_cases h0 : i = 0
  · subst h0
    exact take_first .on (pieceM 4 f 2 m 0 (np b) (piece b 0)) f1 m1 o1 (pcs b 0) hd ⟨rfl, rfl, by show (0 : Int) < np b; omega, by show (np b : Int) ≤ 4096; omega⟩
  · obtain ⟨rfl, rfl, rfl⟩ := hi (by omega)
    have h2 := take_next .on (pieceM 4 f1 2 m1 i (np b) (piece b i)) (pcs b i) (by rw [pcs_length]; omega) hd ⟨rfl, by show (i : Int) < np b; omega, by show (np b : Int) ≤ 4096; omega, by show (i : Int) ≠ 0; omega, by rw [pcs_length]; rfl⟩
    have h3 : bss (pcs b i ++ [(pieceM 4 f1 2 m1 i (np b) (piece b i)).data]) = bss (pcs b (i + 1)) := by rw [pcs_succ]; rfl
    rw [pcs_length, h3] at h2
    exact h2
theorem takeM (f m : Int) (b : List Int) (i : Nat) (h : i < np b) (hp : np b ≤ 4096) : EvD Try.prog 14 [.agg [.sc (.int .i64 f), .sc (.int .i64 m), .sc (.int .i64 (np b : Int)), .sl (bss (pcs b (i + 1))) (i + 1) .any], .agg (msgl (pieceM 4 f 2 m i (np b) (piece b i)))] (.tup [.agg [.sc (.int .i64 f), .sc (.int .i64 m), .sc (.int .i64 (np b : Int)), .sl (bss (pcs b (i + 1))) (i + 1) .any], .sc (.bool (decide (i = 0)))]) := by
  have hd : (piece b i).length ≤ 1000000 := by rw [piece_length]; omega
  by_cases h0 : i = 0
  · subst h0
    exact take_first .on (pieceM 4 f 2 m 0 (np b) (piece b 0)) f m (np b) (pcs b 1) hd ⟨rfl, rfl, by show (0 : Int) < np b; omega, by show (np b : Int) ≤ 4096; omega⟩
  · rw [decide_eq_false h0]
    have h2 := take_no .on (pieceM 4 f 2 m i (np b) (piece b i)) f m (np b) (pcs b (i + 1)) (.inr (.inr (.inr (.inr ⟨by show (i : Int) ≠ 0; omega, .inr (.inr (.inr (by rw [pcs_length]; show (i : Int) ≠ ((i + 1 : Nat) : Int); omega)))⟩))))
    rw [pcs_length] at h2
    exact h2
theorem takeO (f m : Int) (b : List Int) (i : Nat) (x : MT) (h : x.n ≠ 0 ∧ (x.f ≠ f ∨ x.nu ≠ m)) : EvD Try.prog 14 [.agg [.sc (.int .i64 f), .sc (.int .i64 m), .sc (.int .i64 (np b : Int)), .sl (bss (pcs b (i + 1))) (i + 1) .any], .agg (mcells x)] (.tup [.agg [.sc (.int .i64 f), .sc (.int .i64 m), .sc (.int .i64 (np b : Int)), .sl (bss (pcs b (i + 1))) (i + 1) .any], .sc (.bool false)]) := by
  have h2 := take_no .on (x.toM .on) f m (np b) (pcs b (i + 1)) (.inr (.inr (.inr (.inr ⟨h.1, by rcases h.2 with h | h; exact .inl h; exact .inr (.inl h)⟩))))
  rw [pcs_length] at h2
  exact h2
theorem doneI (f m : Int) (b : List Int) (i : Nat) : EvD Try.prog 23 [.agg [.sc (.int .i64 f), .sc (.int .i64 m), .sc (.int .i64 (np b : Int)), .sl (bss (pcs b (i + 1))) (i + 1) .any]] (.sc (.bool (decide (np b = i + 1)))) := by
  have h := done f m (np b) (pcs b (i + 1))
  rw [pcs_length] at h
  have e : decide (0 < (np b : Int) ∧ (np b : Int) = ((i + 1 : Nat) : Int)) = decide (np b = i + 1) := decide_eq_decide.2 (by omega)
  rw [e] at h
  exact h
theorem sameI (f m : Int) (b : List Int) (i : Nat) (h : i ≤ 100000) : EvD Try.prog 19 [.agg [.sc (.int .i64 f), .sc (.int .i64 m), .sc (.int .i64 (np b : Int)), .sl (bss (pcs b (i + 1))) (i + 1) .any], .agg [.sc (.int .i64 f), .sc (.int .i64 m), .sc (.int .i64 (np b : Int)), .sl (bss (pcs b (i + 1))) (i + 1) .any]] (.sc (.bool true)) := by
  have h := r_same f m (np b) (pcs b (i + 1)) (by rw [pcs_length]; omega)
  rw [pcs_length] at h
  exact h
theorem joinI (f1 m1 o1 : Int) (b : List Int) (i : Nat) (h : i = np b) (h2 : b.length ≤ 6000) : EvD Try.prog 26 [.agg [.sc (.int .i64 f1), .sc (.int .i64 m1), .sc (.int .i64 o1), .sl (bss (pcs b i)) i .any]] (.sl (u8s b) b.length .any) := by
  subst h
  have hn := npn_spec b.length
  have h := join f1 m1 o1 (pcs b (np b)) (by rw [pcs_length]; show npn _ ≤ _; omega) (by rw [flat_pieces]; omega)
  rw [pcs_length, flat_pieces] at h
  exact h
end Go.Chu
