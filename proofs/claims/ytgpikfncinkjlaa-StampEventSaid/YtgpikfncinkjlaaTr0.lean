/- Walks and laws. -/
import Derived.Test.YtgpikfncinkjlaaProg
import Derived.Test.YtgpikfncinkjlaaLibB
set_option maxRecDepth 100000
set_option maxHeartbeats 0
set_option linter.unusedSimpArgs false
set_option linter.unusedVariables false
namespace Go.Tr
open Go Go.Abs Go.Proofs
theorem mixed : Try.prog.follows .mixedOrders = true := by kernel_rfl
/-- A tree as it is handed in. -/
inductive T where
  | mk (n : Int) (ks : List T)
instance : Inhabited T := ⟨.mk 0 []⟩
def T.n : T → Int | .mk n _ => n
def T.ks : T → List T | .mk _ ks => ks
@[simp] theorem T.n_mk (n : Int) (ks : List T) : (T.mk n ks).n = n := rfl
@[simp] theorem T.ks_mk (n : Int) (ks : List T) : (T.mk n ks).ks = ks := rfl
theorem T.eta (t : T) : t = .mk t.n t.ks := by cases t; rfl
mutual
def tc : T → List AVal
  | .mk n ks => [.sc (.int .i64 n), .sl (tcs ks) ks.length .any]
def tcs : List T → List AVal
  | [] => []
  | t :: r => tc t ++ tcs r
end
abbrev tl (k : List T) : AVal := .sl (tcs k) k.length .any
theorem tc_eta (t : T) : tc t = [.sc (.int .i64 t.n), .sl (tcs t.ks) t.ks.length .any] := by cases t; rw [tc]; rfl
theorem tc_length (t : T) : (tc t).length = 2 := by cases t; rw [tc]; rfl
theorem tcs_flat (l : List T) : tcs l = l.flatMap tc := by
  induction l with
  | nil => rfl
  | cons a l ih => rw [tcs, ih]; rfl
@[simp] theorem tcs_length (l : List T) : (tcs l).length = l.length * 2 := by
  induction l with
  | nil => rfl
  | cons a l ih => rw [tcs, List.length_append, ih, tc_length, List.length_cons]; omega
mutual
def size : T → Nat
  | .mk _ ks => 1 + sizes ks
def sizes : List T → Nat
  | [] => 0
  | t :: r => size t + sizes r
end
mutual
def beqT : T → T → Bool
  | .mk n ks, .mk m ls => n == m && beqTs ks ls
def beqTs : List T → List T → Bool
  | [], [] => true
  | a :: l, b :: m => beqT a b && beqTs l m
  | _, _ => false
end
mutual
theorem beqT_iff : ∀ a b : T, beqT a b = true ↔ a = b
  | .mk n ks, .mk m ls => by
    rw [beqT, Bool.and_eq_true, beqTs_iff ks ls, beq_iff_eq]
    constructor
    · rintro ⟨rfl, rfl⟩; rfl
    · intro h; injection h with h1 h2; exact ⟨h1, h2⟩
theorem beqTs_iff : ∀ a b : List T, beqTs a b = true ↔ a = b
  | [], [] => by simp [beqTs]
  | [], _ :: _ => by simp [beqTs]
  | _ :: _, [] => by simp [beqTs]
  | a :: l, b :: m => by rw [beqTs, Bool.and_eq_true, beqT_iff a b, beqTs_iff l m]; simp
end
theorem size_pos (t : T) : 1 ≤ size t := by cases t; rw [size]; omega
theorem sizes_get : ∀ (l : List T) (i : Nat), i < l.length → size (l.getD i default) ≤ sizes l
  | [], i, h => by simp at h
  | a :: l, 0, h => by rw [sizes]; simp
  | a :: l, i + 1, h => by
    have := sizes_get l i (by simpa using h)
    rw [sizes]; simp only [List.getD_cons_succ]; omega
theorem length_sizes : ∀ l : List T, l.length ≤ sizes l
  | [] => by simp
  | a :: l => by have := length_sizes l; have := size_pos a; rw [sizes, List.length_cons]; omega
theorem tcs_at (l : List T) (i : Nat) (h : i < l.length) : ((tcs l).drop (i * 2)).take 2 = tc (l.getD i default) := by
  induction l generalizing i with
  | nil => simp at h
  | cons a l ih =>
    cases i with
    | zero => rw [tcs]; simp only [Nat.zero_mul, List.drop_zero, List.getD_cons_zero]; rw [List.take_append_of_le_length (by rw [tc_length]; omega), List.take_of_length_le (by rw [tc_length]; omega)]
    | succ i =>
      rw [tcs, List.getD_cons_succ, ← ih i (by simpa using h)]
      congr 1
      rw [List.drop_append, List.drop_eq_nil_of_le (by rw [tc_length]; omega), List.nil_append, tc_length]
      congr 1; omega
theorem tcs_cells (l : List T) (i : Nat) (h : i < l.length) : [List.getD (tcs l) (i * 2) .undef, List.getD (tcs l) (i * 2 + 1) .undef] = [.sc (.int .i64 (l.getD i default).n), .sl (tcs (l.getD i default).ks) (l.getD i default).ks.length .any] := by
  have h0 := tcs_at l i h
  rw [tc_eta] at h0
  have hl : (tcs l).length = l.length * 2 := tcs_length l
  have h1 : ∀ j, j < 2 → (tcs l).getD (i * 2 + j) .undef = (((tcs l).drop (i * 2)).take 2).getD j .undef := by
    intro j hj
    simp only [List.getD_eq_getElem?_getD]
    rw [List.getElem?_take_of_lt hj, List.getElem?_drop]
  have e0 := h1 0 (by omega)
  have e1 := h1 1 (by omega)
  rw [h0] at e0 e1
  simp only [Nat.add_zero] at e0
  rw [e0, e1]; rfl
theorem T.mk_eta (t : T) : T.mk t.n t.ks = t := (T.eta t).symm
def minI (s : Nat) (m : Int) : Int := if (s : Int) ≤ m then s else m + 1
theorem minI_le (s : Nat) (m : Int) : minI s m ≤ m + 1 := by unfold minI; split <;> omega
theorem minI_pos {s : Nat} {m : Int} (h : 1 ≤ s) (hm : 0 ≤ m) : 1 ≤ minI s m := by unfold minI; split <;> omega
theorem minI_add (s k : Nat) (m : Int) (h : minI s m ≤ m) : minI s m + minI k (m - minI s m) = minI (s + k) m := by
  unfold minI at *
  split at h
  · rename_i h1; simp only [h1, if_true]; (repeat' split) <;> omega
  · omega
theorem minI_top (s k : Nat) (m : Int) (h : ¬ minI s m ≤ m) : minI s m = minI (s + k) m := by
  unfold minI at *
  (repeat' split at h) <;> (repeat' split) <;> omega
theorem sizes_take (l : List T) (i : Nat) (h : i < l.length) : sizes (l.take (i + 1)) = sizes (l.take i) + size (l.getD i default) := by
  induction l generalizing i with
  | nil => simp at h
  | cons a l ih =>
    cases i with
    | zero => simp [sizes]
    | succ i =>
      have := ih i (by simpa using h)
      simp only [List.take_succ_cons, sizes, List.getD_cons_succ] at *
      omega
theorem sizes_take_le (l : List T) (i : Nat) : sizes (l.take i) ≤ sizes l := by
  induction l generalizing i with
  | nil => simp
  | cons a l ih =>
    cases i with
    | zero => simp [sizes]
    | succ i => have := ih i; simp only [List.take_succ_cons, sizes]; omega
theorem tcs0 : tcs [] = [] := rfl
theorem tcs2 (a b : Int) (k l : List T) : tcs [.mk a k, .mk b l] = [.sc (.int .i64 a), .sl (tcs k) k.length .any, .sc (.int .i64 b), .sl (tcs l) l.length .any] := rfl
theorem tcs_pair (x y : T) : tcs [x, y] = [.sc (.int .i64 x.n), .sl (tcs x.ks) x.ks.length .any, .sc (.int .i64 y.n), .sl (tcs y.ks) y.ks.length .any] := by
  cases x; cases y; rfl
theorem two_of {ks : List T} (h : ks.length = 2) : ∃ a k b l, ks = [.mk a k, .mk b l] := by
  match ks, h with
  | [.mk a k, .mk b l], _ => exact ⟨a, k, b, l, rfl⟩
end Go.Tr
