/- Walks and laws. -/
import Derived.Test.YtikllaiggklljaaLibC
import Derived.Test.YtikllaiggklljaaDelFl
import Derived.Test.YtikllaiggklljaaProg
set_option maxRecDepth 100000
set_option linter.unusedSimpArgs false
set_option linter.unusedVariables false
namespace Go.Net
open Go Go.Abs Go.Proofs
theorem mixed : Try.prog.follows .mixedOrders = true := by kernel_rfl
theorem recs_length {α : Type} (f : α → List AVal) (k : Nat) (hf : ∀ a, (f a).length = k) (l : List α) : (l.flatMap f).length = l.length * k := by
  induction l with
  | nil => simp
  | cons a l ih => rw [List.flatMap_cons, List.length_append, hf, ih, List.length_cons, Nat.add_mul, Nat.one_mul]; omega
theorem recs_data {α : Type} (f : α → List AVal) (hf : ∀ a, dataAll (f a) = true) (l : List α) : dataAll (l.flatMap f) = true := by
  induction l with
  | nil => rfl
  | cons a l ih => rw [List.flatMap_cons, dataAll_append, hf, ih]; rfl
theorem recs_at {α : Type} (f : α → List AVal) (k : Nat) (hf : ∀ a, (f a).length = k) (d : α) (l : List α) (i : Nat) (h : i < l.length) : List.take k (List.drop (i * k) (l.flatMap f)) = f (l.getD i d) := by
  induction l generalizing i with
  | nil => simp at h
  | cons a l ih =>
    cases i with
    | zero => rw [Nat.zero_mul, List.drop_zero, List.flatMap_cons, List.take_left' (hf a)]; rfl
    | succ i =>
      rw [List.flatMap_cons, show (i + 1) * k = (f a).length + i * k by rw [hf, Nat.add_mul, Nat.one_mul]; omega, List.drop_length_add_append, ih i (by simpa using h)]; rfl
theorem recs_get {α : Type} (f : α → List AVal) (k : Nat) (hf : ∀ a, (f a).length = k) (d : α) (l : List α) (i j : Nat) (h : i < l.length) (hj : j < k) : List.getD (l.flatMap f) (i * k + j) .undef = (f (l.getD i d)).getD j .undef := by
  rw [← recs_at f k hf d l i h]
  simp only [List.getD_eq_getElem?_getD, List.getElem?_take, if_pos hj, List.getElem?_drop]
theorem recs_take {α : Type} (f : α → List AVal) (k : Nat) (hf : ∀ a, (f a).length = k) : ∀ (l : List α) (i : Nat), (l.take i).flatMap f = (l.flatMap f).take (i * k)
  | [], i => by simp
  | a :: l, 0 => by simp
  | a :: l, i + 1 => by
    rw [List.take_succ_cons, List.flatMap_cons, List.flatMap_cons, show (i + 1) * k = (f a).length + i * k by rw [hf, Nat.add_mul, Nat.one_mul]; omega, List.take_length_add_append, recs_take f k hf l i]
theorem recs_drop {α : Type} (f : α → List AVal) (k : Nat) (hf : ∀ a, (f a).length = k) : ∀ (l : List α) (i : Nat), (l.drop i).flatMap f = (l.flatMap f).drop (i * k)
  | [], i => by simp
  | a :: l, 0 => by simp
  | a :: l, i + 1 => by
    rw [List.drop_succ_cons, List.flatMap_cons, show (i + 1) * k = (f a).length + i * k by rw [hf, Nat.add_mul, Nat.one_mul]; omega, List.drop_length_add_append, recs_drop f k hf l i]
/-- A message on its way. -/
structure FlD where
  num : Int
  to : Int
  d : List Int
  sp : Bool
def flc (f : FlD) : List AVal := [.sc (.int .i64 f.num), .sc (.int .i64 f.to), .sl (u8s f.d) f.d.length .any, .sc (.bool f.sp)]
def flsc (l : List FlD) : List AVal := l.flatMap flc
def fl0 : FlD := ⟨0, 0, [], false⟩
@[simp] theorem flsc_length (l : List FlD) : (flsc l).length = l.length * 4 := recs_length flc 4 (fun _ => rfl) l
@[simp] theorem flsc_data (l : List FlD) : dataAll (flsc l) = true := recs_data flc (fun f => by simp [flc, dataAll, AVal.data]) l
theorem fl_cells (l : List FlD) (i : Nat) (h : i < l.length) : [List.getD (flsc l) (i * 4) .undef, List.getD (flsc l) (i * 4 + 1) .undef, List.getD (flsc l) (i * 4 + 2) .undef, List.getD (flsc l) (i * 4 + 3) .undef] = flc (l.getD i fl0) := by
  have e0 : List.getD (flsc l) (i * 4) .undef = (flc (l.getD i fl0)).getD 0 .undef := recs_get flc 4 (fun _ => rfl) fl0 l i 0 h (by omega)
  have e1 : List.getD (flsc l) (i * 4 + 1) .undef = (flc (l.getD i fl0)).getD 1 .undef := recs_get flc 4 (fun _ => rfl) fl0 l i 1 h (by omega)
  have e2 : List.getD (flsc l) (i * 4 + 2) .undef = (flc (l.getD i fl0)).getD 2 .undef := recs_get flc 4 (fun _ => rfl) fl0 l i 2 h (by omega)
  have e3 : List.getD (flsc l) (i * 4 + 3) .undef = (flc (l.getD i fl0)).getD 3 .undef := recs_get flc 4 (fun _ => rfl) fl0 l i 3 h (by omega)
  rw [e0, e1, e2, e3]; rfl
theorem fl_0 (l : List FlD) (i : Nat) (h : i < l.length) : List.getD (flsc l) (i * 4) .undef = .sc (.int .i64 (l.getD i fl0).num) := recs_get flc 4 (fun _ => rfl) fl0 l i 0 h (by omega)
theorem fl_2 (l : List FlD) (i : Nat) (h : i < l.length) : List.getD (flsc l) (i * 4 + 2) .undef = .sl (u8s (l.getD i fl0).d) (l.getD i fl0).d.length .any := recs_get flc 4 (fun _ => rfl) fl0 l i 2 h (by omega)
theorem fl_app (l : List FlD) (a b : Int) (d : List Int) (s : Bool) : flsc l ++ [.sc (.int .i64 a), .sc (.int .i64 b), .sl (u8s d) (List.length d) .any, .sc (.bool s)] = flsc (l ++ [⟨a, b, d, s⟩]) := by simp [flsc, flc]
theorem fl_dat (l : List FlD) (a b : Int) (d : List Int) (s : Bool) : dataAll (flsc l ++ [.sc (.int .i64 a), .sc (.int .i64 b), .sl (u8s d) (List.length d) .any, .sc (.bool s)]) = true := by rw [fl_app]; simp
theorem flc_one (x : FlD) : ∀ j, j < (flc x).length → ((flc x).getD j .undef).one = true := by
  intro j hj; rcases j with _ | _ | _ | _ | j <;> first | rfl | (exfalso; simp [flc] at hj; done) | (exfalso; simp [flc] at hj; omega)
theorem fl_ones (a b : Int) (d : List Int) (s : Bool) : ∀ q, q < 4 → AVal.one (List.getD [AVal.sc (.int .i64 a), .sc (.int .i64 b), .sl (u8s d) (List.length d) .any, .sc (.bool s)] q .undef) = true := flc_one ⟨a, b, d, s⟩
theorem flsc_one (l : List FlD) : ∀ j, j < (flsc l).length → ((flsc l).getD j .undef).one = true := by
  intro j hj
  have hm : (flsc l).getD j .undef ∈ flsc l := by
    rw [List.getD_eq_getElem?_getD, List.getElem?_eq_getElem hj]; exact List.getElem_mem hj
  generalize (flsc l).getD j .undef = y at hm
  simp only [flsc, List.mem_flatMap] at hm
  obtain ⟨x, _, hy⟩ := hm
  obtain ⟨k, hk⟩ := List.mem_iff_getElem?.1 hy
  have hkl : k < (flc x).length := by
    rcases Nat.lt_or_ge k (flc x).length with h | h
    · exact h
    · rw [List.getElem?_eq_none h] at hk; cases hk
  have := flc_one x k hkl
  rw [List.getD_eq_getElem?_getD, hk] at this
  exact this
theorem fl_delete (l : List FlD) (i : Nat) (hi : i < l.length) (hx : l.length ≤ 100000) : EvK Try.prog 55 [.row 0 0 l.length, .sc (.int .i64 i), .sc (.int .i64 ((i : Int) + 1))] ⟨flsc l, 4, .fresh⟩ (.sl (flsc (l.take i ++ l.drop (i + 1))) (l.length - 1) .any) ⟨[], 4, .dead⟩ :=
  del55_raw.evK (by omega) (by simp) (by simp) (flsc_one l) hi hx (by
    rw [flsc, List.flatMap_append, recs_take flc 4 (fun _ => rfl), recs_drop flc 4 (fun _ => rfl)]; rfl)
/-- What may be. -/
def okN (next : Int) (l : List FlD) : Prop := 0 ≤ next ∧ next ≤ 1073741824 ∧ l.length ≤ 4096 ∧ ∀ i, i < l.length → (0 ≤ (l.getD i fl0).num ∧ (l.getD i fl0).num < next ∧ (1 ≤ i → (l.getD (i - 1) fl0).num < (l.getD i fl0).num) ∧ (1 ≤ (l.getD i fl0).to ∧ (l.getD i fl0).to ≤ 12) ∧ (l.getD i fl0).d.length ≠ 0)
instance (next : Int) (l : List FlD) : Decidable (okN next l) := by unfold okN; infer_instance
def fewP (l : List FlD) : Prop := l.length ≤ 40 ∧ ∀ i, i < l.length → (l.getD i fl0).d.length ≤ 2000
instance (l : List FlD) : Decidable (fewP l) := by unfold fewP; infer_instance
def BtsL (l : List FlD) : Prop := ∀ i, i < l.length → Bts (l.getD i fl0).d
theorem dec_no {p : Prop} [Decidable p] (h : ¬ p) : AVal.sc (.bool false) = .sc (.bool (decide p)) := by rw [decide_eq_false h]
theorem dec_yes {p : Prop} [Decidable p] (h : p) : AVal.sc (.bool true) = .sc (.bool (decide p)) := by rw [decide_eq_true h]
theorem succ_all {P : Nat → Prop} {i : Nat} (hd : ∀ j, j < i → P j) (h : P i) : ∀ j, j < i + 1 → P j := by
  intro j hj
  rcases Nat.lt_or_ge j i with h1 | h1
  · exact hd j h1
  · have : j = i := by omega
    subst this; exact h
theorem dec_t {P : Program} {f : FuncId} {args : List AVal} {p : Prop} [Decidable p] (h : EvD P f args (.sc (.bool (decide p)))) (hp : p) : EvD P f args (.sc (.bool true)) := by
  rwa [decide_eq_true hp] at h
theorem dec_f {P : Program} {f : FuncId} {args : List AVal} {p : Prop} [Decidable p] (h : EvD P f args (.sc (.bool (decide p)))) (hp : ¬ p) : EvD P f args (.sc (.bool false)) := by
  rwa [decide_eq_false hp] at h
end Go.Net
