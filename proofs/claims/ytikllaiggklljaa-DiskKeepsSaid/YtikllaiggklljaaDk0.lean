/- Walks and laws. -/
import Derived.Test.YtikllaiggklljaaLibC
import Derived.Test.YtikllaiggklljaaInsFi
import Derived.Test.YtikllaiggklljaaDelFi
import Derived.Test.YtikllaiggklljaaProg
set_option maxRecDepth 100000
set_option linter.unusedSimpArgs false
set_option linter.unusedVariables false
namespace Go.Dk
open Go Go.Abs Go.Proofs
theorem recs_length {α : Type} (f : α → List AVal) (k : Nat) (hf : ∀ a, (f a).length = k) (l : List α) : (l.flatMap f).length = l.length * k := by
  induction l with
  | nil => simp
  | cons a l ih => rw [List.flatMap_cons, List.length_append, hf, ih, List.length_cons, Nat.add_mul, Nat.one_mul]; omega
theorem recs_data {α : Type} (f : α → List AVal) (hf : ∀ a, dataAll (f a) = true) (l : List α) : dataAll (l.flatMap f) = true := by
  induction l with
  | nil => rfl
  | cons a l ih => rw [List.flatMap_cons, dataAll_append, hf, ih]; rfl
theorem recs_at {α : Type} (f : α → List AVal) (k : Nat) (hf : ∀ a, (f a).length = k) (d : α) (l : List α) (i : Nat) (h : i < l.length) : List.take k (List.drop (i * k) (l.flatMap f)) = f (l.getD i d) := by
  induction l generalizing i with
  | nil => simp at h
  | cons a l ih =>
    cases i with
    | zero => rw [Nat.zero_mul, List.drop_zero, List.flatMap_cons, List.take_left' (hf a)]; rfl
    | succ i =>
      rw [List.flatMap_cons, show (i + 1) * k = (f a).length + i * k by rw [hf, Nat.add_mul, Nat.one_mul]; omega, List.drop_length_add_append, ih i (by simpa using h)]; rfl
theorem recs_get {α : Type} (f : α → List AVal) (k : Nat) (hf : ∀ a, (f a).length = k) (d : α) (l : List α) (i j : Nat) (h : i < l.length) (hj : j < k) : List.getD (l.flatMap f) (i * k + j) .undef = (f (l.getD i d)).getD j .undef := by
  rw [← recs_at f k hf d l i h]
  simp only [List.getD_eq_getElem?_getD, List.getElem?_take, if_pos hj, List.getElem?_drop]
theorem recs_take {α : Type} (f : α → List AVal) (k : Nat) (hf : ∀ a, (f a).length = k) : ∀ (l : List α) (i : Nat), (l.take i).flatMap f = (l.flatMap f).take (i * k)
  | [], i => by simp
  | a :: l, 0 => by simp
  | a :: l, i + 1 => by
    rw [List.take_succ_cons, List.flatMap_cons, List.flatMap_cons, show (i + 1) * k = (f a).length + i * k by rw [hf, Nat.add_mul, Nat.one_mul]; omega, List.take_length_add_append, recs_take f k hf l i]
theorem recs_drop {α : Type} (f : α → List AVal) (k : Nat) (hf : ∀ a, (f a).length = k) : ∀ (l : List α) (i : Nat), (l.drop i).flatMap f = (l.flatMap f).drop (i * k)
  | [], i => by simp
  | a :: l, 0 => by simp
  | a :: l, i + 1 => by
    rw [List.drop_succ_cons, List.flatMap_cons, show (i + 1) * k = (f a).length + i * k by rw [hf, Nat.add_mul, Nat.one_mul]; omega, List.drop_length_add_append, recs_drop f k hf l i]
/-- A file. -/
structure FileD where
  nm : ByteArray
  d : List Int
  sf : Int
def fic (f : FileD) : List AVal := [.sc (.string f.nm), .sl (u8s f.d) f.d.length .any, .sc (.int .i64 f.sf)]
def fisc (l : List FileD) : List AVal := l.flatMap fic
def fi0 : FileD := ⟨.empty, [], 0⟩
@[simp] theorem fisc_length (l : List FileD) : (fisc l).length = l.length * 3 := recs_length fic 3 (fun _ => rfl) l
@[simp] theorem fisc_data (l : List FileD) : dataAll (fisc l) = true := recs_data fic (fun f => by simp [fic, dataAll, AVal.data]) l
theorem fi_cells (l : List FileD) (i : Nat) (h : i < l.length) : [List.getD (fisc l) (i * 3) .undef, List.getD (fisc l) (i * 3 + 1) .undef, List.getD (fisc l) (i * 3 + 2) .undef] = fic (l.getD i fi0) := by
  have e0 : List.getD (fisc l) (i * 3) .undef = (fic (l.getD i fi0)).getD 0 .undef := recs_get fic 3 (fun _ => rfl) fi0 l i 0 h (by omega)
  have e1 : List.getD (fisc l) (i * 3 + 1) .undef = (fic (l.getD i fi0)).getD 1 .undef := recs_get fic 3 (fun _ => rfl) fi0 l i 1 h (by omega)
  have e2 : List.getD (fisc l) (i * 3 + 2) .undef = (fic (l.getD i fi0)).getD 2 .undef := recs_get fic 3 (fun _ => rfl) fi0 l i 2 h (by omega)
  rw [e0, e1, e2]; rfl
theorem fi_0 (l : List FileD) (i : Nat) (h : i < l.length) : List.getD (fisc l) (i * 3) .undef = .sc (.string (l.getD i fi0).nm) := recs_get fic 3 (fun _ => rfl) fi0 l i 0 h (by omega)
theorem fi_1 (l : List FileD) (i : Nat) (h : i < l.length) : List.getD (fisc l) (i * 3 + 1) .undef = .sl (u8s (l.getD i fi0).d) (l.getD i fi0).d.length .any := recs_get fic 3 (fun _ => rfl) fi0 l i 1 h (by omega)
theorem fi_2 (l : List FileD) (i : Nat) (h : i < l.length) : List.getD (fisc l) (i * 3 + 2) .undef = .sc (.int .i64 (l.getD i fi0).sf) := recs_get fic 3 (fun _ => rfl) fi0 l i 2 h (by omega)
theorem fi_app (l : List FileD) (a : ByteArray) (d : List Int) (s : Int) : fisc l ++ [.sc (.string a), .sl (u8s d) (List.length d) .any, .sc (.int .i64 s)] = fisc (l ++ [⟨a, d, s⟩]) := by simp [fisc, fic]
theorem fic_one (x : FileD) : ∀ j, j < (fic x).length → ((fic x).getD j .undef).one = true := by
  intro j hj; rcases j with _ | _ | _ | j <;> first | rfl | (exfalso; simp [fic] at hj; done) | (exfalso; simp [fic] at hj; omega)
theorem fisc_one (l : List FileD) : ∀ j, j < (fisc l).length → ((fisc l).getD j .undef).one = true := by
  intro j hj
  have hm : (fisc l).getD j .undef ∈ fisc l := by
    rw [List.getD_eq_getElem?_getD, List.getElem?_eq_getElem hj]; exact List.getElem_mem hj
  generalize (fisc l).getD j .undef = y at hm
  simp only [fisc, List.mem_flatMap] at hm
  obtain ⟨x, _, hy⟩ := hm
  obtain ⟨k, hk⟩ := List.mem_iff_getElem?.1 hy
  have hkl : k < (fic x).length := by
    rcases Nat.lt_or_ge k (fic x).length with h | h
    · exact h
    · rw [List.getElem?_eq_none h] at hk; cases hk
  have := fic_one x k hkl
  rw [List.getD_eq_getElem?_getD, hk] at this
  exact this
def delD (l : List FileD) (i : Nat) : List FileD := l.take i ++ l.drop (i + 1)
def insD (l : List FileD) (i : Nat) (x : FileD) : List FileD := l.take i ++ x :: l.drop i
theorem fi_delete (l : List FileD) (i : Nat) (hi : i < l.length) (hx : l.length ≤ 100000) : EvK Try.prog 84 [.row 0 0 l.length, .sc (.int .i64 i), .sc (.int .i64 ((i : Int) + 1))] ⟨fisc l, 3, .fresh⟩ (.sl (fisc (delD l i)) (l.length - 1) .any) ⟨[], 3, .dead⟩ :=
  del84_raw.evK (by omega) (by simp) (by simp) (fisc_one l) hi hx (by
    rw [delD, fisc, List.flatMap_append, recs_take fic 3 (fun _ => rfl), recs_drop fic 3 (fun _ => rfl)]; rfl)
theorem fi_insert (l : List FileD) (i : Nat) (x : FileD) (hi : i ≤ l.length) (hx : l.length ≤ 1000) : EvK Try.prog 87 [.row 0 0 l.length, .sc (.int .i64 i), .sl (fic x) 1 .any] ⟨fisc l, 3, .fresh⟩ (.sl (fisc (insD l i x)) (l.length + 1) .any) ⟨[], 3, .dead⟩ :=
  ins87_raw.evK (by omega) (by omega) (by simp) (by simp) (fisc_one l) rfl (by simp [fic, dataAll, AVal.data]) (fic_one x) hi (by omega) (by
    rw [insD, fisc, List.flatMap_append, List.flatMap_cons, recs_take fic 3 (fun _ => rfl), recs_drop fic 3 (fun _ => rfl)]; exact (List.append_assoc _ _ _).symm)
/-! ### Names -/
theorem bytesLess_eq : ∀ (x y : List UInt8), Op.bytesLess x y = decide (x < y)
  | [], [] => by simp [Op.bytesLess]
  | _ :: _, [] => by simp [Op.bytesLess]
  | [], _ :: _ => by simp [Op.bytesLess]
  | a :: x, b :: y => by
    rw [Op.bytesLess, bytesLess_eq x y]
    simp only [List.cons_lt_cons_iff]
    by_cases h1 : a < b <;> by_cases h2 : a = b <;> by_cases h3 : x < y <;> simp [h1, h2, h3]
def ltB (a b : ByteArray) : Prop := a.data.toList < b.data.toList
instance (a b : ByteArray) : Decidable (ltB a b) := by unfold ltB; infer_instance
def leB (a b : ByteArray) : Prop := ltB a b ∨ a = b
instance (a b : ByteArray) : Decidable (leB a b) := by unfold leB; infer_instance
theorem lt_dec (a b : ByteArray) : Op.bytesLess (ByteArray.toList a) (ByteArray.toList b) = decide (ltB a b) := by
  rw [bytesLess_eq, ba_toList, ba_toList]; rfl
theorem ltB_irr (a : ByteArray) : ¬ ltB a a := List.lt_irrefl _
theorem ltB_trans {a b c : ByteArray} (h : ltB a b) (h2 : ltB b c) : ltB a c := List.lt_trans h h2
theorem ltB_tri {a b : ByteArray} (h : ¬ leB a b) : ltB b a := by
  unfold leB ltB at *
  rcases Decidable.em (b.data.toList < a.data.toList) with h1 | h1
  · exact h1
  · exfalso
    have h2 : ¬ a.data.toList < b.data.toList := fun e => h (Or.inl e)
    have h3 : a.data.toList = b.data.toList := List.le_antisymm (List.not_lt.1 h1) (List.not_lt.1 h2)
    exact h (Or.inr (ByteArray.ext (Array.ext' h3)))
def namedP (s : ByteArray) : Prop := s.size ≠ 0 ∧ s.size ≤ 16
instance (s : ByteArray) : Decidable (namedP s) := by unfold namedP; infer_instance
def usedL : List FileD → Int
  | [] => 0
  | f :: l => (f.d.length : Int) + usedL l
theorem usedL_nn (l : List FileD) : 0 ≤ usedL l := by
  induction l with
  | nil => simp [usedL]
  | cons a l ih => simp only [usedL]; omega
theorem usedL_app (l m : List FileD) : usedL (l ++ m) = usedL l + usedL m := by
  induction l with
  | nil => simp [usedL]
  | cons a l ih => simp only [usedL, List.cons_append, ih]; omega
theorem usedL_succ (l : List FileD) (i : Nat) (h : i < l.length) : usedL (l.take (i + 1)) = usedL (l.take i) + (l.getD i fi0).d.length := by
  rw [List.take_add_one, usedL_app, List.getElem?_eq_getElem h, List.getD_eq_getElem?_getD, List.getElem?_eq_getElem h]
  simp [usedL]
theorem usedL_take_le (l : List FileD) (i : Nat) : usedL (l.take i) ≤ usedL l := by
  have h := usedL_app (l.take i) (l.drop i)
  rw [List.take_append_drop] at h
  have := usedL_nn (l.drop i)
  omega
def leftL (room : Int) (l : List FileD) : Nat → Int
  | 0 => room
  | i + 1 => leftL room l i - ((l.getD i fi0).d.length : Int)
theorem leftL_eq (room : Int) (l : List FileD) (i : Nat) (h : i ≤ l.length) : leftL room l i = room - usedL (l.take i) := by
  induction i with
  | zero => simp [leftL, usedL]
  | succ i ih => rw [leftL, ih (by omega), usedL_succ l i (by omega)]; omega
/-- What may be. -/
def okF (room : Int) (l : List FileD) (i : Nat) : Prop := namedP (l.getD i fi0).nm ∧ 0 ≤ (l.getD i fi0).sf ∧ (l.getD i fi0).sf ≤ (l.getD i fi0).d.length ∧ (l.getD i fi0).d.length ≤ leftL room l i ∧ (0 < i → ¬ leB (l.getD i fi0).nm (l.getD (i - 1) fi0).nm)
instance (room : Int) (l : List FileD) (i : Nat) : Decidable (okF room l i) := by unfold okF; infer_instance
def okD (room arm : Int) (l : List FileD) : Prop := 0 ≤ room ∧ room ≤ 1048576 ∧ -1 ≤ arm ∧ l.length ≤ 64 ∧ ∀ i, i < l.length → okF room l i
instance (room arm : Int) (l : List FileD) : Decidable (okD room arm l) := by unfold okD; infer_instance
theorem dec_no {p : Prop} [Decidable p] (h : ¬ p) : AVal.sc (.bool false) = .sc (.bool (decide p)) := by rw [decide_eq_false h]
theorem dec_yes {p : Prop} [Decidable p] (h : p) : AVal.sc (.bool true) = .sc (.bool (decide p)) := by rw [decide_eq_true h]
theorem succ_all {P : Nat → Prop} {i : Nat} (hd : ∀ j, j < i → P j) (h : P i) : ∀ j, j < i + 1 → P j := by
  intro j hj
  rcases Nat.lt_or_ge j i with h1 | h1
  · exact hd j h1
  · have : j = i := by omega
    subst this; exact h
theorem dec_t {P : Program} {f : FuncId} {args : List AVal} {p : Prop} [Decidable p] (h : EvD P f args (.sc (.bool (decide p)))) (hp : p) : EvD P f args (.sc (.bool true)) := by
  rwa [decide_eq_true hp] at h
theorem mixed : Try.prog.follows .mixedOrders = true := by kernel_rfl
/-- The first file that is not ahead of a name. -/
def low (l : List FileD) (s : ByteArray) : Nat := (l.takeWhile fun f => decide (ltB f.nm s)).length
def has (l : List FileD) (s : ByteArray) : Prop := low l s < l.length ∧ (l.getD (low l s) fi0).nm = s
instance (l : List FileD) (s : ByteArray) : Decidable (has l s) := by unfold has; infer_instance
def Srt (l : List FileD) : Prop := l.Pairwise fun a b => ltB a.nm b.nm
theorem low_le (l : List FileD) (s : ByteArray) : low l s ≤ l.length := (List.takeWhile_sublist _).length_le
theorem low_spec {l : List FileD} (hs : Srt l) (s : ByteArray) (h : Nat) (hh : h < l.length) : ltB (l.getD h fi0).nm s ↔ h < low l s := by
  unfold low
  induction l generalizing h with
  | nil => simp at hh
  | cons a l ih =>
    have hp := List.pairwise_cons.1 hs
    by_cases ha : ltB a.nm s
    · rw [List.takeWhile_cons_of_pos (by simpa using ha)]
      cases h with
      | zero => simpa using ha
      | succ h => simpa using ih hp.2 h (by simpa using hh)
    · rw [List.takeWhile_cons_of_neg (by simpa using ha)]
      cases h with
      | zero => simpa using ha
      | succ h =>
        have hm : l.getD h fi0 ∈ l := by
          have hh' : h < l.length := by simpa using hh
          rw [List.getD_eq_getElem?_getD, List.getElem?_eq_getElem hh']; exact List.getElem_mem hh'
        have := hp.1 _ hm
        simp only [List.getD_cons_succ, List.length_nil, Nat.not_lt_zero, iff_false]
        intro e
        exact ha (ltB_trans this e)
theorem okD_srt {room arm : Int} {l : List FileD} (h : okD room arm l) : Srt l := by
  have h5 : ∀ i, i < l.length → 0 < i → ltB (l.getD (i - 1) fi0).nm (l.getD i fi0).nm := fun i hi h0 => ltB_tri ((h.2.2.2.2 i hi).2.2.2.2 h0)
  clear h
  unfold Srt
  induction l with
  | nil => exact .nil
  | cons a l ih =>
    have hl := ih fun i hi h0 => by
      have := h5 (i + 1) (by simpa using hi) (by omega)
      rw [show i + 1 - 1 = (i - 1) + 1 by omega] at this
      simpa using this
    refine List.pairwise_cons.2 ⟨fun b hb => ?_, hl⟩
    cases l with
    | nil => simp at hb
    | cons c l =>
      have h1 : ltB a.nm c.nm := by simpa using h5 1 (by simp) (by omega)
      rcases List.mem_cons.1 hb with rfl | hb
      · exact h1
      · exact ltB_trans h1 ((List.pairwise_cons.1 hl).1 b hb)
end Go.Dk
