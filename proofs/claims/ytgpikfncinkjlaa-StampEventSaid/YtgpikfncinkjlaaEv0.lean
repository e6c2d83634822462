/- Walks and laws. -/
import Derived.Test.YtgpikfncinkjlaaId0
import Derived.Test.YtgpikfncinkjlaaIdD
set_option linter.unusedSimpArgs false
set_option linter.unusedVariables false
namespace Go.Tr
open Go Go.Abs
def roughE : Int → Int → T → Bool
  | _, l, .mk n [] => decide (0 ≤ n ∧ n ≤ l)
  | d, l, .mk n [a, b] => decide (0 ≤ n ∧ n ≤ l ∧ d ≠ 0) && roughE (d - 1) (l - n) a && roughE (d - 1) (l - n) b
  | _, _, _ => false
  termination_by structural _ _ t => t
theorem roughE_no {d l n : Int} {ks : List T} (h0 : ks.length ≠ 0) (h2 : ks.length ≠ 2) : roughE d l (.mk n ks) = false := by
  match ks, h0, h2 with
  | [], h, _ => exact absurd rfl h
  | [a], _, _ => simp [roughE]
  | [a, b], _, h => exact absurd rfl h
  | a :: b :: c :: r, _, _ => simp [roughE]
def liftT (k : Int) (t : T) : T := .mk (t.n + k) t.ks
def nodeE (n : Int) (l r : T) : T := if l.ks.length = 0 ∧ r.ks.length = 0 ∧ l.n = r.n then .mk (n + min l.n r.n) [] else .mk (n + min l.n r.n) [liftT (-(min l.n r.n)) l, liftT (-(min l.n r.n)) r]
def normE : T → T
  | .mk n [] => .mk n []
  | .mk n [a, b] => nodeE n (normE a) (normE b)
  | t => t
  termination_by structural t => t
theorem roughE_bin : ∀ (t : T) (d l : Int), roughE d l t = true → binT t = true
  | .mk n [], d, l, h => rfl
  | .mk n [a, b], d, l, h => by
    simp only [roughE, Bool.and_eq_true] at h
    simp only [binT, Bool.and_eq_true]
    exact ⟨roughE_bin a _ _ h.1.2, roughE_bin b _ _ h.2⟩
  | .mk n [a], d, l, h => by simp [roughE] at h
  | .mk n (a :: b :: c :: r), d, l, h => by simp [roughE] at h
theorem roughE_kids {d l n : Int} {a b : T} (h : roughE d l (.mk n [a, b]) = true) : 0 ≤ n ∧ n ≤ l ∧ d ≠ 0 ∧ roughE (d - 1) (l - n) a = true ∧ roughE (d - 1) (l - n) b = true := by
  simp only [roughE, Bool.and_eq_true, decide_eq_true_eq] at h
  exact ⟨h.1.1.1, h.1.1.2.1, h.1.1.2.2, h.1.2, h.2⟩
theorem roughE_n {d l : Int} {t : T} (h : roughE d l t = true) : 0 ≤ t.n ∧ t.n ≤ l := by
  match t, h with
  | .mk n [], h => simpa only [roughE, decide_eq_true_eq, T.n_mk] using h
  | .mk n [a, b], h => exact ⟨(roughE_kids h).1, (roughE_kids h).2.1⟩
  | .mk n [a], h => simp [roughE] at h
  | .mk n (a :: b :: c :: r), h => simp [roughE] at h
theorem node_yes {n : Int} {l r : T} (h : l.ks.length = 0 ∧ r.ks.length = 0 ∧ l.n = r.n) : nodeE n l r = .mk (n + min l.n r.n) [] := by rw [nodeE, if_pos h]
theorem node_no {n : Int} {l r : T} (h : ¬ (l.ks.length = 0 ∧ r.ks.length = 0 ∧ l.n = r.n)) : nodeE n l r = .mk (n + min l.n r.n) [liftT (-(min l.n r.n)) l, liftT (-(min l.n r.n)) r] := by rw [nodeE, if_neg h]
theorem normE_two (n : Int) (a b : T) : normE (.mk n [a, b]) = nodeE n (normE a) (normE b) := rfl
theorem size_lift (k : Int) (t : T) : size (liftT k t) = size t := by cases t; simp [liftT, size]
theorem size_node (n : Int) (l r : T) : size (nodeE n l r) ≤ 1 + size l + size r := by
  unfold nodeE; split
  · simp only [size, sizes]; omega
  · simp only [size, sizes, size_lift]; omega
theorem size_normE : ∀ t : T, size (normE t) ≤ size t
  | .mk n [] => Nat.le_refl _
  | .mk n [a, b] => by
    have := size_normE a; have := size_normE b; have := size_node n (normE a) (normE b)
    simp only [normE_two, size, sizes] at *; omega
  | .mk n [a] => Nat.le_refl _
  | .mk n (a :: b :: c :: r) => Nat.le_refl _
theorem bin_lift (k : Int) (t : T) : binT (liftT k t) = binT t := by
  match t with
  | .mk n [] => rfl
  | .mk n [a, b] => rfl
  | .mk n [a] => rfl
  | .mk n (a :: b :: c :: r) => rfl
theorem bin_node {n : Int} {l r : T} (hl : binT l = true) (hr : binT r = true) : binT (nodeE n l r) = true := by
  unfold nodeE; split
  · rfl
  · simp only [binT, bin_lift, hl, hr, Bool.and_self]
theorem bin_normE : ∀ t : T, binT t = true → binT (normE t) = true
  | .mk n [], h => rfl
  | .mk n [a, b], h => by
    have h' := bin_kids h
    exact bin_node (bin_normE a h'.1) (bin_normE b h'.2)
  | .mk n [a], h => by simp [binT] at h
  | .mk n (a :: b :: c :: r), h => by simp [binT] at h
theorem min_if (a b : Int) : (if b < a then b else a) = min a b := by
  rw [Int.min_def]; (repeat' split) <;> omega
/-- a shortened one is as rough -/
theorem roughE_lift {d l k : Int} {t : T} (h : roughE d l t = true) (hk : 0 ≤ t.n + k) : roughE d (l + k) (liftT k t) = true := by
  match t, h with
  | .mk n [], h =>
    simp only [roughE, decide_eq_true_eq, liftT, T.n_mk, T.ks_mk] at *; omega
  | .mk n [a, b], h =>
    obtain ⟨h1, h2, h3, h4, h5⟩ := roughE_kids h
    simp only [T.n_mk] at hk
    simp only [roughE, liftT, T.n_mk, T.ks_mk, Bool.and_eq_true, decide_eq_true_eq]
    have e : l + k - (n + k) = l - n := by omega
    rw [e]
    exact ⟨⟨⟨hk, by omega, h3⟩, h4⟩, h5⟩
  | .mk n [a], h => simp [roughE] at h
  | .mk n (a :: b :: c :: r), h => simp [roughE] at h
theorem roughE_node {d l n : Int} {a b : T} (h0 : 0 ≤ n ∧ n ≤ l ∧ d ≠ 0) (ha : roughE (d - 1) (l - n) a = true) (hb : roughE (d - 1) (l - n) b = true) : roughE d l (nodeE n a b) = true := by
  have na := roughE_n ha
  have nb := roughE_n hb
  by_cases hc : a.ks.length = 0 ∧ b.ks.length = 0 ∧ a.n = b.n
  · rw [node_yes hc]; simp only [roughE, decide_eq_true_eq]; omega
  · rw [node_no hc]
    have e : l - (n + min a.n b.n) = l - n + -(min a.n b.n) := by omega
    have ha' := roughE_lift (k := -(min a.n b.n)) ha (by omega)
    have hb' := roughE_lift (k := -(min a.n b.n)) hb (by omega)
    simp only [roughE, Bool.and_eq_true, decide_eq_true_eq]
    rw [e]
    exact ⟨⟨⟨by omega, by omega, h0.2.2⟩, ha'⟩, hb'⟩
theorem roughE_norm : ∀ (t : T) (d l : Int), roughE d l t = true → roughE d l (normE t) = true
  | .mk n [], d, l, h => h
  | .mk n [a, b], d, l, h => by
    obtain ⟨h1, h2, h3, h4, h5⟩ := roughE_kids h
    exact roughE_node ⟨h1, h2, h3⟩ (roughE_norm a _ _ h4) (roughE_norm b _ _ h5)
  | .mk n [a], d, l, h => by simp [roughE] at h
  | .mk n (a :: b :: c :: r), d, l, h => by simp [roughE] at h
def checkE (t : T) : Bool := roughE 16 1073741824 t && beqT t (normE t)
def normEP (t : T) : T × Int := if roughE 16 1073741824 t = true then (normE t, 0) else (.mk 0 [], 3)
theorem checkE_rough {t : T} (h : checkE t = true) : roughE 16 1073741824 t = true := by
  simp only [checkE, Bool.and_eq_true] at h; exact h.1
theorem checkE_norm {t : T} (h : checkE t = true) : normE t = t := by
  simp only [checkE, Bool.and_eq_true] at h; exact ((beqT_iff _ _).1 h.2).symm
theorem checkE_bin {t : T} (h : checkE t = true) : binT t = true := roughE_bin _ _ _ (checkE_rough h)
/-- one's kid, lifted; a leaf has two -/
def kidE (t : T) (i : Nat) : T := if t.ks.length = 0 then .mk t.n [] else liftT t.n (t.ks.getD i default)
def rawKid (t : T) (i : Nat) : T := if t.ks.length = 0 then .mk 0 [] else t.ks.getD i default
def leqE : Nat → T → T → Bool
  | 0, a, b => decide (a.n ≤ b.n)
  | k + 1, a, b => if a.ks.length = 0 ∧ b.ks.length = 0 then decide (a.n ≤ b.n) else leqE k (kidE a 0) (kidE b 0) && leqE k (kidE a 1) (kidE b 1)
def bothE : Nat → T → T → T
  | 0, a, b => .mk (max a.n b.n) []
  | k + 1, a, b => if a.ks.length = 0 ∧ b.ks.length = 0 then .mk (max a.n b.n) [] else nodeE 0 (bothE k (kidE a 0) (kidE b 0)) (bothE k (kidE a 1) (kidE b 1))
def atE : T → Nat → Int → Int
  | .mk n [], _, _ => n
  | .mk n [a, b], k, p => n + (if bitI p (k - 1) = 0 then atE a (k - 1) p else atE b (k - 1) p)
  | _, _, _ => 0
  termination_by structural t => t
def endE (g : Bool) : T → Int
  | .mk n [] => n
  | .mk n [a, b] => n + (if g = true then max (endE g a) (endE g b) else min (endE g a) (endE g b))
  | _ => 0
  termination_by structural t => t
def leqP (a b : T) : Bool := checkE a && checkE b && leqE 16 a b
def joinP (a b : T) : T × Int := if checkE a = true ∧ checkE b = true then (bothE 16 a b, 0) else (.mk 0 [], 3)
def atP (t : T) (p : Int) : Int := if (0 ≤ p ∧ p < 65536) ∧ checkE t = true then atE t 16 p else 0
def endP (g : Bool) (t : T) : Int := if checkE t = true then endE g t else 0
theorem kidE_leaf {t : T} (h : t.ks.length = 0) (i : Nat) : kidE t i = .mk t.n [] := by rw [kidE, if_pos h]
theorem kidE_in {t : T} (h : t.ks.length ≠ 0) (i : Nat) : kidE t i = liftT t.n (t.ks.getD i default) := by rw [kidE, if_neg h]
theorem depth_lift (k : Int) (t : T) : depthT (liftT k t) = depthT t := by
  match t with
  | .mk n [] => rfl
  | .mk n [a, b] => rfl
  | .mk n [a] => rfl
  | .mk n (a :: b :: c :: r) => rfl
theorem kid_facts {d l : Int} {t : T} (h : roughE d l t = true) (i : Nat) (hi : i < 2) : roughE (d - 1) l (kidE t i) = true ∧ depthT (kidE t i) ≤ depthT t - 1 ∧ size (kidE t i) ≤ size t ∧ (t.ks.length ≠ 0 → size (kidE t i) < size t) := by
  match t, h with
  | .mk n [], h => exact ⟨h, Nat.le_refl _, Nat.le_refl _, fun h => absurd rfl h⟩
  | .mk n [a, b], h =>
    obtain ⟨h1, h2, h3, h4, h5⟩ := roughE_kids h
    have na := roughE_n h4
    have nb := roughE_n h5
    have ha := roughE_lift (k := n) h4 (by omega)
    have hb := roughE_lift (k := n) h5 (by omega)
    rw [show l - n + n = l by omega] at ha hb
    rw [kidE_in (by simp)]
    have e : i = 0 ∨ i = 1 := by omega
    rcases e with rfl | rfl
    · refine ⟨ha, ?_, ?_, fun _ => ?_⟩
      · show depthT (liftT n a) ≤ _; rw [depth_lift]; simp only [depthT]; omega
      · show size (liftT n a) ≤ _; rw [size_lift]; simp only [size, sizes]; omega
      · show size (liftT n a) < _; rw [size_lift]; simp only [size, sizes]; omega
    · refine ⟨hb, ?_, ?_, fun _ => ?_⟩
      · show depthT (liftT n b) ≤ _; rw [depth_lift]; simp only [depthT]; omega
      · show size (liftT n b) ≤ _; rw [size_lift]; simp only [size, sizes]; omega
      · show size (liftT n b) < _; rw [size_lift]; simp only [size, sizes]; omega
  | .mk n [a], h => simp [roughE] at h
  | .mk n (a :: b :: c :: r), h => simp [roughE] at h
theorem depth_leaf {t : T} (h : binT t = true) (hd : depthT t = 0) : t.ks.length = 0 := by
  match t, h with
  | .mk n [], _ => rfl
  | .mk n [a, b], _ => simp only [depthT] at hd; omega
  | .mk n [a], h => simp [binT] at h
  | .mk n (a :: b :: c :: r), h => simp [binT] at h
theorem leqE_leaf {k : Nat} {a b : T} (h : a.ks.length = 0 ∧ b.ks.length = 0) : leqE k a b = decide (a.n ≤ b.n) := by
  cases k
  · rfl
  · rw [leqE, if_pos h]
theorem leqE_in {k : Nat} {a b : T} (h : ¬ (a.ks.length = 0 ∧ b.ks.length = 0)) : leqE (k + 1) a b = (leqE k (kidE a 0) (kidE b 0) && leqE k (kidE a 1) (kidE b 1)) := by rw [leqE, if_neg h]
theorem bothE_leaf {k : Nat} {a b : T} (h : a.ks.length = 0 ∧ b.ks.length = 0) : bothE k a b = .mk (max a.n b.n) [] := by
  cases k
  · rfl
  · rw [bothE, if_pos h]
theorem bothE_in {k : Nat} {a b : T} (h : ¬ (a.ks.length = 0 ∧ b.ks.length = 0)) : bothE (k + 1) a b = nodeE 0 (bothE k (kidE a 0) (kidE b 0)) (bothE k (kidE a 1) (kidE b 1)) := by rw [bothE, if_neg h]
theorem roughE_both : ∀ (k : Nat) (a b : T) (d l : Int), 0 ≤ d → roughE d l a = true → roughE d l b = true → depthT a ≤ k → depthT b ≤ k → (k : Int) ≤ d → roughE d l (bothE k a b) = true
  | 0, a, b, d, l, h0, ha, hb, da, db, hk => by
    have na := roughE_n ha
    have nb := roughE_n hb
    simp only [bothE, roughE, decide_eq_true_eq]; omega
  | k + 1, a, b, d, l, h0, ha, hb, da, db, hk => by
    have na := roughE_n ha
    have nb := roughE_n hb
    by_cases hc : a.ks.length = 0 ∧ b.ks.length = 0
    · rw [bothE_leaf hc]; simp only [roughE, decide_eq_true_eq]; omega
    · rw [bothE_in hc]
      have a0 := kid_facts ha 0 (by omega)
      have a1 := kid_facts ha 1 (by omega)
      have b0 := kid_facts hb 0 (by omega)
      have b1 := kid_facts hb 1 (by omega)
      refine roughE_node ⟨by omega, by omega, by omega⟩ ?_ ?_
      · rw [Int.sub_zero]; exact roughE_both k _ _ (d - 1) l (by omega) a0.1 b0.1 (by omega) (by omega) (by omega)
      · rw [Int.sub_zero]; exact roughE_both k _ _ (d - 1) l (by omega) a1.1 b1.1 (by omega) (by omega) (by omega)
theorem at_two (n : Int) (a b : T) (k : Nat) (p : Int) : atE (.mk n [a, b]) k p = n + (if bitI p (k - 1) = 0 then atE a (k - 1) p else atE b (k - 1) p) := rfl
theorem at_end {t : T} (h : t.ks.length = 0) (k : Nat) (p : Int) : atE t k p = t.n := by
  match t, h with
  | .mk n [], _ => rfl
theorem at_step {d : Nat} {l p : Int} {t : T} (h : roughE d l t = true) (hk : t.ks.length ≠ 0) : 0 < d ∧ roughE ((d - 1 : Nat) : Int) (l - t.n) (t.ks.getD (bitI p (d - 1)) default) = true ∧ t.n + atE (t.ks.getD (bitI p (d - 1)) default) (d - 1) p = atE t d p := by
  match t, h, hk with
  | .mk n [], _, hk => exact absurd rfl hk
  | .mk n [a, b], h, _ =>
    obtain ⟨h1, h2, h3, h4, h5⟩ := roughE_kids h
    have hd : 0 < d := by omega
    rw [show ((d - 1 : Nat) : Int) = (d : Int) - 1 by omega]
    simp only [T.ks_mk, T.n_mk]
    rw [bit_get, at_two]
    refine ⟨hd, by split <;> assumption, ?_⟩
    split <;> rfl
  | .mk n [a], h, _ => simp [roughE] at h
  | .mk n (a :: b :: c :: r), h, _ => simp [roughE] at h
theorem end_two (g : Bool) (n : Int) (a b : T) : endE g (.mk n [a, b]) = n + (if g = true then max (endE g a) (endE g b) else min (endE g a) (endE g b)) := rfl
theorem end_rng (g : Bool) : ∀ (t : T) (d l : Int), roughE d l t = true → 0 ≤ endE g t ∧ endE g t ≤ l
  | .mk n [], d, l, h => by show 0 ≤ n ∧ n ≤ l; simpa only [roughE, decide_eq_true_eq] using h
  | .mk n [a, b], d, l, h => by
    obtain ⟨h1, h2, h3, h4, h5⟩ := roughE_kids h
    have ha := end_rng g a _ _ h4
    have hb := end_rng g b _ _ h5
    rw [end_two]; split <;> omega
  | .mk n [a], d, l, h => by simp [roughE] at h
  | .mk n (a :: b :: c :: r), d, l, h => by simp [roughE] at h
theorem max_if (a b : Int) : (if b > a then b else a) = max a b := by
  rw [Int.max_def]; (repeat' split) <;> omega
theorem roughE_depth : ∀ (t : T) (d l : Int), 0 ≤ d → roughE d l t = true → (depthT t : Int) ≤ d
  | .mk n [], d, l, h0, h => by simpa [depthT] using h0
  | .mk n [a, b], d, l, h0, h => by
    obtain ⟨h1, h2, h3, h4, h5⟩ := roughE_kids h
    have ha := roughE_depth a (d - 1) _ (by omega) h4
    have hb := roughE_depth b (d - 1) _ (by omega) h5
    simp only [depthT]; omega
  | .mk n [a], d, l, h0, h => by simp [roughE] at h
  | .mk n (a :: b :: c :: r), d, l, h0, h => by simp [roughE] at h
theorem checkE_depth {t : T} (h : checkE t = true) : depthT t ≤ 16 := by
  have := roughE_depth t 16 _ (by omega) (checkE_rough h)
  omega
theorem roughE_mono {d l l' : Int} {t : T} (h : roughE d l t = true) (hl : l ≤ l') : roughE d l' t = true := by
  match t, h with
  | .mk n [], h => simp only [roughE, decide_eq_true_eq] at *; omega
  | .mk n [a, b], h =>
    obtain ⟨h1, h2, h3, h4, h5⟩ := roughE_kids h
    simp only [roughE, Bool.and_eq_true, decide_eq_true_eq]
    exact ⟨⟨⟨h1, by omega, h3⟩, roughE_mono h4 (by omega)⟩, roughE_mono h5 (by omega)⟩
  | .mk n [a], h => simp [roughE] at h
  | .mk n (a :: b :: c :: r), h => simp [roughE] at h
theorem lift_zero (t : T) : liftT 0 t = t := by cases t; simp [liftT]
end Go.Tr
