/- Walks and laws. -/
import Derived.Test.YtgpikfncinkjlaaEv0
set_option linter.unusedSimpArgs false
set_option linter.unusedVariables false
namespace Go.Tr
open Go Go.Abs
theorem size_bothE : ∀ (k : Nat) (a b : T), size (bothE k a b) < 2 ^ (k + 1)
  | 0, a, b => by simp [bothE, size, sizes]
  | k + 1, a, b => by
    rw [bothE]; split
    · have : 1 ≤ 2 ^ k := Nat.one_le_two_pow
      simp only [size, sizes, Nat.pow_succ] at *; omega
    · have h1 := size_bothE k (kidE a 0) (kidE b 0)
      have h2 := size_bothE k (kidE a 1) (kidE b 1)
      have := size_node 0 (bothE k (kidE a 0) (kidE b 0)) (bothE k (kidE a 1) (kidE b 1))
      rw [Nat.pow_succ]; omega
theorem size_joinP (a b : T) : size (joinP a b).1 ≤ 131072 := by
  unfold joinP; split
  · have := size_bothE 16 a b
    have e : 2 ^ (16 + 1) = 131072 := by decide
    show size (bothE 16 a b) ≤ _
    omega
  · simp only [size, sizes]; omega
/-! ### along a path -/
def valE : T → (Nat → Bool) → Int
  | .mk n [], _ => n
  | .mk n [a, b], f => n + (if f 0 = true then valE b (fun i => f (i + 1)) else valE a (fun i => f (i + 1)))
  | _, _ => 0
  termination_by structural t => t
def pathD (c : Bool) (f : Nat → Bool) : Nat → Bool
  | 0 => c
  | i + 1 => f i
theorem val_one (n : Int) (f : Nat → Bool) : valE (.mk n []) f = n := rfl
theorem val_two (n : Int) (a b : T) (f : Nat → Bool) : valE (.mk n [a, b]) f = n + (if f 0 = true then valE b (fun i => f (i + 1)) else valE a (fun i => f (i + 1))) := rfl
theorem val_l (n : Int) (a b : T) (f : Nat → Bool) : valE (.mk n [a, b]) (pathD false f) = n + valE a f := by rw [val_two, if_neg (by simp [pathD])]; rfl
theorem val_r (n : Int) (a b : T) (f : Nat → Bool) : valE (.mk n [a, b]) (pathD true f) = n + valE b f := by rw [val_two, if_pos (show pathD true f 0 = true from rfl)]; rfl
theorem val_leaf {t : T} (h : t.ks.length = 0) (f : Nat → Bool) : valE t f = t.n := by
  match t, h with
  | .mk n [], _ => rfl
theorem val_lift (k : Int) (t : T) (f : Nat → Bool) (h : binT t = true) : valE (liftT k t) f = valE t f + k := by
  match t, h with
  | .mk n [], _ => rfl
  | .mk n [a, b], _ => show valE (.mk (n + k) [a, b]) f = _; rw [val_two, val_two]; omega
  | .mk n [a], h => simp [binT] at h
  | .mk n (a :: b :: c :: r), h => simp [binT] at h
theorem val_node (n : Int) (l r : T) (f : Nat → Bool) (hl : binT l = true) (hr : binT r = true) : valE (nodeE n l r) f = n + (if f 0 = true then valE r (fun i => f (i + 1)) else valE l (fun i => f (i + 1))) := by
  by_cases hc : l.ks.length = 0 ∧ r.ks.length = 0 ∧ l.n = r.n
  · rw [node_yes hc, val_one, val_leaf hc.1, val_leaf hc.2.1, hc.2.2]; split <;> omega
  · rw [node_no hc, val_two, val_lift _ _ _ hl, val_lift _ _ _ hr]; split <;> omega
theorem bin_kid {t : T} (h : binT t = true) (i : Nat) (hi : i < 2) : binT (kidE t i) = true := by
  match t, h with
  | .mk n [], h => rfl
  | .mk n [a, b], h =>
    have h' := bin_kids h
    rw [kidE_in (by simp), bin_lift]
    have e : i = 0 ∨ i = 1 := by omega
    rcases e with rfl | rfl
    · exact h'.1
    · exact h'.2
  | .mk n [a], h => simp [binT] at h
  | .mk n (a :: b :: c :: r), h => simp [binT] at h
theorem val_kid0 {t : T} (h : binT t = true) (f : Nat → Bool) : valE (kidE t 0) f = valE t (pathD false f) := by
  match t, h with
  | .mk n [], h => rfl
  | .mk n [a, b], h =>
    have h' := bin_kids h
    rw [kidE_in (by simp), val_l]; show valE (liftT n a) f = _; rw [val_lift _ _ _ h'.1]; omega
  | .mk n [a], h => simp [binT] at h
  | .mk n (a :: b :: c :: r), h => simp [binT] at h
theorem val_kid1 {t : T} (h : binT t = true) (f : Nat → Bool) : valE (kidE t 1) f = valE t (pathD true f) := by
  match t, h with
  | .mk n [], h => rfl
  | .mk n [a, b], h =>
    have h' := bin_kids h
    rw [kidE_in (by simp), val_r]; show valE (liftT n b) f = _; rw [val_lift _ _ _ h'.2]; omega
  | .mk n [a], h => simp [binT] at h
  | .mk n (a :: b :: c :: r), h => simp [binT] at h
theorem path_eta (f : Nat → Bool) : f = pathD (f 0) (fun i => f (i + 1)) := by
  funext i; cases i <;> rfl
theorem depth_kid {t : T} (h : binT t = true) (i : Nat) (hi : i < 2) : depthT (kidE t i) ≤ depthT t - 1 := by
  match t, h with
  | .mk n [], h => exact Nat.le_refl _
  | .mk n [a, b], h =>
    rw [kidE_in (by simp), depth_lift]
    have e : i = 0 ∨ i = 1 := by omega
    rcases e with rfl | rfl
    · show depthT a ≤ _; simp only [depthT]; omega
    · show depthT b ≤ _; simp only [depthT]; omega
  | .mk n [a], h => simp [binT] at h
  | .mk n (a :: b :: c :: r), h => simp [binT] at h
theorem leq_iff : ∀ (k : Nat) (a b : T), binT a = true → binT b = true → depthT a ≤ k → depthT b ≤ k → (leqE k a b = true ↔ ∀ f, valE a f ≤ valE b f)
  | 0, a, b, ha, hb, da, db => by
    have e1 := depth_leaf ha (by omega)
    have e2 := depth_leaf hb (by omega)
    simp only [leqE, decide_eq_true_eq]
    exact ⟨fun h f => by rw [val_leaf e1, val_leaf e2]; exact h, fun h => by have := h (fun _ => false); rwa [val_leaf e1, val_leaf e2] at this⟩
  | k + 1, a, b, ha, hb, da, db => by
    by_cases hc : a.ks.length = 0 ∧ b.ks.length = 0
    · rw [leqE_leaf hc, decide_eq_true_eq]
      exact ⟨fun h f => by rw [val_leaf hc.1, val_leaf hc.2]; exact h, fun h => by have := h (fun _ => false); rwa [val_leaf hc.1, val_leaf hc.2] at this⟩
    · have a0 := depth_kid ha 0 (by omega)
      have a1 := depth_kid ha 1 (by omega)
      have b0 := depth_kid hb 0 (by omega)
      have b1 := depth_kid hb 1 (by omega)
      rw [leqE_in hc, Bool.and_eq_true, leq_iff k _ _ (bin_kid ha 0 (by omega)) (bin_kid hb 0 (by omega)) (by omega) (by omega), leq_iff k _ _ (bin_kid ha 1 (by omega)) (bin_kid hb 1 (by omega)) (by omega) (by omega)]
      constructor
      · rintro ⟨h0, h1⟩ f
        rw [path_eta f]
        cases f 0
        · rw [← val_kid0 ha, ← val_kid0 hb]; exact h0 _
        · rw [← val_kid1 ha, ← val_kid1 hb]; exact h1 _
      · intro h
        exact ⟨fun f => by rw [val_kid0 ha, val_kid0 hb]; exact h _, fun f => by rw [val_kid1 ha, val_kid1 hb]; exact h _⟩
theorem bin_both : ∀ (k : Nat) (a b : T), binT (bothE k a b) = true
  | 0, a, b => rfl
  | k + 1, a, b => by
    rw [bothE]; split
    · rfl
    · exact bin_node (bin_both k _ _) (bin_both k _ _)
theorem val_both : ∀ (k : Nat) (a b : T), binT a = true → binT b = true → depthT a ≤ k → depthT b ≤ k → ∀ f, valE (bothE k a b) f = max (valE a f) (valE b f)
  | 0, a, b, ha, hb, da, db, f => by
    have e1 := depth_leaf ha (by omega)
    have e2 := depth_leaf hb (by omega)
    rw [val_leaf e1, val_leaf e2]; rfl
  | k + 1, a, b, ha, hb, da, db, f => by
    by_cases hc : a.ks.length = 0 ∧ b.ks.length = 0
    · rw [bothE_leaf hc, val_leaf hc.1, val_leaf hc.2]; rfl
    · have a0 := depth_kid ha 0 (by omega)
      have a1 := depth_kid ha 1 (by omega)
      have b0 := depth_kid hb 0 (by omega)
      have b1 := depth_kid hb 1 (by omega)
      rw [bothE_in hc, val_node _ _ _ _ (bin_both _ _ _) (bin_both _ _ _), Int.zero_add,
        val_both k _ _ (bin_kid ha 0 (by omega)) (bin_kid hb 0 (by omega)) (by omega) (by omega), val_both k _ _ (bin_kid ha 1 (by omega)) (bin_kid hb 1 (by omega)) (by omega) (by omega),
        val_kid0 ha, val_kid0 hb, val_kid1 ha, val_kid1 hb]
      have e := path_eta f
      cases h0 : f 0
      · rw [h0] at e; rw [if_neg (by simp), ← e]
      · rw [h0] at e; rw [if_pos rfl, ← e]
/-! ### normal ones -/
theorem node_lift (k n : Int) (l r : T) : liftT k (nodeE n l r) = nodeE (n + k) l r := by
  unfold nodeE; split <;> (simp only [liftT, T.n_mk, T.ks_mk]; congr 1; omega)
theorem norm_lift (k : Int) (t : T) : normE (liftT k t) = liftT k (normE t) := by
  match t with
  | .mk n [] => rfl
  | .mk n [a, b] => show normE (.mk (n + k) [a, b]) = _; rw [normE_two, normE_two, node_lift]
  | .mk n [a] => rfl
  | .mk n (a :: b :: c :: r) => rfl
theorem norm_node {n : Int} {l r : T} (hl : normE l = l) (hr : normE r = r) : normE (nodeE n l r) = nodeE n l r := by
  by_cases hc : l.ks.length = 0 ∧ r.ks.length = 0 ∧ l.n = r.n
  · rw [node_yes hc]; rfl
  · have hc2 : ¬ ((liftT (-(min l.n r.n)) l).ks.length = 0 ∧ (liftT (-(min l.n r.n)) r).ks.length = 0 ∧ (liftT (-(min l.n r.n)) l).n = (liftT (-(min l.n r.n)) r).n) := by
      rintro ⟨h1, h2, h3⟩
      exact hc ⟨h1, h2, by simp only [liftT, T.n_mk] at h3; omega⟩
    rw [node_no hc, normE_two, norm_lift, norm_lift, hl, hr, node_no hc2]
    have e : min (liftT (-(min l.n r.n)) l).n (liftT (-(min l.n r.n)) r).n = 0 := by simp only [liftT, T.n_mk]; omega
    rw [e, Int.neg_zero, lift_zero, lift_zero, Int.add_zero]
theorem norm_both : ∀ (k : Nat) (a b : T), normE (bothE k a b) = bothE k a b
  | 0, a, b => rfl
  | k + 1, a, b => by
    rw [bothE]; split
    · rfl
    · exact norm_node (norm_both k _ _) (norm_both k _ _)
theorem checkE_of {t : T} (h1 : roughE 16 1073741824 t = true) (h2 : normE t = t) : checkE t = true := by
  simp only [checkE, Bool.and_eq_true]; exact ⟨h1, (beqT_iff _ _).2 h2.symm⟩
theorem check_both {a b : T} (ha : checkE a = true) (hb : checkE b = true) : checkE (bothE 16 a b) = true :=
  checkE_of (roughE_both 16 a b 16 _ (by omega) (checkE_rough ha) (checkE_rough hb) (checkE_depth ha) (checkE_depth hb) (by omega)) (norm_both _ _ _)
theorem leqP_iff {a b : T} (ha : checkE a = true) (hb : checkE b = true) : leqP a b = true ↔ ∀ f, valE a f ≤ valE b f := by
  simp only [leqP, ha, hb, Bool.true_and]
  exact leq_iff 16 a b (checkE_bin ha) (checkE_bin hb) (checkE_depth ha) (checkE_depth hb)
/-! ### places -/
theorem at_val : ∀ (t : T) (k : Nat) (p : Int), atE t k p = valE t (fun i => decide (bitI p (k - 1 - i) ≠ 0))
  | .mk n [], k, p => rfl
  | .mk n [a, b], k, p => by
    have ha := at_val a (k - 1) p
    have hb := at_val b (k - 1) p
    have e : (fun i => decide (bitI p (k - 1 - 1 - i) ≠ 0)) = (fun i => decide (bitI p (k - 1 - (i + 1)) ≠ 0)) := by
      funext i; rw [show k - 1 - (i + 1) = k - 1 - 1 - i by omega]
    rw [at_two, val_two, ha, hb, e]
    by_cases h : bitI p (k - 1) = 0
    · rw [if_pos h, if_neg (by simp [h])]
    · rw [if_neg h, if_pos (by simp [h])]
  | .mk n [a], k, p => rfl
  | .mk n (a :: b :: c :: r), k, p => rfl
/-! ### two normal ones with the same counts are one -/
/-! ### what the laws ask -/
theorem join_facts {a b c : T} (ha : checkE a = true) (hb : checkE b = true) (hc : checkE c = true) (p : Int) :
    checkE (bothE 16 a b) = true ∧ leqP a (bothE 16 a b) = true ∧ leqP b (bothE 16 a b) = true ∧ (leqP (bothE 16 a b) c = true ↔ leqP a c = true ∧ leqP b c = true) ∧ atP (bothE 16 a b) p = max (atP a p) (atP b p) := by
  have hj := check_both ha hb
  have hv := val_both 16 a b (checkE_bin ha) (checkE_bin hb) (checkE_depth ha) (checkE_depth hb)
  refine ⟨hj, (leqP_iff ha hj).2 fun f => by rw [hv]; omega, (leqP_iff hb hj).2 fun f => by rw [hv]; omega, ?_, ?_⟩
  · rw [leqP_iff hj hc, leqP_iff ha hc, leqP_iff hb hc]
    exact ⟨fun h => ⟨fun f => by have := h f; rw [hv] at this; omega, fun f => by have := h f; rw [hv] at this; omega⟩, fun h f => by rw [hv]; have := h.1 f; have := h.2 f; omega⟩
  · simp only [atP, ha, hb, hj, and_true]
    split
    · rw [at_val, at_val, at_val, hv]
    · rfl
theorem leqP_refl {a : T} (ha : checkE a = true) : leqP a a = true := (leqP_iff ha ha).2 fun f => Int.le_refl _
end Go.Tr
