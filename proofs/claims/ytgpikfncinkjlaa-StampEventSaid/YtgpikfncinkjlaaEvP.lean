/- Walks and laws. -/
import Derived.Test.YtgpikfncinkjlaaEv0
set_option linter.unusedSimpArgs false
set_option linter.unusedVariables false
namespace Go.Tr
open Go Go.Abs
/-! ### along a path -/
def valE : T → (Nat → Bool) → Int
  | .mk n [], _ => n
  | .mk n [a, b], f => n + (if f 0 = true then valE b (fun i => f (i + 1)) else valE a (fun i => f (i + 1)))
  | _, _ => 0
  termination_by structural t => t
def pathD (c : Bool) (f : Nat → Bool) : Nat → Bool
  | 0 => c
  | i + 1 => f i
theorem val_one (n : Int) (f : Nat → Bool) : valE (.mk n []) f = n := rfl
theorem val_two (n : Int) (a b : T) (f : Nat → Bool) : valE (.mk n [a, b]) f = n + (if f 0 = true then valE b (fun i => f (i + 1)) else valE a (fun i => f (i + 1))) := rfl
theorem val_l (n : Int) (a b : T) (f : Nat → Bool) : valE (.mk n [a, b]) (pathD false f) = n + valE a f := by rw [val_two, if_neg (by simp [pathD])]; rfl
theorem val_r (n : Int) (a b : T) (f : Nat → Bool) : valE (.mk n [a, b]) (pathD true f) = n + valE b f := by rw [val_two, if_pos (show pathD true f 0 = true from rfl)]; rfl
theorem val_leaf {t : T} (h : t.ks.length = 0) (f : Nat → Bool) : valE t f = t.n := by
  match t, h with
  | .mk n [], _ => rfl
theorem val_lift (k : Int) (t : T) (f : Nat → Bool) (h : binT t = true) : valE (liftT k t) f = valE t f + k := by
  match t, h with
  | .mk n [], _ => rfl
  | .mk n [a, b], _ => show valE (.mk (n + k) [a, b]) f = _; rw [val_two, val_two]; omega
  | .mk n [a], h => simp [binT] at h
  | .mk n (a :: b :: c :: r), h => simp [binT] at h
theorem val_node (n : Int) (l r : T) (f : Nat → Bool) (hl : binT l = true) (hr : binT r = true) : valE (nodeE n l r) f = n + (if f 0 = true then valE r (fun i => f (i + 1)) else valE l (fun i => f (i + 1))) := by
  by_cases hc : l.ks.length = 0 ∧ r.ks.length = 0 ∧ l.n = r.n
  · rw [node_yes hc, val_one, val_leaf hc.1, val_leaf hc.2.1, hc.2.2]; split <;> omega
  · rw [node_no hc, val_two, val_lift _ _ _ hl, val_lift _ _ _ hr]; split <;> omega
theorem bin_kid {t : T} (h : binT t = true) (i : Nat) (hi : i < 2) : binT (kidE t i) = true := by
  match t, h with
  | .mk n [], h => rfl
  | .mk n [a, b], h =>
    have h' := bin_kids h
    rw [kidE_in (by simp), bin_lift]
    have e : i = 0 ∨ i = 1 := by omega
    rcases e with rfl | rfl
    · exact h'.1
    · exact h'.2
  | .mk n [a], h => simp [binT] at h
  | .mk n (a :: b :: c :: r), h => simp [binT] at h
theorem val_kid0 {t : T} (h : binT t = true) (f : Nat → Bool) : valE (kidE t 0) f = valE t (pathD false f) := by
  match t, h with
  | .mk n [], h => rfl
  | .mk n [a, b], h =>
    have h' := bin_kids h
    rw [kidE_in (by simp), val_l]; show valE (liftT n a) f = _; rw [val_lift _ _ _ h'.1]; omega
  | .mk n [a], h => simp [binT] at h
  | .mk n (a :: b :: c :: r), h => simp [binT] at h
theorem val_kid1 {t : T} (h : binT t = true) (f : Nat → Bool) : valE (kidE t 1) f = valE t (pathD true f) := by
  match t, h with
  | .mk n [], h => rfl
  | .mk n [a, b], h =>
    have h' := bin_kids h
    rw [kidE_in (by simp), val_r]; show valE (liftT n b) f = _; rw [val_lift _ _ _ h'.2]; omega
  | .mk n [a], h => simp [binT] at h
  | .mk n (a :: b :: c :: r), h => simp [binT] at h
theorem path_eta (f : Nat → Bool) : f = pathD (f 0) (fun i => f (i + 1)) := by
  funext i; cases i <;> rfl
theorem depth_kid {t : T} (h : binT t = true) (i : Nat) (hi : i < 2) : depthT (kidE t i) ≤ depthT t - 1 := by
  match t, h with
  | .mk n [], h => exact Nat.le_refl _
  | .mk n [a, b], h =>
    rw [kidE_in (by simp), depth_lift]
    have e : i = 0 ∨ i = 1 := by omega
    rcases e with rfl | rfl
    · show depthT a ≤ _; simp only [depthT]; omega
    · show depthT b ≤ _; simp only [depthT]; omega
  | .mk n [a], h => simp [binT] at h
  | .mk n (a :: b :: c :: r), h => simp [binT] at h
theorem leq_iff : ∀ (k : Nat) (a b : T), binT a = true → binT b = true → depthT a ≤ k → depthT b ≤ k → (leqE k a b = true ↔ ∀ f, valE a f ≤ valE b f)
  | 0, a, b, ha, hb, da, db => by
    have e1 := depth_leaf ha (by omega)
    have e2 := depth_leaf hb (by omega)
    simp only [leqE, decide_eq_true_eq]
    exact ⟨fun h f => by rw [val_leaf e1, val_leaf e2]; exact h, fun h => by have := h (fun _ => false); rwa [val_leaf e1, val_leaf e2] at this⟩
  | k + 1, a, b, ha, hb, da, db => by
    by_cases hc : a.ks.length = 0 ∧ b.ks.length = 0
    · rw [leqE_leaf hc, decide_eq_true_eq]
      exact ⟨fun h f => by rw [val_leaf hc.1, val_leaf hc.2]; exact h, fun h => by have := h (fun _ => false); rwa [val_leaf hc.1, val_leaf hc.2] at this⟩
    · have a0 := depth_kid ha 0 (by omega)
      have a1 := depth_kid ha 1 (by omega)
      have b0 := depth_kid hb 0 (by omega)
      have b1 := depth_kid hb 1 (by omega)
      rw [leqE_in hc, Bool.and_eq_true, leq_iff k _ _ (bin_kid ha 0 (by omega)) (bin_kid hb 0 (by omega)) (by omega) (by omega), leq_iff k _ _ (bin_kid ha 1 (by omega)) (bin_kid hb 1 (by omega)) (by omega) (by omega)]
      constructor
      · rintro ⟨h0, h1⟩ f
        rw [path_eta f]
        cases f 0
        · rw [← val_kid0 ha, ← val_kid0 hb]; exact h0 _
        · rw [← val_kid1 ha, ← val_kid1 hb]; exact h1 _
      · intro h
        exact ⟨fun f => by rw [val_kid0 ha, val_kid0 hb]; exact h _, fun f => by rw [val_kid1 ha, val_kid1 hb]; exact h _⟩
/-! ### normal ones -/
theorem node_lift (k n : Int) (l r : T) : liftT k (nodeE n l r) = nodeE (n + k) l r := by
  unfold nodeE; split <;> (simp only [liftT, T.n_mk, T.ks_mk]; congr 1; omega)
theorem norm_lift (k : Int) (t : T) : normE (liftT k t) = liftT k (normE t) := by
  match t with
  | .mk n [] => rfl
  | .mk n [a, b] => show normE (.mk (n + k) [a, b]) = _; rw [normE_two, normE_two, node_lift]
  | .mk n [a] => rfl
  | .mk n (a :: b :: c :: r) => rfl
theorem norm_node {n : Int} {l r : T} (hl : normE l = l) (hr : normE r = r) : normE (nodeE n l r) = nodeE n l r := by
  by_cases hc : l.ks.length = 0 ∧ r.ks.length = 0 ∧ l.n = r.n
  · rw [node_yes hc]; rfl
  · have hc2 : ¬ ((liftT (-(min l.n r.n)) l).ks.length = 0 ∧ (liftT (-(min l.n r.n)) r).ks.length = 0 ∧ (liftT (-(min l.n r.n)) l).n = (liftT (-(min l.n r.n)) r).n) := by
      rintro ⟨h1, h2, h3⟩
      exact hc ⟨h1, h2, by simp only [liftT, T.n_mk] at h3; omega⟩
    rw [node_no hc, normE_two, norm_lift, norm_lift, hl, hr, node_no hc2]
    have e : min (liftT (-(min l.n r.n)) l).n (liftT (-(min l.n r.n)) r).n = 0 := by simp only [liftT, T.n_mk]; omega
    rw [e, Int.neg_zero, lift_zero, lift_zero, Int.add_zero]
theorem normE_idem : ∀ t : T, normE (normE t) = normE t
  | .mk n [] => rfl
  | .mk n [a, b] => by rw [normE_two]; exact norm_node (normE_idem a) (normE_idem b)
  | .mk n [a] => rfl
  | .mk n (a :: b :: c :: r) => rfl
theorem checkE_of {t : T} (h1 : roughE 16 1073741824 t = true) (h2 : normE t = t) : checkE t = true := by
  simp only [checkE, Bool.and_eq_true]; exact ⟨h1, (beqT_iff _ _).2 h2.symm⟩
theorem leqP_iff {a b : T} (ha : checkE a = true) (hb : checkE b = true) : leqP a b = true ↔ ∀ f, valE a f ≤ valE b f := by
  simp only [leqP, ha, hb, Bool.true_and]
  exact leq_iff 16 a b (checkE_bin ha) (checkE_bin hb) (checkE_depth ha) (checkE_depth hb)
/-! ### places -/
theorem at_val : ∀ (t : T) (k : Nat) (p : Int), atE t k p = valE t (fun i => decide (bitI p (k - 1 - i) ≠ 0))
  | .mk n [], k, p => rfl
  | .mk n [a, b], k, p => by
    have ha := at_val a (k - 1) p
    have hb := at_val b (k - 1) p
    have e : (fun i => decide (bitI p (k - 1 - 1 - i) ≠ 0)) = (fun i => decide (bitI p (k - 1 - (i + 1)) ≠ 0)) := by
      funext i; rw [show k - 1 - (i + 1) = k - 1 - 1 - i by omega]
    rw [at_two, val_two, ha, hb, e]
    by_cases h : bitI p (k - 1) = 0
    · rw [if_pos h, if_neg (by simp [h])]
    · rw [if_neg h, if_pos (by simp [h])]
  | .mk n [a], k, p => rfl
  | .mk n (a :: b :: c :: r), k, p => rfl
theorem end_val : ∀ (t : T) (d l : Int), roughE d l t = true → ∀ f, endE false t ≤ valE t f ∧ valE t f ≤ endE true t
  | .mk n [], d, l, h, f => ⟨Int.le_refl _, Int.le_refl _⟩
  | .mk n [a, b], d, l, h, f => by
    obtain ⟨_, _, _, h4, h5⟩ := roughE_kids h
    have ha := end_val a _ _ h4 (fun i => f (i + 1))
    have hb := end_val b _ _ h5 (fun i => f (i + 1))
    rw [end_two, end_two, val_two, if_neg (by simp), if_pos rfl]
    split <;> omega
  | .mk n [a], d, l, h, f => by simp [roughE] at h
  | .mk n (a :: b :: c :: r), d, l, h, f => by simp [roughE] at h
/-! ### two normal ones with the same counts are one -/
theorem normE_kids {n : Int} {a b : T} (h : normE (.mk n [a, b]) = .mk n [a, b]) : normE a = a ∧ normE b = b ∧ min a.n b.n = 0 ∧ ¬ (a.ks.length = 0 ∧ b.ks.length = 0 ∧ a.n = b.n) := by
  rw [normE_two] at h
  by_cases hc : (normE a).ks.length = 0 ∧ (normE b).ks.length = 0 ∧ (normE a).n = (normE b).n
  · rw [node_yes hc] at h; injection h with _ h; cases h
  · rw [node_no hc] at h
    injection h with h1 h2
    have hm : min (normE a).n (normE b).n = 0 := by omega
    rw [hm, Int.neg_zero, lift_zero, lift_zero] at h2
    simp only [List.cons.injEq, and_true] at h2
    rw [h2.1, h2.2] at hm hc
    exact ⟨h2.1, h2.2, hm, hc⟩
theorem least_val : ∀ (t : T) (d l : Int), roughE d l t = true → ∀ f, t.n ≤ valE t f
  | .mk n [], d, l, h, f => Int.le_refl _
  | .mk n [a, b], d, l, h, f => by
    obtain ⟨_, _, _, h4, h5⟩ := roughE_kids h
    have ha := least_val a _ _ h4 (fun i => f (i + 1))
    have hb := least_val b _ _ h5 (fun i => f (i + 1))
    have na := roughE_n h4
    have nb := roughE_n h5
    rw [val_two, T.n_mk]; split <;> omega
  | .mk n [a], d, l, h, f => by simp [roughE] at h
  | .mk n (a :: b :: c :: r), d, l, h, f => by simp [roughE] at h
theorem least_is : ∀ (t : T), binT t = true → normE t = t → ∃ f, valE t f = t.n
  | .mk n [], _, _ => ⟨fun _ => false, rfl⟩
  | .mk n [a, b], hb, hn => by
    have hb' := bin_kids hb
    obtain ⟨n1, n2, hm, _⟩ := normE_kids hn
    by_cases h : a.n = 0
    · obtain ⟨f, hf⟩ := least_is a hb'.1 n1
      exact ⟨pathD false f, by rw [val_l, hf, T.n_mk]; omega⟩
    · obtain ⟨f, hf⟩ := least_is b hb'.2 n2
      exact ⟨pathD true f, by rw [val_r, hf, T.n_mk]; omega⟩
  | .mk n [a], h, _ => by simp [binT] at h
  | .mk n (a :: b :: c :: r), h, _ => by simp [binT] at h
theorem inner_more : ∀ (t : T), binT t = true → normE t = t → t.ks.length ≠ 0 → ∃ f g, valE t f ≠ valE t g
  | .mk n [], _, _, h => absurd rfl h
  | .mk n [a, b], hb, hn, _ => by
    have hb' := bin_kids hb
    obtain ⟨n1, n2, hm, hc⟩ := normE_kids hn
    by_cases ha : a.ks.length = 0
    · by_cases hbb : b.ks.length = 0
      · refine ⟨pathD false (fun _ => false), pathD true (fun _ => false), ?_⟩
        rw [val_l, val_r, val_leaf ha, val_leaf hbb]
        intro h; exact hc ⟨ha, hbb, by omega⟩
      · obtain ⟨f, g, h⟩ := inner_more b hb'.2 n2 hbb
        exact ⟨pathD true f, pathD true g, by rw [val_r, val_r]; omega⟩
    · obtain ⟨f, g, h⟩ := inner_more a hb'.1 n1 ha
      exact ⟨pathD false f, pathD false g, by rw [val_l, val_l]; omega⟩
  | .mk n [a], h, _, _ => by simp [binT] at h
  | .mk n (a :: b :: c :: r), h, _, _ => by simp [binT] at h
theorem val_inj : ∀ (a b : T) (d d' l l' : Int), roughE d l a = true → roughE d' l' b = true → normE a = a → normE b = b → (∀ f, valE a f = valE b f) → a = b
  | .mk n [], .mk m ls, d, d', l, l', ra, rb, na, nb, h => by
    by_cases hk : ls.length = 0
    · obtain rfl := List.eq_nil_of_length_eq_zero hk
      have := h (fun _ => false)
      rw [val_one, val_one] at this; rw [this]
    · obtain ⟨f, g, hfg⟩ := inner_more _ (roughE_bin _ _ _ rb) nb hk
      exact absurd (by rw [← h f, ← h g]; rfl) hfg
  | .mk n [a1, a2], .mk m [], d, d', l, l', ra, rb, na, nb, h => by
    obtain ⟨f, g, hfg⟩ := inner_more _ (roughE_bin _ _ _ ra) na (by simp)
    exact absurd (by rw [h f, h g]; rfl) hfg
  | .mk n [a1, a2], .mk m [b1, b2], d, d', l, l', ra, rb, na, nb, h => by
    obtain ⟨f, hf⟩ := least_is _ (roughE_bin _ _ _ ra) na
    obtain ⟨g, hg⟩ := least_is _ (roughE_bin _ _ _ rb) nb
    have h1 := least_val _ _ _ ra g
    have h2 := least_val _ _ _ rb f
    rw [h] at h1
    rw [← h] at h2
    rw [hg] at h1
    rw [hf] at h2
    simp only [T.n_mk] at h1 h2
    have hnm : n = m := by omega
    subst hnm
    obtain ⟨_, _, _, g4, g5⟩ := roughE_kids ra
    obtain ⟨_, _, _, k4, k5⟩ := roughE_kids rb
    obtain ⟨x1, x2, _⟩ := normE_kids na
    obtain ⟨y1, y2, _⟩ := normE_kids nb
    rw [val_inj a1 b1 _ _ _ _ g4 k4 x1 y1 (fun f => by have := h (pathD false f); rw [val_l, val_l] at this; omega),
      val_inj a2 b2 _ _ _ _ g5 k5 x2 y2 (fun f => by have := h (pathD true f); rw [val_r, val_r] at this; omega)]
  | .mk n [a], _, _, _, _, _, ra, _, _, _, _ => by simp [roughE] at ra
  | .mk n (a :: b :: c :: r), _, _, _, _, _, ra, _, _, _, _ => by simp [roughE] at ra
  | .mk n [a1, a2], .mk m [b], _, _, _, _, ra, rb, _, _, _ => by simp [roughE] at rb
  | .mk n [a1, a2], .mk m (a :: b :: c :: r), _, _, _, _, ra, rb, _, _, _ => by simp [roughE] at rb
/-! ### what the laws ask -/
end Go.Tr
