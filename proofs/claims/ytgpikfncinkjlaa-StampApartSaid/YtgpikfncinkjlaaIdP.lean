/- Walks and laws. -/
import Derived.Test.YtgpikfncinkjlaaId0
set_option linter.unusedSimpArgs false
set_option linter.unusedVariables false
namespace Go.Tr
open Go Go.Abs
theorem beqT_self (t : T) : beqT t t = true := (beqT_iff t t).2 rfl
theorem check_of {t : T} (h1 : roughI 16 t = true) (h2 : normI t = t) : checkI t = true := by
  simp only [checkI, Bool.and_eq_true]; exact ⟨h1, (beqT_iff _ _).2 h2.symm⟩
/-! ### who owns what -/
/-- along a path -/
def ownI : T → (Nat → Bool) → Prop
  | .mk n [], _ => n = 1
  | .mk _ [a, b], f => if f 0 = true then ownI b (fun i => f (i + 1)) else ownI a (fun i => f (i + 1))
  | _, _ => False
  termination_by structural t => t
def pathC (c : Bool) (f : Nat → Bool) : Nat → Bool
  | 0 => c
  | i + 1 => f i
theorem check_valid {t : T} (h : checkI t = true) : validI t = true := ((rough_iff t 16 (by omega)).1 (check_rough h)).1
/-! ### splits -/
theorem halves_inner : ∀ t : T, binT t = true → (halvesI t).1.ks.length = 2 ∧ (halvesI t).2.ks.length = 2
  | .mk n [], _ => ⟨rfl, rfl⟩
  | .mk n [l, r], _ => by rw [halves_two]; (repeat' split) <;> exact ⟨rfl, rfl⟩
  | .mk n [a], h => by simp [binT] at h
  | .mk n (a :: b :: c :: r), h => by simp [binT] at h
theorem inner_norm {l r : T} (hl : normI l = l) (hr : normI r = r) (h : ¬ (isT l r.n ∧ r.ks.length = 0)) : normI (.mk 0 [l, r]) = .mk 0 [l, r] := by
  rw [norm_two, hl, hr, short_no h]
theorem zero_not {l r : T} (hs : shortI l r = .mk 0 [l, r]) (hl : isT l 0) : ¬ isT r 0 := by
  intro hr
  rw [short_yes ⟨⟨hl.1, by rw [hl.2, hr.2]⟩, hr.1⟩] at hs
  have := hl.1
  rw [hs] at this; simp at this
theorem halves_norm : ∀ t : T, binT t = true → normI t = t → ¬ isT t 0 → normI (halvesI t).1 = (halvesI t).1 ∧ normI (halvesI t).2 = (halvesI t).2
  | .mk n [], hb, _, _ => ⟨by simp [halvesI, normI, shortI, isT], by simp [halvesI, normI, shortI, isT]⟩
  | .mk n [l, r], hb, hn, h0 => by
    have hb' := bin_kids hb
    obtain ⟨n1, n2, _, hs⟩ := norm_kids hn
    by_cases hl : isT l 0
    · have hr := zero_not hs hl
      have i := halves_norm r hb'.2 n2 hr
      have j := halves_inner r hb'.2
      rw [halves_a hl]
      exact ⟨inner_norm n1 i.1 (fun h => by have := h.2; omega), inner_norm n1 i.2 (fun h => by have := h.2; omega)⟩
    · by_cases hr : isT r 0
      · have i := halves_norm l hb'.1 n1 hl
        have j := halves_inner l hb'.1
        rw [halves_b hl hr]
        exact ⟨inner_norm i.1 n2 (fun h => by have := h.1.1; omega), inner_norm i.2 n2 (fun h => by have := h.1.1; omega)⟩
      · rw [halves_c hl hr]
        exact ⟨inner_norm n1 rfl (fun h => hl h.1), inner_norm rfl n2 (fun h => hr ⟨h.2, h.1.2.symm⟩)⟩
  | .mk n [a], hb, _, _ => by simp [binT] at hb
  | .mk n (a :: b :: c :: r), hb, _, _ => by simp [binT] at hb
theorem sum_zero_l (t : T) : sumI (.mk 0 []) t = (t, true) := by cases t; rw [sum_l, if_pos rfl]
theorem sum_zero_l' {l : T} (h : isT l 0) (t : T) : sumI l t = (t, true) := by
  match l, h with
  | .mk n [], h => rw [show n = 0 from h.2, sum_zero_l]
theorem sum_zero_r' {l : T} (h : isT l 0) (t : T) (hb : binT t = true) : sumI t l = (if isT t 0 then l else t, true) := by
  match l, t, h, hb with
  | .mk m [], .mk n [], h, _ =>
    have hm : m = 0 := h.2
    subst hm
    rw [sum_l]
    by_cases hn : n = 0
    · rw [if_pos hn, if_pos (by exact ⟨rfl, hn⟩)]
    · rw [if_neg hn, if_pos (by simp), if_neg (fun h => hn h.2)]
  | .mk m [], .mk n [a, b], h, _ =>
    have hm : m = 0 := h.2
    subst hm
    rw [sum_r, if_pos rfl, if_neg (by simp [isT])]
  | .mk m [], .mk n [a], h, hb => simp [binT] at hb
  | .mk m [], .mk n (a :: b :: c :: r), h, hb => simp [binT] at hb
theorem isT_eq {t : T} {n : Int} (h : isT t n) : t = .mk n [] := by
  match t, h with
  | .mk m [], h => rw [show m = n from h.2]
  | .mk m (a :: l), h => exact absurd h.1 (by simp)
theorem sum_zero_rr (t : T) (hb : binT t = true) : sumI t (.mk 0 []) = (t, true) := by
  rw [sum_zero_r' ⟨rfl, rfl⟩ t hb]
  by_cases h : isT t 0
  · rw [if_pos h, isT_eq h]
  · rw [if_neg h]
theorem halves_sum : ∀ t : T, validI t = true → normI t = t → ¬ isT t 0 → sumI (halvesI t).1 (halvesI t).2 = (t, true) ∧ sumI (halvesI t).2 (halvesI t).1 = (t, true)
  | .mk n [], hv, _, h0 => by
    simp only [validI, decide_eq_true_eq] at hv
    simp only [isT, T.ks_mk, List.length_nil, T.n_mk, true_and] at h0
    have : n = 1 := by omega
    subst this
    exact ⟨rfl, rfl⟩
  | .mk n [l, r], hv, hn, h0 => by
    simp only [validI, Bool.and_eq_true, decide_eq_true_eq] at hv
    obtain ⟨n1, n2, rfl, hs⟩ := norm_kids hn
    have bl : binT l = true := bin_of_rough l (depthT l) ((rough_iff l _ (by omega)).2 ⟨hv.1.2, by omega⟩)
    have br : binT r = true := bin_of_rough r (depthT r) ((rough_iff r _ (by omega)).2 ⟨hv.2, by omega⟩)
    by_cases hl : isT l 0
    · have hr := zero_not hs hl
      have i := halves_sum r hv.2 n2 hr
      rw [halves_a hl]
      simp only
      rw [sum_2, sum_2, sum_zero_l' hl, i.1, i.2]
      simp only [and_self, if_true, hs]
    · by_cases hr : isT r 0
      · have i := halves_sum l hv.1.2 n1 hl
        rw [halves_b hl hr]
        simp only
        rw [sum_2, sum_2, sum_zero_l' hr, i.1, i.2]
        simp only [and_self, if_true, hs]
      · rw [halves_c hl hr]
        simp only
        rw [sum_2, sum_2, sum_zero_l, sum_zero_l, sum_zero_rr l bl, sum_zero_rr r br]
        simp only [and_self, if_true, hs]
  | .mk n [a], hv, _, _ => by simp [validI] at hv
  | .mk n (a :: b :: c :: r), hv, _, _ => by simp [validI] at hv
theorem share_zero {t : T} (h : isT t 0) (k : Int) : shareI t k = 0 := by rw [isT_eq h, share_one]; omega
theorem share_short {l r : T} (k : Int) (d : Nat) (hk : k = 2 ^ (d + 1)) : shareI (shortI l r) k = shareI l (k / 2) + shareI r (k / 2) := by
  by_cases hc : isT l r.n ∧ r.ks.length = 0
  · rw [short_yes hc]
    have hl := isT_eq hc.1
    have hr : r = .mk r.n [] := isT_eq ⟨hc.2, rfl⟩
    generalize r.n = m at hl hr
    subst hl; subst hr
    rw [share_one, share_one]
    have e : k = k / 2 + k / 2 := by rw [hk, Int.pow_succ]; omega
    rw [← Int.mul_add, ← e]
  · rw [short_no hc]; rfl
theorem pow_half {k : Int} {d : Nat} (hk : k = 2 ^ (d + 1)) : k / 2 = 2 ^ d := by rw [hk, Int.pow_succ]; omega
theorem share_sum : ∀ (a b : T) (k : Int) (d : Nat), binT a = true → binT b = true → k = 2 ^ d → depthT a ≤ d → depthT b ≤ d → (sumI a b).2 = true → shareI (sumI a b).1 k = shareI a k + shareI b k
  | .mk n [], .mk m ls, k, d, ha, hb, hk, d1, d2, hs => by
    rw [sum_l] at hs ⊢
    by_cases h : n = 0
    · rw [if_pos h, h, share_one, Int.zero_mul, Int.zero_add]
    · rw [if_neg h] at hs ⊢
      by_cases h2 : ls.length = 0 ∧ m = 0
      · rw [if_pos h2, isT_eq (t := .mk m ls) (n := 0) h2, share_one, share_one, Int.zero_mul, Int.add_zero]
      · rw [if_neg h2] at hs; cases hs
  | .mk n [a1, a2], .mk m [], k, d, ha, hb, hk, d1, d2, hs => by
    rw [sum_r] at hs ⊢
    by_cases h : m = 0
    · rw [if_pos h, h, share_one, Int.zero_mul, Int.add_zero]
    · rw [if_neg h] at hs; cases hs
  | .mk n [a1, a2], .mk m [b1, b2], k, d, ha, hb, hk, d1, d2, hs => by
    have ha' := bin_kids ha
    have hb' := bin_kids hb
    simp only [depthT] at d1 d2
    obtain ⟨d', rfl⟩ : ∃ d', d = d' + 1 := ⟨d - 1, by omega⟩
    rw [sum_2] at hs ⊢
    split at hs
    · rename_i hc
      rw [if_pos hc, share_short k d' hk, share_two, share_two,
        share_sum a1 b1 (k / 2) d' ha'.1 hb'.1 (pow_half hk) (by omega) (by omega) hc.1,
        share_sum a2 b2 (k / 2) d' ha'.2 hb'.2 (pow_half hk) (by omega) (by omega) hc.2]
      omega
    · cases hs
  | .mk n [a], _, _, _, ha, _, _, _, _, _ => by simp [binT] at ha
  | .mk n (a :: b :: c :: r), _, _, _, ha, _, _, _, _, _ => by simp [binT] at ha
  | .mk n [a1, a2], .mk m [b], _, _, ha, hb, _, _, _, _ => by simp [binT] at hb
  | .mk n [a1, a2], .mk m (a :: b :: c :: r), _, _, ha, hb, _, _, _, _ => by simp [binT] at hb
theorem share_ge : ∀ (t : T) (k : Int), validI t = true → 0 ≤ k → 0 ≤ shareI t k
  | .mk n [], k, hv, hk => by
    simp only [validI, decide_eq_true_eq] at hv
    rw [share_one]; rcases hv with rfl | rfl <;> omega
  | .mk n [a, b], k, hv, hk => by
    simp only [validI, Bool.and_eq_true, decide_eq_true_eq] at hv
    have h1 := share_ge a (k / 2) hv.1.2 (by omega)
    have h2 := share_ge b (k / 2) hv.2 (by omega)
    rw [share_two]; omega
  | .mk n [a], k, hv, hk => by simp [validI] at hv
  | .mk n (a :: b :: c :: r), k, hv, hk => by simp [validI] at hv
theorem share_pos : ∀ (t : T) (k : Int) (d : Nat), validI t = true → normI t = t → ¬ isT t 0 → k = 2 ^ d → depthT t ≤ d → 0 < shareI t k
  | .mk n [], k, d, hv, _, h0, hk, hd => by
    simp only [validI, decide_eq_true_eq] at hv
    simp only [isT, T.ks_mk, List.length_nil, T.n_mk, true_and] at h0
    have h1 : n = 1 := by omega
    have h2 : (0 : Int) < 2 ^ d := Int.pow_pos (by decide)
    rw [share_one, h1, hk]; omega
  | .mk n [a, b], k, d, hv, hn, h0, hk, hd => by
    simp only [validI, Bool.and_eq_true, decide_eq_true_eq] at hv
    obtain ⟨n1, n2, rfl, hs⟩ := norm_kids hn
    simp only [depthT] at hd
    obtain ⟨d', rfl⟩ : ∃ d', d = d' + 1 := ⟨d - 1, by omega⟩
    have hk2 := pow_half hk
    have hp : (0 : Int) < 2 ^ d' := Int.pow_pos (by decide)
    have g1 := share_ge a (k / 2) hv.1.2 (by omega)
    have g2 := share_ge b (k / 2) hv.2 (by omega)
    rw [share_two]
    by_cases ha : isT a 0
    · have := share_pos b (k / 2) d' hv.2 n2 (zero_not hs ha) hk2 (by omega); omega
    · have := share_pos a (k / 2) d' hv.1.2 n1 ha hk2 (by omega); omega
  | .mk n [a], _, _, hv, _, _, _, _ => by simp [validI] at hv
  | .mk n (a :: b :: c :: r), _, _, hv, _, _, _, _ => by simp [validI] at hv
/-- All that a split that goes gives. -/
theorem split_facts {t : T} (hc : checkI t = true) (h0 : ¬ isT t 0) (r1 : roughI 16 (halvesI t).1 = true) (r2 : roughI 16 (halvesI t).2 = true) :
    checkI (halvesI t).1 = true ∧ checkI (halvesI t).2 = true ∧ sumI (halvesI t).1 (halvesI t).2 = (t, true) ∧ sumI (halvesI t).2 (halvesI t).1 = (t, true) ∧
    shareI (halvesI t).1 65536 + shareI (halvesI t).2 65536 = shareI t 65536 ∧ 0 < shareI (halvesI t).1 65536 ∧ 0 < shareI (halvesI t).2 65536 := by
  have hn := halves_norm t (check_bin hc) (check_norm hc) h0
  have hs := halves_sum t (check_valid hc) (check_norm hc) h0
  have hi := halves_inner t (check_bin hc)
  have c1 := check_of r1 hn.1
  have c2 := check_of r2 hn.2
  have e : (65536 : Int) = 2 ^ 16 := by decide
  have d1 := ((rough_iff _ 16 (by omega)).1 r1).2
  have d2 := ((rough_iff _ 16 (by omega)).1 r2).2
  have h3 := share_sum _ _ 65536 16 (check_bin c1) (check_bin c2) e (by omega) (by omega) (by rw [hs.1])
  rw [hs.1] at h3
  refine ⟨c1, c2, hs.1, hs.2, h3.symm, ?_, ?_⟩
  · exact share_pos _ _ 16 (check_valid c1) hn.1 (fun h => by have := h.1; omega) e (by omega)
  · exact share_pos _ _ 16 (check_valid c2) hn.2 (fun h => by have := h.1; omega) e (by omega)
end Go.Tr
