/- Walks and laws. -/
import Derived.Test.YtgpikfncinkjlaaId0
set_option linter.unusedSimpArgs false
set_option linter.unusedVariables false
namespace Go.Tr
open Go Go.Abs
theorem rough_short {d : Int} {l r : T} (h0 : 0 < d) (hl : roughI (d - 1) l = true) (hr : roughI (d - 1) r = true) : roughI d (shortI l r) = true := by
  by_cases hc : isT l r.n ∧ r.ks.length = 0
  · rw [short_yes hc]
    match l, hc, hl with
    | .mk n [], _, hl => simpa only [roughI] using hl
    | .mk n (a :: k), hc, _ => simp [isT] at hc
  · rw [short_no hc]; simp [roughI, h0, hl, hr]
theorem check_of {t : T} (h1 : roughI 16 t = true) (h2 : normI t = t) : checkI t = true := by
  simp only [checkI, Bool.and_eq_true]; exact ⟨h1, (beqT_iff _ _).2 h2.symm⟩
theorem rough_sum : ∀ (a b : T) (d : Int), roughI d a = true → roughI d b = true → (sumI a b).2 = true → roughI d (sumI a b).1 = true
  | .mk n [], .mk m ls, d, ha, hb, hs => by
    rw [sum_l] at hs ⊢
    by_cases h : n = 0
    · rw [if_pos h]; exact hb
    · rw [if_neg h] at hs ⊢
      by_cases h2 : ls.length = 0 ∧ m = 0
      · rw [if_pos h2]; exact ha
      · rw [if_neg h2] at hs; cases hs
  | .mk n [a1, a2], .mk m [], d, ha, hb, hs => by
    rw [sum_r] at hs ⊢
    by_cases h : m = 0
    · rw [if_pos h]; exact ha
    · rw [if_neg h] at hs; cases hs
  | .mk n [a1, a2], .mk m [b1, b2], d, ha, hb, hs => by
    obtain ⟨_, x2, x3, x4⟩ := rough_kids ha
    obtain ⟨_, y2, y3, y4⟩ := rough_kids hb
    rw [sum_2] at hs ⊢
    split at hs
    · rename_i hc
      rw [if_pos hc]
      exact rough_short x2 (rough_sum a1 b1 _ x3 y3 hc.1) (rough_sum a2 b2 _ x4 y4 hc.2)
    · cases hs
  | .mk n [a], _, d, ha, _, _ => by simp [roughI] at ha
  | .mk n (a :: b :: c :: r), _, d, ha, _, _ => by simp [roughI] at ha
  | .mk n [a1, a2], .mk m [b], d, ha, hb, _ => by simp [roughI] at hb
  | .mk n [a1, a2], .mk m (a :: b :: c :: r), d, ha, hb, _ => by simp [roughI] at hb
theorem check_sum {a b : T} (ha : checkI a = true) (hb : checkI b = true) (hs : (sumI a b).2 = true) : checkI (sumI a b).1 = true :=
  check_of (rough_sum _ _ _ (check_rough ha) (check_rough hb) hs) (sum_norm _ _ (check_norm ha) (check_norm hb))
/-! ### who owns what -/
/-- along a path -/
def ownI : T → (Nat → Bool) → Prop
  | .mk n [], _ => n = 1
  | .mk _ [a, b], f => if f 0 = true then ownI b (fun i => f (i + 1)) else ownI a (fun i => f (i + 1))
  | _, _ => False
  termination_by structural t => t
def pathC (c : Bool) (f : Nat → Bool) : Nat → Bool
  | 0 => c
  | i + 1 => f i
/-! ### splits -/
theorem isT_eq {t : T} {n : Int} (h : isT t n) : t = .mk n [] := by
  match t, h with
  | .mk m [], h => rw [show m = n from h.2]
  | .mk m (a :: l), h => exact absurd h.1 (by simp)
theorem share_short {l r : T} (k : Int) (d : Nat) (hk : k = 2 ^ (d + 1)) : shareI (shortI l r) k = shareI l (k / 2) + shareI r (k / 2) := by
  by_cases hc : isT l r.n ∧ r.ks.length = 0
  · rw [short_yes hc]
    have hl := isT_eq hc.1
    have hr : r = .mk r.n [] := isT_eq ⟨hc.2, rfl⟩
    generalize r.n = m at hl hr
    subst hl; subst hr
    rw [share_one, share_one]
    have e : k = k / 2 + k / 2 := by rw [hk, Int.pow_succ]; omega
    rw [← Int.mul_add, ← e]
  · rw [short_no hc]; rfl
theorem pow_half {k : Int} {d : Nat} (hk : k = 2 ^ (d + 1)) : k / 2 = 2 ^ d := by rw [hk, Int.pow_succ]; omega
theorem share_sum : ∀ (a b : T) (k : Int) (d : Nat), binT a = true → binT b = true → k = 2 ^ d → depthT a ≤ d → depthT b ≤ d → (sumI a b).2 = true → shareI (sumI a b).1 k = shareI a k + shareI b k
  | .mk n [], .mk m ls, k, d, ha, hb, hk, d1, d2, hs => by
    rw [sum_l] at hs ⊢
    by_cases h : n = 0
    · rw [if_pos h, h, share_one, Int.zero_mul, Int.zero_add]
    · rw [if_neg h] at hs ⊢
      by_cases h2 : ls.length = 0 ∧ m = 0
      · rw [if_pos h2, isT_eq (t := .mk m ls) (n := 0) h2, share_one, share_one, Int.zero_mul, Int.add_zero]
      · rw [if_neg h2] at hs; cases hs
  | .mk n [a1, a2], .mk m [], k, d, ha, hb, hk, d1, d2, hs => by
    rw [sum_r] at hs ⊢
    by_cases h : m = 0
    · rw [if_pos h, h, share_one, Int.zero_mul, Int.add_zero]
    · rw [if_neg h] at hs; cases hs
  | .mk n [a1, a2], .mk m [b1, b2], k, d, ha, hb, hk, d1, d2, hs => by
    have ha' := bin_kids ha
    have hb' := bin_kids hb
    simp only [depthT] at d1 d2
    obtain ⟨d', rfl⟩ : ∃ d', d = d' + 1 := ⟨d - 1, by omega⟩
    rw [sum_2] at hs ⊢
    split at hs
    · rename_i hc
      rw [if_pos hc, share_short k d' hk, share_two, share_two,
        share_sum a1 b1 (k / 2) d' ha'.1 hb'.1 (pow_half hk) (by omega) (by omega) hc.1,
        share_sum a2 b2 (k / 2) d' ha'.2 hb'.2 (pow_half hk) (by omega) (by omega) hc.2]
      omega
    · cases hs
  | .mk n [a], _, _, _, ha, _, _, _, _, _ => by simp [binT] at ha
  | .mk n (a :: b :: c :: r), _, _, _, ha, _, _, _, _, _ => by simp [binT] at ha
  | .mk n [a1, a2], .mk m [b], _, _, ha, hb, _, _, _, _ => by simp [binT] at hb
  | .mk n [a1, a2], .mk m (a :: b :: c :: r), _, _, ha, hb, _, _, _, _ => by simp [binT] at hb
end Go.Tr
