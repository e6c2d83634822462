/- Walks and laws. -/
import Derived.Test.YtgpikfncinkjlaaStR
set_option linter.unusedSimpArgs false
set_option linter.unusedVariables false
namespace Go.Tr
open Go Go.Abs
theorem val_norm : ∀ (t : T) (f : Nat → Bool), binT t = true → valE (normE t) f = valE t f
  | .mk n [], f, h => rfl
  | .mk n [a, b], f, h => by
    obtain ⟨ha, hb⟩ := bin_kids h
    rw [normE_two, val_node _ _ _ _ (bin_normE _ ha) (bin_normE _ hb), val_norm a _ ha, val_norm b _ hb, val_two]
  | .mk n [a], f, h => by simp [binT] at h
  | .mk n (a :: b :: c :: r), f, h => by simp [binT] at h
theorem val_normal {d l n : Int} {a b : T} (hd : 1 ≤ d) (hd2 : d ≤ 16) (hn : 0 ≤ n ∧ n ≤ l) (hl : l ≤ 1073741824) (ha : roughE (d - 1) (l - n) a = true) (hb : roughE (d - 1) (l - n) b = true) (f : Nat → Bool) : valE (normalE n a b) f = n + (if f 0 = true then valE b (fun i => f (i + 1)) else valE a (fun i => f (i + 1))) := by
  have h1 := (normal_is hd hd2 hn hl ha hb).1
  have b1 : binT (.mk 0 [a, b]) = true := by simp [binT, roughE_bin _ _ _ ha, roughE_bin _ _ _ hb]
  rw [h1, val_lift _ _ _ (bin_normE _ b1), val_norm _ _ b1, val_two]
  omega
theorem val_leaf1 {t : T} (h : isT t 1) (f : Nat → Bool) : valE t f = 1 := by rw [isT_eq h]; rfl
theorem valid_kids {n : Int} {a b : T} (h : validI (.mk n [a, b]) = true) : n = 0 ∧ validI a = true ∧ validI b = true := by
  simp only [validI, Bool.and_eq_true, decide_eq_true_eq] at h
  exact ⟨h.1.1, h.1.2, h.2⟩
theorem fill_val : ∀ (i e : T) (d l : Int), validI i = true → 0 ≤ d → d ≤ 16 → l ≤ 1073741824 → roughE d l e = true → ∀ f, valE e f ≤ valE (fillE i e) f ∧ (valE e f ≠ valE (fillE i e) f → valE i f = 1)
  | .mk n [], .mk m ls, d, l, hv, h0, hd, hl, h, f => by
    rw [fill_leaf]
    split
    · exact ⟨Int.le_refl _, fun h => absurd rfl h⟩
    · split
      · rename_i h1
        exact ⟨(end_val _ _ _ h f).2, fun _ => by rw [val_one]; exact h1⟩
      · exact ⟨Int.le_refl _, fun h => absurd rfl h⟩
  | .mk n [a, b], .mk m [], d, l, hv, h0, hd, hl, h, f => by rw [fill_e]; exact ⟨Int.le_refl _, fun h => absurd rfl h⟩
  | .mk n [a, b], .mk m [c, e], d, l, hv, h0, hd, hl, h, f => by
    obtain ⟨g1, g2, g3, g4, g5⟩ := roughE_kids h
    obtain ⟨v0, v1, v2⟩ := valid_kids hv
    have f1 := fill_rough a c (d - 1) (l - m) (by omega) (by omega) (by omega) g4
    have f2 := fill_rough b e (d - 1) (l - m) (by omega) (by omega) (by omega) g5
    have i1 := fill_val a c (d - 1) (l - m) v1 (by omega) (by omega) (by omega) g4 (fun i => f (i + 1))
    have i2 := fill_val b e (d - 1) (l - m) v2 (by omega) (by omega) (by omega) g5 (fun i => f (i + 1))
    have t1 := end_rng true _ _ _ g4
    have t2 := end_rng true _ _ _ g5
    have s1 := (end_val _ _ _ g4 (fun i => f (i + 1))).2
    have s2 := (end_val _ _ _ g5 (fun i => f (i + 1))).2
    have n1 := roughE_n f1
    have n2 := roughE_n f2
    have hdd : 1 ≤ d := by omega
    rw [fill_two, val_two n, v0]
    split
    · rename_i ha
      rw [val_normal hdd hd ⟨g1, g2⟩ hl (rough_lf (by omega)) f2, val_two, val_one]
      have := val_leaf1 ha (fun i => f (i + 1))
      split
      · exact ⟨by omega, fun hh => by rw [i2.2 (by omega)]; rfl⟩
      · exact ⟨by omega, fun hh => by rw [this]; rfl⟩
    · split
      · rename_i ha hb
        rw [val_normal hdd hd ⟨g1, g2⟩ hl f1 (rough_lf (by omega)), val_two, val_one]
        have := val_leaf1 hb (fun i => f (i + 1))
        split
        · exact ⟨by omega, fun hh => by rw [this]; rfl⟩
        · exact ⟨by omega, fun hh => by rw [i1.2 (by omega)]; rfl⟩
      · rw [val_normal hdd hd ⟨g1, g2⟩ hl f1 f2, val_two]
        split
        · exact ⟨by omega, fun hh => by rw [i2.2 (by omega)]; rfl⟩
        · exact ⟨by omega, fun hh => by rw [i1.2 (by omega)]; rfl⟩
  | .mk n [a, b], .mk m [c], d, l, hv, h0, hd, hl, h, f => by rw [roughE_no (by simp) (by simp)] at h; cases h
  | .mk n [a, b], .mk m (c :: e :: g :: r), d, l, hv, h0, hd, hl, h, f => by rw [roughE_no (by simp) (by simp)] at h; cases h
  | .mk n [a], e, d, l, hv, h0, hd, hl, h, f => by simp [validI] at hv
  | .mk n (a :: b :: c :: r), e, d, l, hv, h0, hd, hl, h, f => by simp [validI] at hv
theorem normal_norm {d l n : Int} {a b : T} (hd : 1 ≤ d) (hd2 : d ≤ 16) (hn : 0 ≤ n ∧ n ≤ l) (hl : l ≤ 1073741824) (ha : roughE (d - 1) (l - n) a = true) (hb : roughE (d - 1) (l - n) b = true) : normE (normalE n a b) = normalE n a b := by
  rw [(normal_is hd hd2 hn hl ha hb).1, norm_lift, normE_idem]
theorem fill_norm : ∀ (i e : T) (d l : Int), validI i = true → 0 ≤ d → d ≤ 16 → l ≤ 1073741824 → roughE d l e = true → normE e = e → normE (fillE i e) = fillE i e
  | .mk n [], .mk m ls, d, l, hv, h0, hd, hl, h, hn => by
    rw [fill_leaf]
    (repeat' split)
    · exact hn
    · rfl
    · exact hn
  | .mk n [a, b], .mk m [], d, l, hv, h0, hd, hl, h, hn => by rw [fill_e]; rfl
  | .mk n [a, b], .mk m [c, e], d, l, hv, h0, hd, hl, h, hn => by
    obtain ⟨g1, g2, g3, g4, g5⟩ := roughE_kids h
    have f1 := fill_rough a c (d - 1) (l - m) (by omega) (by omega) (by omega) g4
    have f2 := fill_rough b e (d - 1) (l - m) (by omega) (by omega) (by omega) g5
    have t1 := end_rng true _ _ _ g4
    have t2 := end_rng true _ _ _ g5
    have n1 := roughE_n f1
    have n2 := roughE_n f2
    rw [fill_two]
    (repeat' split)
    · exact normal_norm (by omega) hd ⟨g1, g2⟩ hl (rough_lf (by omega)) f2
    · exact normal_norm (by omega) hd ⟨g1, g2⟩ hl f1 (rough_lf (by omega))
    · exact normal_norm (by omega) hd ⟨g1, g2⟩ hl f1 f2
  | .mk n [a, b], .mk m [c], d, l, hv, h0, hd, hl, h, hn => by rw [roughE_no (by simp) (by simp)] at h; cases h
  | .mk n [a, b], .mk m (c :: e :: g :: r), d, l, hv, h0, hd, hl, h, hn => by rw [roughE_no (by simp) (by simp)] at h; cases h
  | .mk n [a], e, d, l, hv, h0, hd, hl, h, hn => by simp [validI] at hv
  | .mk n (a :: b :: c :: r), e, d, l, hv, h0, hd, hl, h, hn => by simp [validI] at hv
end Go.Tr
