/- Walks and laws. -/
import Derived.Test.YtgpikfncinkjlaaStS
set_option linter.unusedSimpArgs false
set_option linter.unusedVariables false
namespace Go.Tr
open Go Go.Abs
theorem grow_norm : ∀ (i e : T) (d l : Int), validI i = true → normI i = i → ¬ isT i 0 → 0 ≤ d → d ≤ 16 → l ≤ 1073741824 → roughE d l e = true → normE e = e → fillE i e = e → normE (growE i e).1 = (growE i e).1
  | .mk n [], .mk m ls, d, l, hv, hn, h0, hd, hd2, hl, hr, he, hf => by
    rw [grow_one]
    have hv' : n = 0 ∨ n = 1 := by simpa only [validI, decide_eq_true_eq] using hv
    rcases hv' with rfl | rfl
    · exact absurd ⟨rfl, rfl⟩ h0
    · by_cases hk : ls.length = 0
      · have : ls = [] := List.length_eq_zero_iff.1 hk
        subst this; rfl
      · rw [fill_leaf, if_neg (by omega), if_pos rfl] at hf
        simp only [T.mk.injEq] at hf
        rw [← hf.2] at hk; simp at hk
  | .mk n [a, b], .mk m [], d, l, hv, hn, h0, hd, hd2, hl, hr, he, hf => by
    obtain ⟨v0, v1, v2⟩ := valid_kids hv
    obtain ⟨x1, x2, x3, _⟩ := norm_kids hn
    have L : ¬ isT a 0 → normE (.mk m [(growE a (.mk 0 [])).1, .mk 0 []]) = .mk m [(growE a (.mk 0 [])).1, .mk 0 []] := fun ha => by
      have k := grow_norm a (.mk 0 []) 0 0 v1 x1 ha (by omega) (by omega) (by omega) (rough_lf (by omega)) rfl fill_of_leaf
      rcases grow_side (c := .mk 0 []) v1 ha rfl with ⟨h1, h2⟩ | ⟨h1, h2, h3⟩
      · rw [h2] at k ⊢
        exact norm_mk k rfl (by simp only [T.n_mk]; omega) (by simp only [T.n_mk]; omega)
      · exact norm_mk k rfl (by rw [h2]; simp only [T.n_mk]; omega) (by omega)
    have R : ¬ isT b 0 → normE (.mk m [.mk 0 [], (growE b (.mk 0 [])).1]) = .mk m [.mk 0 [], (growE b (.mk 0 [])).1] := fun ha => by
      have k := grow_norm b (.mk 0 []) 0 0 v2 x2 ha (by omega) (by omega) (by omega) (rough_lf (by omega)) rfl fill_of_leaf
      rcases grow_side (c := .mk 0 []) v2 ha rfl with ⟨h1, h2⟩ | ⟨h1, h2, h3⟩
      · rw [h2] at k ⊢
        exact norm_mk rfl k (by simp only [T.n_mk]; omega) (by simp only [T.n_mk]; omega)
      · exact norm_mk rfl k (by rw [h2]; simp only [T.n_mk]; omega) (by omega)
    rw [grow_e, grow_two]
    by_cases ha : isT a 0
    · rw [if_pos ha]; exact R (not_zero hn ha)
    · rw [if_neg ha]
      by_cases hb : isT b 0
      · rw [if_pos hb]; exact L ha
      · rw [if_neg hb]
        split
        · exact L ha
        · exact R hb
  | .mk n [a, b], .mk m [c, e], d, l, hv, hn, h0, hd, hd2, hl, hr, he, hf => by
    obtain ⟨v0, v1, v2⟩ := valid_kids hv
    obtain ⟨x1, x2, x3, _⟩ := norm_kids hn
    obtain ⟨g1, g2, g3, g4, g5⟩ := roughE_kids hr
    obtain ⟨n1, n2, n3, n4⟩ := normE_kids he
    obtain ⟨k1, k2, k3, k4⟩ := fill_kids hd hd2 hl hv hr he hf
    have L : ¬ isT a 0 → normE (.mk m [(growE a c).1, e]) = .mk m [(growE a c).1, e] := fun ha => by
      have k := grow_norm a c (d - 1) (l - m) v1 x1 ha (by omega) (by omega) (by omega) g4 n1 k1
      rcases grow_side v1 ha (roughE_bin _ _ _ g4) with ⟨h1, h2⟩ | ⟨h1, h2, h3⟩
      · have hc := k3 h1
        have c0 := roughE_n g4
        have e0 := roughE_n g5
        rw [h2] at k ⊢
        exact norm_mk k n2 (by simp only [T.n_mk]; omega) (by simp only [T.n_mk]; omega)
      · exact norm_mk k n2 (by rw [h2]; omega) (by omega)
    have R : ¬ isT b 0 → normE (.mk m [c, (growE b e).1]) = .mk m [c, (growE b e).1] := fun ha => by
      have k := grow_norm b e (d - 1) (l - m) v2 x2 ha (by omega) (by omega) (by omega) g5 n2 k2
      rcases grow_side v2 ha (roughE_bin _ _ _ g5) with ⟨h1, h2⟩ | ⟨h1, h2, h3⟩
      · have hc := k4 h1 (fun hh => not_both hn hh h1)
        have c0 := roughE_n g4
        have e0 := roughE_n g5
        rw [h2] at k ⊢
        exact norm_mk n1 k (by simp only [T.n_mk]; omega) (by simp only [T.n_mk]; omega)
      · exact norm_mk n1 k (by rw [h2]; omega) (by omega)
    rw [grow_two]
    by_cases ha : isT a 0
    · rw [if_pos ha]; exact R (not_zero hn ha)
    · rw [if_neg ha]
      by_cases hb : isT b 0
      · rw [if_pos hb]; exact L ha
      · rw [if_neg hb]
        split
        · exact L ha
        · exact R hb
  | .mk n [a, b], .mk m [c], d, l, hv, hn, h0, hd, hd2, hl, hr, he, hf => by rw [roughE_no (by simp) (by simp)] at hr; cases hr
  | .mk n [a, b], .mk m (c :: e :: g :: r), d, l, hv, hn, h0, hd, hd2, hl, hr, he, hf => by rw [roughE_no (by simp) (by simp)] at hr; cases hr
  | .mk n [a], e, d, l, hv, hn, h0, hd, hd2, hl, hr, he, hf => by simp [validI] at hv
  | .mk n (a :: b :: c :: r), e, d, l, hv, hn, h0, hd, hd2, hl, hr, he, hf => by simp [validI] at hv
theorem rough_of : ∀ (t : T) (D l d' l' : Int), roughE D l t = true → endE true t ≤ l' → (depthT t : Int) ≤ d' → roughE d' l' t = true
  | .mk n [], D, l, d', l', h, h1, h2 => by
    have := roughE_n h
    simp only [T.n_mk] at this
    simp only [endE] at h1
    exact rough_lf (by omega)
  | .mk n [a, b], D, l, d', l', h, h1, h2 => by
    obtain ⟨g1, g2, g3, g4, g5⟩ := roughE_kids h
    rw [end_two, if_pos rfl] at h1
    simp only [depthT] at h2
    have t1 := end_rng true _ _ _ g4
    have t2 := end_rng true _ _ _ g5
    exact rough_mk (by omega) (rough_of a _ _ _ _ g4 (by omega) (by omega)) (rough_of b _ _ _ _ g5 (by omega) (by omega))
  | .mk n [a], D, l, d', l', h, h1, h2 => by rw [roughE_no (by simp) (by simp)] at h; cases h
  | .mk n (a :: b :: c :: r), D, l, d', l', h, h1, h2 => by rw [roughE_no (by simp) (by simp)] at h; cases h
/-- What next does: normal, no count less, more just where it owns, and somewhere more. -/
theorem next_facts {i e : T} (hi : size i ≤ 1000) (hci : checkI i = true) (h0 : ¬ isT i 0) (hce : checkE e = true) :
    normE (nextE i e) = nextE i e ∧ (∀ f, valE e f ≤ valE (nextE i e) f) ∧ (∀ f, valE e f ≠ valE (nextE i e) f → valE i f = 1) ∧ (∃ f, valE e f ≠ valE (nextE i e) f) := by
  have hv := ((rough_iff _ 16 (by omega)).1 (check_rough hci)).1
  have hn := check_norm hci
  have hr := checkE_rough hce
  have he := checkE_norm hce
  unfold nextE
  split
  · rename_i hb
    have hf := (beqT_iff _ _).1 hb
    refine ⟨grow_norm i e 16 1073741824 hv hn h0 (by omega) (by omega) (by omega) hr he hf, fun f => (grow_val i e hv (checkE_bin hce) f).1, fun f hh => ?_, grow_more i e hv hn h0 (checkE_bin hce)⟩
    rcases (grow_val i e hv (checkE_bin hce) f).2 hh with h | h
    · exact h
    · exact absurd ⟨hn, h0⟩ h
  · rename_i hb
    refine ⟨fill_norm i e 16 1073741824 hv (by omega) (by omega) (by omega) hr he, fun f => (fill_val i e 16 1073741824 hv (by omega) (by omega) (by omega) hr f).1, fun f => (fill_val i e 16 1073741824 hv (by omega) (by omega) (by omega) hr f).2, ?_⟩
    apply Classical.byContradiction
    intro hne
    have hall : ∀ f, valE e f = valE (fillE i e) f := fun f => Classical.byContradiction fun h => hne ⟨f, h⟩
    have := val_inj e (fillE i e) 16 16 _ _ hr (fill_rough i e 16 1073741824 (by omega) (by omega) (by omega) hr) he (fill_norm i e 16 1073741824 hv (by omega) (by omega) (by omega) hr he) hall
    rw [← this] at hb
    exact hb (beqT_self e)
theorem next_check {i e : T} (hi : size i ≤ 1000) (hci : checkI i = true) (h0 : ¬ isT i 0) (hce : checkE e = true) (h1 : ¬ endE true (nextE i e) > 1073741824) (h2 : ¬ depthT (nextE i e) > 16) : checkE (nextE i e) = true :=
  checkE_of (rough_of _ _ _ _ _ (next_rough hi hce) (by omega) (by omega)) (next_facts hi hci h0 hce).1
end Go.Tr
