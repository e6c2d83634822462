/- Walks and laws. -/
import Derived.Test.YtgpikfncinkjlaaStQ
set_option linter.unusedSimpArgs false
set_option linter.unusedVariables false
namespace Go.Tr
open Go Go.Abs
theorem node_inj {m : Int} {x y c d : T} (h : nodeE m x y = .mk m [c, d]) : x = c ∧ y = d := by
  by_cases hh : x.ks.length = 0 ∧ y.ks.length = 0 ∧ x.n = y.n
  · rw [node_yes hh] at h; simp at h
  · rw [node_no hh] at h
    simp only [T.mk.injEq, List.cons.injEq, and_true] at h
    obtain ⟨h1, h2, h3⟩ := h
    have : -(min x.n y.n) = 0 := by omega
    rw [this, lift_zero] at h2 h3
    exact ⟨h2, h3⟩
theorem normal_inj {d l m : Int} {x y c e : T} (hd : 1 ≤ d) (hd2 : d ≤ 16) (hn : 0 ≤ m ∧ m ≤ l) (hl : l ≤ 1073741824) (ha : roughE (d - 1) (l - m) x = true) (hb : roughE (d - 1) (l - m) y = true) (nx : normE x = x) (ny : normE y = y) (h : normalE m x y = .mk m [c, e]) : x = c ∧ y = e := by
  rw [(normal_is hd hd2 hn hl ha hb).1, normE_two, nx, ny, node_lift, Int.zero_add] at h
  exact node_inj h
theorem fill_of_leaf {i : T} {n : Int} : fillE i (.mk n []) = .mk n [] := by
  cases i with
  | mk k ks => match ks with
    | [] => rw [fill_leaf, if_pos (.inr rfl)]
    | [a, b] => exact fill_e _ _ _ _
    | [a] => simp [fillE]
    | a :: b :: c :: r => simp [fillE]
/-- What fill leaves alone, it leaves alone below. -/
theorem fill_kids {n m d l : Int} {a b c e : T} (hd : 0 ≤ d) (hd2 : d ≤ 16) (hl : l ≤ 1073741824) (hv : validI (.mk n [a, b]) = true) (h : roughE d l (.mk m [c, e]) = true) (hn : normE (.mk m [c, e]) = .mk m [c, e]) (hf : fillE (.mk n [a, b]) (.mk m [c, e]) = .mk m [c, e]) :
    fillE a c = c ∧ fillE b e = e ∧ (isT a 1 → c.ks = [] ∧ e.n ≤ c.n) ∧ (isT b 1 → ¬ isT a 1 → e.ks = [] ∧ c.n ≤ e.n) := by
  obtain ⟨g1, g2, g3, g4, g5⟩ := roughE_kids h
  obtain ⟨v0, v1, v2⟩ := valid_kids hv
  obtain ⟨n1, n2, _⟩ := normE_kids hn
  have f1 := fill_rough a c (d - 1) (l - m) (by omega) (by omega) (by omega) g4
  have f2 := fill_rough b e (d - 1) (l - m) (by omega) (by omega) (by omega) g5
  have m1 := fill_norm a c (d - 1) (l - m) v1 (by omega) (by omega) (by omega) g4 n1
  have m2 := fill_norm b e (d - 1) (l - m) v2 (by omega) (by omega) (by omega) g5 n2
  have t1 := end_rng true _ _ _ g4
  have t2 := end_rng true _ _ _ g5
  have r1 := roughE_n f1
  have r2 := roughE_n f2
  have hdd : 1 ≤ d := by omega
  by_cases ha : isT a 1
  · rw [fill_a ha] at hf
    obtain ⟨k1, k2⟩ := normal_inj hdd hd2 ⟨g1, g2⟩ hl (rough_lf (by omega)) f2 rfl m2 hf
    rw [k2] at k1
    have hc : c = .mk c.n [] := by rw [← k1]; rfl
    refine ⟨by rw [hc]; exact fill_of_leaf, k2, fun _ => ⟨by rw [hc]; rfl, ?_⟩, fun _ h => absurd ha h⟩
    rw [← k1]; simp only [T.n_mk]; omega
  · by_cases hb : isT b 1
    · rw [fill_b ha hb] at hf
      obtain ⟨k1, k2⟩ := normal_inj hdd hd2 ⟨g1, g2⟩ hl f1 (rough_lf (by omega)) m1 rfl hf
      rw [k1] at k2
      have hc : e = .mk e.n [] := by rw [← k2]; rfl
      refine ⟨k1, by rw [hc]; exact fill_of_leaf, fun h => absurd h ha, fun _ _ => ⟨by rw [hc]; rfl, ?_⟩⟩
      rw [← k2]; simp only [T.n_mk]; omega
    · rw [fill_c ha hb] at hf
      obtain ⟨k1, k2⟩ := normal_inj hdd hd2 ⟨g1, g2⟩ hl f1 f2 m1 m2 hf
      exact ⟨k1, k2, fun h => absurd h ha, fun h => absurd h hb⟩
theorem norm_mk {n : Int} {a b : T} (ha : normE a = a) (hb : normE b = b) (hm : min a.n b.n = 0) (hne : ¬ (a.ks.length = 0 ∧ b.ks.length = 0 ∧ a.n = b.n)) : normE (.mk n [a, b]) = .mk n [a, b] := by
  rw [normE_two, ha, hb, node_no hne, hm]
  simp [lift_zero]
theorem grow_n : ∀ (n m : Int) (a b : T) (ls : List T), binT (.mk m ls) = true → (growE (.mk n [a, b]) (.mk m ls)).1.n = m ∧ (growE (.mk n [a, b]) (.mk m ls)).1.ks.length = 2 := by
  intro n m a b ls h
  rcases bin_case h with rfl | ⟨c, k, e, q, rfl⟩
  · rw [grow_e, grow_two]; (repeat' split) <;> exact ⟨rfl, rfl⟩
  · rw [grow_two]; (repeat' split) <;> exact ⟨rfl, rfl⟩
/-- One side of a node grows. -/
theorem grow_side {i c : T} (hv : validI i = true) (h0 : ¬ isT i 0) (hb : binT c = true) : (isT i 1 ∧ (growE i c).1 = .mk (c.n + 1) c.ks) ∨ (¬ isT i 1 ∧ (growE i c).1.n = c.n ∧ (growE i c).1.ks.length = 2) := by
  cases i with
  | mk n ks => match ks, hv with
    | [], hv =>
      have hv' : n = 0 ∨ n = 1 := by simpa only [validI, decide_eq_true_eq] using hv
      rcases hv' with rfl | rfl
      · exact absurd ⟨rfl, rfl⟩ h0
      · refine .inl ⟨⟨rfl, rfl⟩, ?_⟩
        cases c; rw [grow_one]; rfl
    | [a, b], hv =>
      refine .inr ⟨fun h => by have := h.1; simp at this, ?_⟩
      cases c with
      | mk m ls => exact grow_n n m a b ls hb
    | [a], hv => simp [validI] at hv
    | a :: b :: c :: r, hv => simp [validI] at hv
end Go.Tr
