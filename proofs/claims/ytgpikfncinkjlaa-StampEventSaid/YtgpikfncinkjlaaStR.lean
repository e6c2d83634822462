/- Walks and laws. -/
import Derived.Test.YtgpikfncinkjlaaSt0
import Derived.Test.YtgpikfncinkjlaaEvP
import Derived.Test.YtgpikfncinkjlaaIdP
set_option linter.unusedSimpArgs false
set_option linter.unusedVariables false
namespace Go.Tr
open Go Go.Abs
theorem roughE_deep : ∀ (t : T) (d d' l : Int), 0 ≤ d → d ≤ d' → roughE d l t = true → roughE d' l t = true
  | .mk n [], d, d', l, h0, hd, h => by simpa [roughE] using h
  | .mk n [a, b], d, d', l, h0, hd, h => by
    obtain ⟨g1, g2, g3, g4, g5⟩ := roughE_kids h
    have e1 := roughE_deep a (d - 1) (d' - 1) (l - n) (by omega) (by omega) g4
    have e2 := roughE_deep b (d - 1) (d' - 1) (l - n) (by omega) (by omega) g5
    simp only [roughE, Bool.and_eq_true, decide_eq_true_eq]
    exact ⟨⟨⟨g1, g2, by omega⟩, e1⟩, e2⟩
  | .mk n [a], d, d', l, h0, hd, h => by rw [roughE_no (by simp) (by simp)] at h; cases h
  | .mk n (a :: b :: c :: r), d, d', l, h0, hd, h => by rw [roughE_no (by simp) (by simp)] at h; cases h
theorem rough_mk {d l n : Int} {a b : T} (h0 : 0 ≤ n ∧ n ≤ l ∧ d ≠ 0) (ha : roughE (d - 1) (l - n) a = true) (hb : roughE (d - 1) (l - n) b = true) : roughE d l (.mk n [a, b]) = true := by
  simp only [roughE, Bool.and_eq_true, decide_eq_true_eq]
  exact ⟨⟨h0, ha⟩, hb⟩
theorem rough_lf {d l n : Int} (h : 0 ≤ n ∧ n ≤ l) : roughE d l (.mk n []) = true := by
  simp only [roughE, decide_eq_true_eq]; exact h
theorem normal_is {d l n : Int} {a b : T} (hd : 1 ≤ d) (hd2 : d ≤ 16) (hn : 0 ≤ n ∧ n ≤ l) (hl : l ≤ 1073741824) (ha : roughE (d - 1) (l - n) a = true) (hb : roughE (d - 1) (l - n) b = true) : normalE n a b = liftT n (normE (.mk 0 [a, b])) ∧ roughE d l (normalE n a b) = true := by
  have r0 : roughE d (l - n) (.mk 0 [a, b]) = true := rough_mk (by omega) (by simpa using ha) (by simpa using hb)
  have r1 : roughE 16 1073741824 (.mk 0 [a, b]) = true := roughE_deep _ d 16 _ (by omega) hd2 (roughE_mono r0 (by omega))
  have e1 : normalE n a b = liftT n (normE (.mk 0 [a, b])) := by rw [normalE, normEP, if_pos r1]
  refine ⟨e1, ?_⟩
  rw [e1]
  have r2 := roughE_norm _ _ _ r0
  have r3 := roughE_lift (k := n) r2 (by have := roughE_n r2; omega)
  have : l - n + n = l := by omega
  rwa [this] at r3
theorem fill_rough : ∀ (i e : T) (d l : Int), 0 ≤ d → d ≤ 16 → l ≤ 1073741824 → roughE d l e = true → roughE d l (fillE i e) = true
  | .mk n [], .mk m ls, d, l, h0, hd, hl, h => by
    rw [fill_leaf]
    (repeat' split)
    · exact h
    · exact rough_lf (end_rng true _ _ _ h)
    · exact h
  | .mk n [a, b], .mk m [], d, l, h0, hd, hl, h => by rw [fill_e]; exact h
  | .mk n [a, b], .mk m [c, e], d, l, h0, hd, hl, h => by
    obtain ⟨g1, g2, g3, g4, g5⟩ := roughE_kids h
    have f1 := fill_rough a c (d - 1) (l - m) (by omega) (by omega) (by omega) g4
    have f2 := fill_rough b e (d - 1) (l - m) (by omega) (by omega) (by omega) g5
    have t1 := end_rng true _ _ _ g4
    have t2 := end_rng true _ _ _ g5
    have n1 := roughE_n f1
    have n2 := roughE_n f2
    rw [fill_two]
    (repeat' split)
    · exact (normal_is (by omega) hd ⟨g1, g2⟩ hl (rough_lf (by omega)) f2).2
    · exact (normal_is (by omega) hd ⟨g1, g2⟩ hl f1 (rough_lf (by omega))).2
    · exact (normal_is (by omega) hd ⟨g1, g2⟩ hl f1 f2).2
  | .mk n [a, b], .mk m [c], d, l, h0, hd, hl, h => by simpa [fillE] using h
  | .mk n [a, b], .mk m (c :: e :: f :: r), d, l, h0, hd, hl, h => by simpa [fillE] using h
  | .mk n [a], e, d, l, h0, hd, hl, h => by simpa [fillE] using h
  | .mk n (a :: b :: c :: r), e, d, l, h0, hd, hl, h => by simpa [fillE] using h
theorem grow_rough : ∀ (i e : T) (d l : Int), (size i : Int) ≤ d → roughE d l e = true → roughE d (l + 1) (growE i e).1 = true
  | .mk n [], .mk m ls, d, l, h0, h => by
    rw [grow_one]
    have := roughE_n h
    exact roughE_lift (k := 1) h (by omega)
  | .mk n [a, b], .mk m [], d, l, h0, h => by
    simp only [size, sizes] at h0
    have hm := roughE_n h
    simp only [T.n_mk] at hm
    have f1 := grow_rough a (.mk 0 []) (d - 1) (l - m) (by omega) (rough_lf (by omega))
    have f2 := grow_rough b (.mk 0 []) (d - 1) (l - m) (by omega) (rough_lf (by omega))
    have e1 : l - m + 1 = l + 1 - m := by omega
    rw [e1] at f1 f2
    rw [grow_e, grow_two]
    (repeat' split)
    · exact rough_mk (by omega) (rough_lf (by omega)) f2
    · exact rough_mk (by omega) f1 (rough_lf (by omega))
    · exact rough_mk (by omega) f1 (rough_lf (by omega))
    · exact rough_mk (by omega) (rough_lf (by omega)) f2
  | .mk n [a, b], .mk m [c, e], d, l, h0, h => by
    simp only [size, sizes] at h0
    obtain ⟨g1, g2, g3, g4, g5⟩ := roughE_kids h
    have f1 := grow_rough a c (d - 1) (l - m) (by omega) g4
    have f2 := grow_rough b e (d - 1) (l - m) (by omega) g5
    have e1 : l - m + 1 = l + 1 - m := by omega
    rw [e1] at f1 f2
    have g6 := roughE_mono (l' := l + 1 - m) g4 (by omega)
    have g7 := roughE_mono (l' := l + 1 - m) g5 (by omega)
    rw [grow_two]
    (repeat' split)
    · exact rough_mk (by omega) g6 f2
    · exact rough_mk (by omega) f1 g7
    · exact rough_mk (by omega) f1 g7
    · exact rough_mk (by omega) g6 f2
  | .mk n [a, b], .mk m [c], d, l, h0, h => by rw [roughE_no (by simp) (by simp)] at h; cases h
  | .mk n [a, b], .mk m (c :: e :: f :: r), d, l, h0, h => by rw [roughE_no (by simp) (by simp)] at h; cases h
  | .mk n [a], e, d, l, h0, h => by simpa [growE] using roughE_mono h (by omega)
  | .mk n (a :: b :: c :: r), e, d, l, h0, h => by simpa [growE] using roughE_mono h (by omega)
theorem grow_size : ∀ (i e : T), size (growE i e).1 ≤ size e + 2 * size i
  | .mk n [], .mk m ls => by rw [grow_one]; simp only [size, sizes]; omega
  | .mk n [a, b], .mk m [] => by
    have h1 := grow_size a (.mk 0 [])
    have h2 := grow_size b (.mk 0 [])
    simp only [size, sizes] at h1 h2
    rw [grow_e, grow_two]
    (repeat' split) <;> simp only [size, sizes] <;> omega
  | .mk n [a, b], .mk m [c, d] => by
    have h1 := grow_size a c
    have h2 := grow_size b d
    rw [grow_two]
    (repeat' split) <;> simp only [size, sizes] <;> omega
  | .mk n [a, b], .mk m [c] => by simp [growE]
  | .mk n [a, b], .mk m (c :: d :: e :: r) => by simp [growE]
  | .mk n [a], e => by simp [growE]
  | .mk n (a :: b :: c :: r), e => by simp [growE]
theorem next_size (i e : T) : size (nextE i e) ≤ size e + 2 * size i := by
  unfold nextE; split
  · exact grow_size i e
  · have := fill_size i e; omega
theorem next_rough {i e : T} (hi : size i ≤ 1000) (he : checkE e = true) : roughE 1000 1073741825 (nextE i e) = true := by
  unfold nextE; split
  · exact grow_rough i e 1000 1073741824 (by omega) (roughE_deep _ 16 1000 _ (by omega) (by omega) (checkE_rough he))
  · exact roughE_mono (roughE_deep _ 16 1000 _ (by omega) (by omega) (fill_rough i e 16 _ (by omega) (by omega) (by omega) (checkE_rough he))) (by omega)
end Go.Tr
