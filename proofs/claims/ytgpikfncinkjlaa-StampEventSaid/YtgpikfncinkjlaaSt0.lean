/- Walks and laws. -/
import Derived.Test.YtgpikfncinkjlaaEv0
import Derived.Test.YtgpikfncinkjlaaId0
set_option linter.unusedSimpArgs false
set_option linter.unusedVariables false
namespace Go.Tr
open Go Go.Abs
/-- stamps: two trees -/
abbrev sg (a b : T) : AVal := .agg [.sc (.int .i64 a.n), .sl (tcs a.ks) a.ks.length .any, .sc (.int .i64 b.n), .sl (tcs b.ks) b.ks.length .any]
def checkS (a b : T) : Bool := checkI a && checkE b
def forkP (a b : T) : (T × T) × (T × T) × Int := if checkS a b = true then (if (splitP a).2.2 = 0 then (((splitP a).1, b), ((splitP a).2.1, b), 0) else ((.mk 0 [], .mk 0 []), (.mk 0 [], .mk 0 []), (splitP a).2.2)) else ((.mk 0 [], .mk 0 []), (.mk 0 [], .mk 0 []), 3)
def joinSP (a b c d : T) : (T × T) × Int := if checkS a b = true ∧ checkS c d = true then (if (sumP a c).2 = 0 then (((sumP a c).1, (joinP b d).1), 0) else ((.mk 0 [], .mk 0 []), (sumP a c).2)) else ((.mk 0 [], .mk 0 []), 3)
def normalE (n : Int) (l r : T) : T := liftT n (normEP (.mk 0 [l, r])).1
def fillE : T → T → T
  | .mk n [], .mk m ls => if n = 0 ∨ ls.length = 0 then .mk m ls else if n = 1 then .mk (endE true (.mk m ls)) [] else .mk m ls
  | .mk _ [a, b], .mk m [c, d] =>
    if isT a 1 then normalE m (.mk (max (endE true c) (fillE b d).n) []) (fillE b d)
    else if isT b 1 then normalE m (fillE a c) (.mk (max (endE true d) (fillE a c).n) [])
    else normalE m (fillE a c) (fillE b d)
  | _, e => e
  termination_by structural a => a
def growE : T → T → T × Int
  | .mk _ [], .mk m ls => (.mk (m + 1) ls, 0)
  | .mk _ [a, b], .mk m [] =>
    if isT a 0 then (.mk m [.mk 0 [], (growE b (.mk 0 [])).1], (growE b (.mk 0 [])).2 + 1 + 1000)
    else if isT b 0 then (.mk m [(growE a (.mk 0 [])).1, .mk 0 []], (growE a (.mk 0 [])).2 + 1 + 1000)
    else if (growE a (.mk 0 [])).2 + 1 < (growE b (.mk 0 [])).2 + 1 then (.mk m [(growE a (.mk 0 [])).1, .mk 0 []], (growE a (.mk 0 [])).2 + 1 + 1000)
    else (.mk m [.mk 0 [], (growE b (.mk 0 [])).1], (growE b (.mk 0 [])).2 + 1 + 1000)
  | .mk _ [a, b], .mk m [c, d] =>
    if isT a 0 then (.mk m [c, (growE b d).1], (growE b d).2 + 1)
    else if isT b 0 then (.mk m [(growE a c).1, d], (growE a c).2 + 1)
    else if (growE a c).2 + 1 < (growE b d).2 + 1 then (.mk m [(growE a c).1, d], (growE a c).2 + 1)
    else (.mk m [c, (growE b d).1], (growE b d).2 + 1)
  | _, e => (e, 0)
  termination_by structural a => a
def nextE (i e : T) : T := if beqT (fillE i e) e = true then (growE i e).1 else fillE i e
def eventP (a b : T) : (T × T) × Int := if checkS a b = true then (if isT a 0 then ((.mk 0 [], .mk 0 []), 7) else if endE true (nextE a b) > 1073741824 then ((.mk 0 [], .mk 0 []), 41) else if depthT (nextE a b) > 16 then ((.mk 0 [], .mk 0 []), 40) else ((a, nextE a b), 0)) else ((.mk 0 [], .mk 0 []), 3)
def leqSP (a b c d : T) : Bool := checkS a b && checkS c d && leqP b d
theorem size_normEP2 (t : T) : size (normEP t).1 ≤ size t := by
  unfold normEP; split
  · exact size_normE t
  · have := size_pos t; simp only [size, sizes]; omega
theorem depth_size : ∀ t : T, depthT t ≤ size t
  | .mk n [] => by simp [depthT]
  | .mk n [a, b] => by
    have := depth_size a; have := depth_size b
    simp only [depthT, size, sizes]; omega
  | .mk n [a] => by simp [depthT]
  | .mk n (a :: b :: c :: r) => by simp [depthT]
theorem normEP_n (t : T) : 0 ≤ (normEP t).1.n ∧ (normEP t).1.n ≤ 1073741824 := by
  unfold normEP; split
  · rename_i h; exact roughE_n (roughE_norm _ _ _ h)
  · simp only [T.n_mk]; omega
theorem fill_leaf (n m : Int) (ls : List T) : fillE (.mk n []) (.mk m ls) = if n = 0 ∨ ls.length = 0 then .mk m ls else if n = 1 then .mk (endE true (.mk m ls)) [] else .mk m ls := by
  simp [fillE]
theorem fill_e (n m : Int) (a b : T) : fillE (.mk n [a, b]) (.mk m []) = .mk m [] := by simp [fillE]
theorem fill_two (n m : Int) (a b c d : T) : fillE (.mk n [a, b]) (.mk m [c, d]) = if isT a 1 then normalE m (.mk (max (endE true c) (fillE b d).n) []) (fillE b d)
    else if isT b 1 then normalE m (fillE a c) (.mk (max (endE true d) (fillE a c).n) [])
    else normalE m (fillE a c) (fillE b d) := rfl
theorem fill_a {n m : Int} {a b c d : T} (h : isT a 1) : fillE (.mk n [a, b]) (.mk m [c, d]) = normalE m (.mk (max (endE true c) (fillE b d).n) []) (fillE b d) := by rw [fill_two, if_pos h]
theorem fill_b {n m : Int} {a b c d : T} (h : ¬ isT a 1) (h2 : isT b 1) : fillE (.mk n [a, b]) (.mk m [c, d]) = normalE m (fillE a c) (.mk (max (endE true d) (fillE a c).n) []) := by rw [fill_two, if_neg h, if_pos h2]
theorem fill_c {n m : Int} {a b c d : T} (h : ¬ isT a 1) (h2 : ¬ isT b 1) : fillE (.mk n [a, b]) (.mk m [c, d]) = normalE m (fillE a c) (fillE b d) := by rw [fill_two, if_neg h, if_neg h2]
theorem size_normal (n : Int) (l r : T) : size (normalE n l r) ≤ 1 + size l + size r := by
  unfold normalE; rw [size_lift]
  have := size_normEP2 (.mk 0 [l, r])
  simp only [size, sizes] at this; omega
theorem fill_size : ∀ (i e : T), size (fillE i e) ≤ size e
  | .mk n [], .mk m ls => by
    rw [fill_leaf]
    (repeat' split) <;> first | exact Nat.le_refl _ | (simp only [size, sizes]; omega)
  | .mk n [a, b], .mk m [] => by rw [fill_e]; exact Nat.le_refl _
  | .mk n [a, b], .mk m [c, d] => by
    have h1 := fill_size a c
    have h2 := fill_size b d
    have h3 := size_pos c
    have h4 := size_pos d
    rw [fill_two]
    (repeat' split)
    · have := size_normal m (.mk (max (endE true c) (fillE b d).n) []) (fillE b d)
      simp only [size, sizes] at *; omega
    · have := size_normal m (fillE a c) (.mk (max (endE true d) (fillE a c).n) [])
      simp only [size, sizes] at *; omega
    · have := size_normal m (fillE a c) (fillE b d)
      simp only [size, sizes] at *; omega
  | .mk n [a, b], .mk m [c] => by simp [fillE]
  | .mk n [a, b], .mk m (c :: d :: e :: r) => by simp [fillE]
  | .mk n [a], e => by simp [fillE]
  | .mk n (a :: b :: c :: r), e => by simp [fillE]
theorem not_both {n : Int} {a b : T} (hn : normI (.mk n [a, b]) = .mk n [a, b]) (ha : isT a 1) : ¬ isT b 1 := by
  intro hb
  have hs := (norm_kids hn).2.2.2
  rw [short_yes ⟨⟨ha.1, by rw [ha.2, hb.2]⟩, hb.1⟩] at hs
  have := ha.1
  rw [hs] at this; simp at this
theorem grow_one (n m : Int) (ls : List T) : growE (.mk n []) (.mk m ls) = (.mk (m + 1) ls, 0) := by simp [growE]
theorem grow_two (n m : Int) (a b c d : T) : growE (.mk n [a, b]) (.mk m [c, d]) = if isT a 0 then (.mk m [c, (growE b d).1], (growE b d).2 + 1)
    else if isT b 0 then (.mk m [(growE a c).1, d], (growE a c).2 + 1)
    else if (growE a c).2 + 1 < (growE b d).2 + 1 then (.mk m [(growE a c).1, d], (growE a c).2 + 1)
    else (.mk m [c, (growE b d).1], (growE b d).2 + 1) := rfl
theorem grow_e (n m : Int) (a b : T) : growE (.mk n [a, b]) (.mk m []) = ((growE (.mk n [a, b]) (.mk m [.mk 0 [], .mk 0 []])).1, (growE (.mk n [a, b]) (.mk m [.mk 0 [], .mk 0 []])).2 + 1000) := by
  rw [grow_two]
  simp only [growE]
  (repeat' split) <;> rfl
theorem grow_a {n m : Int} {a b c d : T} (h : isT a 0) : growE (.mk n [a, b]) (.mk m [c, d]) = (.mk m [c, (growE b d).1], (growE b d).2 + 1) := by rw [grow_two, if_pos h]
theorem grow_b {n m : Int} {a b c d : T} (h : ¬ isT a 0) (h2 : isT b 0) : growE (.mk n [a, b]) (.mk m [c, d]) = (.mk m [(growE a c).1, d], (growE a c).2 + 1) := by rw [grow_two, if_neg h, if_pos h2]
theorem grow_c {n m : Int} {a b c d : T} (h : ¬ isT a 0) (h2 : ¬ isT b 0) : growE (.mk n [a, b]) (.mk m [c, d]) = if (growE a c).2 + 1 < (growE b d).2 + 1 then (.mk m [(growE a c).1, d], (growE a c).2 + 1)
    else (.mk m [c, (growE b d).1], (growE b d).2 + 1) := by rw [grow_two, if_neg h, if_neg h2]
theorem grow_cost : ∀ (i e : T), 0 ≤ (growE i e).2 ∧ (growE i e).2 ≤ 1001 * (size i : Int)
  | .mk n [], .mk m ls => by rw [grow_one]; simp only [size, sizes]; omega
  | .mk n [a, b], .mk m [] => by
    have h1 := grow_cost a (.mk 0 [])
    have h2 := grow_cost b (.mk 0 [])
    rw [grow_e, grow_two]
    simp only [size, sizes]
    (repeat' split) <;> simp only [] <;> omega
  | .mk n [a, b], .mk m [c, d] => by
    have h1 := grow_cost a c
    have h2 := grow_cost b d
    rw [grow_two]
    simp only [size, sizes]
    (repeat' split) <;> simp only [] <;> omega
  | .mk n [a, b], .mk m [c] => by simp [growE]; omega
  | .mk n [a, b], .mk m (c :: d :: e :: r) => by simp [growE]; omega
  | .mk n [a], e => by simp [growE]; omega
  | .mk n (a :: b :: c :: r), e => by simp [growE]; omega
theorem not_zero {n : Int} {a b : T} (hn : normI (.mk n [a, b]) = .mk n [a, b]) (ha : isT a 0) : ¬ isT b 0 := by
  intro hb
  have hs := (norm_kids hn).2.2.2
  rw [short_yes ⟨⟨ha.1, by rw [ha.2, hb.2]⟩, hb.1⟩] at hs
  have := ha.1
  rw [hs] at this; simp at this
end Go.Tr
