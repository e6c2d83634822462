/- Walks and laws. -/
import Derived.Test.YtgpikfncinkjlaaTr3
set_option linter.unusedSimpArgs false
set_option linter.unusedVariables false
namespace Go.Tr
open Go Go.Abs
abbrev isT (t : T) (n : Int) : Prop := t.ks.length = 0 ∧ t.n = n
def lf (n : Int) : T := .mk n []
def binT : T → Bool
  | .mk _ [] => true
  | .mk _ [a, b] => binT a && binT b
  | _ => false
  termination_by structural t => t
def roughI : Int → T → Bool
  | _, .mk n [] => decide (n = 0 ∨ n = 1)
  | d, .mk n [a, b] => decide (n = 0) && decide (0 < d) && roughI (d - 1) a && roughI (d - 1) b
  | _, _ => false
  termination_by structural _ t => t
def shortI (l r : T) : T := if isT l r.n ∧ r.ks.length = 0 then l else .mk 0 [l, r]
def normI : T → T
  | .mk n [] => .mk n []
  | .mk _ [a, b] => shortI (normI a) (normI b)
  | t => t
  termination_by structural t => t
def halvesI : T → T × T
  | .mk _ [] => (.mk 0 [.mk 1 [], .mk 0 []], .mk 0 [.mk 0 [], .mk 1 []])
  | .mk _ [l, r] => if isT l 0 then (.mk 0 [l, (halvesI r).1], .mk 0 [l, (halvesI r).2])
    else if isT r 0 then (.mk 0 [(halvesI l).1, r], .mk 0 [(halvesI l).2, r])
    else (.mk 0 [l, .mk 0 []], .mk 0 [.mk 0 [], r])
  | t => (t, t)
  termination_by structural t => t
def sumI : T → T → T × Bool
  | .mk _ [a1, a2], .mk _ [b1, b2] => if (sumI a1 b1).2 = true ∧ (sumI a2 b2).2 = true then (shortI (sumI a1 b1).1 (sumI a2 b2).1, true) else (.mk 0 [], false)
  | a, b => if isT a 0 then (b, true) else if isT b 0 then (a, true) else (.mk 0 [], false)
  termination_by structural a => a
def shareI : T → Int → Int
  | .mk n [], k => n * k
  | .mk _ [a, b], k => shareI a (k / 2) + shareI b (k / 2)
  | _, _ => 0
  termination_by structural t => t
def bitI (at_ : Int) (b : Nat) : Nat := (at_ / 2 ^ b % 2).toNat
def leafI : T → Nat → Int → Int
  | .mk n [], _, _ => n
  | .mk _ [a, b], k, p => if bitI p (k - 1) = 0 then leafI a (k - 1) p else leafI b (k - 1) p
  | _, _, _ => 0
  termination_by structural t => t
def depthT : T → Nat
  | .mk _ [] => 0
  | .mk _ [a, b] => 1 + max (depthT a) (depthT b)
  | _ => 0
  termination_by structural t => t
abbrev ag (t : T) : AVal := .agg [.sc (.int .i64 t.n), .sl (tcs t.ks) t.ks.length .any]
theorem short_yes {l r : T} (h : isT l r.n ∧ r.ks.length = 0) : shortI l r = l := by rw [shortI, if_pos h]
theorem short_no {l r : T} (h : ¬ (isT l r.n ∧ r.ks.length = 0)) : shortI l r = .mk 0 [l, r] := by rw [shortI, if_neg h]
theorem bin_of_rough : ∀ (t : T) (d : Int), roughI d t = true → binT t = true
  | .mk n [], d, h => rfl
  | .mk n [a, b], d, h => by
    simp only [roughI, Bool.and_eq_true] at h
    simp only [binT, Bool.and_eq_true]
    exact ⟨bin_of_rough a _ h.1.2, bin_of_rough b _ h.2⟩
  | .mk n [a], d, h => by simp [roughI] at h
  | .mk n (a :: b :: c :: r), d, h => by simp [roughI] at h
theorem rough_no {d n : Int} {ks : List T} (h0 : ks.length ≠ 0) (h2 : ks.length ≠ 2) : roughI d (.mk n ks) = false := by
  match ks, h0, h2 with
  | [], h, _ => exact absurd rfl h
  | [a], _, _ => simp [roughI]
  | [a, b], _, h => exact absurd rfl h
  | a :: b :: c :: r, _, _ => simp [roughI]
theorem bin_len {t : T} (h : binT t = true) : t.ks.length = 0 ∨ t.ks.length = 2 := by
  match t, h with
  | .mk n [], h => exact .inl rfl
  | .mk n [a, b], h => exact .inr rfl
  | .mk n [a], h => simp [binT] at h
  | .mk n (a :: b :: c :: r), h => simp [binT] at h
theorem size_short (l r : T) : size (shortI l r) ≤ 1 + size l + size r := by
  unfold shortI; split
  · omega
  · simp only [size, sizes]; omega
theorem size_norm : ∀ t : T, size (normI t) ≤ size t
  | .mk n [] => Nat.le_refl _
  | .mk n [a, b] => by
    have := size_norm a; have := size_norm b; have := size_short (normI a) (normI b)
    simp only [normI, size, sizes] at *; omega
  | .mk n [a] => Nat.le_refl _
  | .mk n (a :: b :: c :: r) => Nat.le_refl _
theorem beqT_comm (a b : T) : beqT a b = beqT b a := by rw [Bool.eq_iff_iff, beqT_iff, beqT_iff]; exact eq_comm
def checkI (t : T) : Bool := roughI 16 t && beqT t (normI t)
def normP (t : T) : T × Int := if roughI 16 t = true then (normI t, 0) else (.mk 0 [], 3)
def splitP (t : T) : T × T × Int := if checkI t = true then (if isT t 0 then (.mk 0 [], .mk 0 [], 7) else if roughI 16 (halvesI t).1 = true ∧ roughI 16 (halvesI t).2 = true then ((halvesI t).1, (halvesI t).2, 0) else (.mk 0 [], .mk 0 [], 40)) else (.mk 0 [], .mk 0 [], 3)
def sumP (a b : T) : T × Int := if checkI a = true ∧ checkI b = true then (if (sumI a b).2 = true then ((sumI a b).1, 0) else (.mk 0 [], 42)) else (.mk 0 [], 3)
def ownsP (t : T) (p : Int) : Prop := (0 ≤ p ∧ p < 65536) ∧ checkI t = true ∧ leafI t 16 p = 1
instance (t : T) (p : Int) : Decidable (ownsP t p) := by unfold ownsP; infer_instance
def shareP (t : T) : Int := if checkI t = true then shareI t 65536 else 0
theorem norm_two (n : Int) (a b : T) : normI (.mk n [a, b]) = shortI (normI a) (normI b) := rfl
theorem halves_two (n : Int) (l r : T) : halvesI (.mk n [l, r]) = if isT l 0 then (.mk 0 [l, (halvesI r).1], .mk 0 [l, (halvesI r).2])
    else if isT r 0 then (.mk 0 [(halvesI l).1, r], .mk 0 [(halvesI l).2, r])
    else (.mk 0 [l, .mk 0 []], .mk 0 [.mk 0 [], r]) := rfl
theorem halves_a {n : Int} {l r : T} (h : isT l 0) : halvesI (.mk n [l, r]) = (.mk 0 [l, (halvesI r).1], .mk 0 [l, (halvesI r).2]) := by rw [halves_two, if_pos h]
theorem halves_b {n : Int} {l r : T} (h : ¬ isT l 0) (h2 : isT r 0) : halvesI (.mk n [l, r]) = (.mk 0 [(halvesI l).1, r], .mk 0 [(halvesI l).2, r]) := by rw [halves_two, if_neg h, if_pos h2]
theorem halves_c {n : Int} {l r : T} (h : ¬ isT l 0) (h2 : ¬ isT r 0) : halvesI (.mk n [l, r]) = (.mk 0 [l, .mk 0 []], .mk 0 [.mk 0 [], r]) := by rw [halves_two, if_neg h, if_neg h2]
theorem fdiv2 (x : Int) : Int.fdiv x 2 = x / 2 := Int.fdiv_eq_ediv_of_nonneg _ (by decide)
theorem share_bd : ∀ (t : T) (d k : Int), roughI d t = true → 0 ≤ k → 0 ≤ shareI t k ∧ shareI t k ≤ k
  | .mk n [], d, k, h, hk => by
    simp only [roughI, decide_eq_true_eq] at h
    simp only [shareI]
    rcases h with rfl | rfl <;> omega
  | .mk n [a, b], d, k, h, hk => by
    simp only [roughI, Bool.and_eq_true] at h
    have h1 := share_bd a (d - 1) (k / 2) h.1.2 (by omega)
    have h2 := share_bd b (d - 1) (k / 2) h.2 (by omega)
    simp only [shareI]; omega
  | .mk n [a], d, k, h, hk => by simp [roughI] at h
  | .mk n (a :: b :: c :: r), d, k, h, hk => by simp [roughI] at h
theorem rough_kids {d n : Int} {a b : T} (h : roughI d (.mk n [a, b]) = true) : n = 0 ∧ 0 < d ∧ roughI (d - 1) a = true ∧ roughI (d - 1) b = true := by
  simp only [roughI, Bool.and_eq_true, decide_eq_true_eq] at h
  exact ⟨h.1.1.1, h.1.1.2, h.1.2, h.2⟩
theorem bin_kids {n : Int} {a b : T} (h : binT (.mk n [a, b]) = true) : binT a = true ∧ binT b = true := by
  simpa [binT] using h
theorem bin_case {n : Int} {ks : List T} (h : binT (.mk n ks) = true) : ks = [] ∨ ∃ a k b l, ks = [.mk a k, .mk b l] := by
  rcases bin_len h with h | h
  · exact .inl (List.eq_nil_of_length_eq_zero h)
  · exact .inr (two_of h)
theorem check_bin {t : T} (h : checkI t = true) : binT t = true := by
  simp only [checkI, Bool.and_eq_true] at h; exact bin_of_rough _ _ h.1
theorem check_rough {t : T} (h : checkI t = true) : roughI 16 t = true := by
  simp only [checkI, Bool.and_eq_true] at h; exact h.1
theorem check_norm {t : T} (h : checkI t = true) : normI t = t := by
  simp only [checkI, Bool.and_eq_true] at h; exact ((beqT_iff _ _).1 h.2).symm
theorem sum_l (n m : Int) (ls : List T) : sumI (.mk n []) (.mk m ls) = if n = 0 then (.mk m ls, true) else if ls.length = 0 ∧ m = 0 then (.mk n [], true) else (.mk 0 [], false) := by
  simp [sumI, isT]
theorem sum_r (n m : Int) (a b : T) : sumI (.mk n [a, b]) (.mk m []) = if m = 0 then (.mk n [a, b], true) else (.mk 0 [], false) := by
  simp [sumI, isT]
theorem sum_2 (n m : Int) (a b c d : T) : sumI (.mk n [a, b]) (.mk m [c, d]) = if (sumI a c).2 = true ∧ (sumI b d).2 = true then (shortI (sumI a c).1 (sumI b d).1, true) else (.mk 0 [], false) := rfl
theorem sum_size : ∀ (a b : T), size (sumI a b).1 ≤ size a + size b
  | .mk n [], .mk m ls => by
    rw [sum_l]; (repeat' split) <;> simp only [size, sizes] <;> omega
  | .mk n [a1, a2], .mk m [] => by
    rw [sum_r]; (repeat' split) <;> simp only [size, sizes] <;> omega
  | .mk n [a1, a2], .mk m [b1, b2] => by
    rw [sum_2]
    have h1 := sum_size a1 b1
    have h2 := sum_size a2 b2
    have h3 := size_short (sumI a1 b1).1 (sumI a2 b2).1
    split
    · simp only [size, sizes]; omega
    · simp only [size, sizes]; omega
  | .mk n [a], .mk m ls => by simp only [sumI]; (repeat' split) <;> simp only [size, sizes] <;> omega
  | .mk n (a :: b :: c :: r), .mk m ls => by simp only [sumI]; (repeat' split) <;> simp only [size, sizes] <;> omega
  | .mk n [a1, a2], .mk m [b] => by simp only [sumI]; (repeat' split) <;> simp only [size, sizes] <;> omega
  | .mk n [a1, a2], .mk m (a :: b :: c :: r) => by simp only [sumI]; (repeat' split) <;> simp only [size, sizes] <;> omega
theorem norm_kids {n : Int} {a b : T} (h : normI (.mk n [a, b]) = .mk n [a, b]) : normI a = a ∧ normI b = b ∧ n = 0 ∧ shortI a b = .mk 0 [a, b] := by
  rw [norm_two] at h
  by_cases hc : isT (normI a) (normI b).n ∧ (normI b).ks.length = 0
  · rw [short_yes hc] at h
    have := size_norm a
    rw [h] at this
    simp only [size, sizes] at this; omega
  · rw [short_no hc] at h
    injection h with h1 h2
    simp only [List.cons.injEq, and_true] at h2
    have hs := short_no hc
    rw [h2.1, h2.2] at hs
    exact ⟨h2.1, h2.2, h1.symm, hs⟩
theorem norm_short {l r : T} (hl : normI l = l) (hr : normI r = r) : normI (shortI l r) = shortI l r := by
  by_cases hc : isT l r.n ∧ r.ks.length = 0
  · rw [short_yes hc, hl]
  · rw [short_no hc, norm_two, hl, hr, short_no hc]
theorem sum_norm : ∀ (a b : T), normI a = a → normI b = b → normI (sumI a b).1 = (sumI a b).1
  | .mk n [], .mk m ls, ha, hb => by
    rw [sum_l]; (repeat' split) <;> first | exact hb | exact ha | rfl
  | .mk n [a1, a2], .mk m [], ha, hb => by
    rw [sum_r]; (repeat' split) <;> first | exact ha | rfl
  | .mk n [a1, a2], .mk m [b1, b2], ha, hb => by
    rw [sum_2]
    obtain ⟨x1, x2, _⟩ := norm_kids ha
    obtain ⟨y1, y2, _⟩ := norm_kids hb
    split
    · exact norm_short (sum_norm a1 b1 x1 y1) (sum_norm a2 b2 x2 y2)
    · rfl
  | .mk n [a], .mk m ls, ha, hb => by simp only [sumI]; (repeat' split) <;> first | exact hb | exact ha | rfl
  | .mk n (a :: b :: c :: r), .mk m ls, ha, hb => by simp only [sumI]; (repeat' split) <;> first | exact hb | exact ha | rfl
  | .mk n [a1, a2], .mk m [b], ha, hb => by simp only [sumI]; (repeat' split) <;> first | exact hb | exact ha | rfl
  | .mk n [a1, a2], .mk m (a :: b :: c :: r), ha, hb => by simp only [sumI]; (repeat' split) <;> first | exact hb | exact ha | rfl
theorem halves_size : ∀ t : T, size (halvesI t).1 ≤ size t + 2 ∧ size (halvesI t).2 ≤ size t + 2
  | .mk n [] => by simp [halvesI, size, sizes]
  | .mk n [l, r] => by
    have h1 := halves_size l
    have h2 := halves_size r
    rw [halves_two]
    have hl := size_pos l
    have hr := size_pos r
    (repeat' split) <;> simp only [size, sizes] <;> omega
  | .mk n [a] => by simp [halvesI]
  | .mk n (a :: b :: c :: r) => by simp [halvesI]
theorem halves_bin : ∀ t : T, binT t = true → binT (halvesI t).1 = true ∧ binT (halvesI t).2 = true
  | .mk n [], h => ⟨rfl, rfl⟩
  | .mk n [l, r], h => by
    have h' := bin_kids h
    have h1 := halves_bin l h'.1
    have h2 := halves_bin r h'.2
    rw [halves_two]
    (repeat' split) <;> simp [binT, h1, h2, h']
  | .mk n [a], h => by simp [binT] at h
  | .mk n (a :: b :: c :: r), h => by simp [binT] at h
theorem share_two (n k : Int) (a b : T) : shareI (.mk n [a, b]) k = shareI a (k / 2) + shareI b (k / 2) := rfl
theorem share_one (n k : Int) : shareI (.mk n []) k = n * k := rfl
def bitJ (p x : Int) : Nat := (p / x % 2).toNat
def validI : T → Bool
  | .mk n [] => decide (n = 0 ∨ n = 1)
  | .mk n [a, b] => decide (n = 0) && validI a && validI b
  | _ => false
  termination_by structural t => t
theorem rough_iff : ∀ (t : T) (d : Int), 0 ≤ d → (roughI d t = true ↔ validI t = true ∧ (depthT t : Int) ≤ d)
  | .mk n [], d, hd => by simp only [roughI, validI, depthT]; exact ⟨fun h => ⟨h, by omega⟩, fun h => h.1⟩
  | .mk n [a, b], d, hd => by
    simp only [roughI, validI, depthT, Bool.and_eq_true, decide_eq_true_eq]
    constructor
    · rintro ⟨⟨⟨h1, h2⟩, h3⟩, h4⟩
      have ha := (rough_iff a (d - 1) (by omega)).1 h3
      have hb := (rough_iff b (d - 1) (by omega)).1 h4
      exact ⟨⟨⟨h1, ha.1⟩, hb.1⟩, by omega⟩
    · rintro ⟨⟨⟨h1, h2⟩, h3⟩, h4⟩
      exact ⟨⟨⟨h1, by omega⟩, (rough_iff a (d - 1) (by omega)).2 ⟨h2, by omega⟩⟩, (rough_iff b (d - 1) (by omega)).2 ⟨h3, by omega⟩⟩
  | .mk n [a], d, hd => by simp [roughI, validI]
  | .mk n (a :: b :: c :: r), d, hd => by simp [roughI, validI]
end Go.Tr
