/- Walks and laws. -/
import Derived.Test.YtgpikfncinkjlaaTr3
set_option linter.unusedSimpArgs false
set_option linter.unusedVariables false
namespace Go.Tr
open Go Go.Abs
abbrev isT (t : T) (n : Int) : Prop := t.ks.length = 0 ∧ t.n = n
def lf (n : Int) : T := .mk n []
def binT : T → Bool
  | .mk _ [] => true
  | .mk _ [a, b] => binT a && binT b
  | _ => false
  termination_by structural t => t
def roughI : Int → T → Bool
  | _, .mk n [] => decide (n = 0 ∨ n = 1)
  | d, .mk n [a, b] => decide (n = 0) && decide (0 < d) && roughI (d - 1) a && roughI (d - 1) b
  | _, _ => false
  termination_by structural _ t => t
def shortI (l r : T) : T := if isT l r.n ∧ r.ks.length = 0 then l else .mk 0 [l, r]
def normI : T → T
  | .mk n [] => .mk n []
  | .mk _ [a, b] => shortI (normI a) (normI b)
  | t => t
  termination_by structural t => t
def halvesI : T → T × T
  | .mk _ [] => (.mk 0 [.mk 1 [], .mk 0 []], .mk 0 [.mk 0 [], .mk 1 []])
  | .mk _ [l, r] => if isT l 0 then (.mk 0 [l, (halvesI r).1], .mk 0 [l, (halvesI r).2])
    else if isT r 0 then (.mk 0 [(halvesI l).1, r], .mk 0 [(halvesI l).2, r])
    else (.mk 0 [l, .mk 0 []], .mk 0 [.mk 0 [], r])
  | t => (t, t)
  termination_by structural t => t
def sumI : T → T → T × Bool
  | .mk _ [a1, a2], .mk _ [b1, b2] => if (sumI a1 b1).2 = true ∧ (sumI a2 b2).2 = true then (shortI (sumI a1 b1).1 (sumI a2 b2).1, true) else (.mk 0 [], false)
  | a, b => if isT a 0 then (b, true) else if isT b 0 then (a, true) else (.mk 0 [], false)
  termination_by structural a => a
def shareI : T → Int → Int
  | .mk n [], k => n * k
  | .mk _ [a, b], k => shareI a (k / 2) + shareI b (k / 2)
  | _, _ => 0
  termination_by structural t => t
def bitI (at_ : Int) (b : Nat) : Nat := (at_ / 2 ^ b % 2).toNat
def leafI : T → Nat → Int → Int
  | .mk n [], _, _ => n
  | .mk _ [a, b], k, p => if bitI p (k - 1) = 0 then leafI a (k - 1) p else leafI b (k - 1) p
  | _, _, _ => 0
  termination_by structural t => t
def depthT : T → Nat
  | .mk _ [] => 0
  | .mk _ [a, b] => 1 + max (depthT a) (depthT b)
  | _ => 0
  termination_by structural t => t
abbrev ag (t : T) : AVal := .agg [.sc (.int .i64 t.n), .sl (tcs t.ks) t.ks.length .any]
theorem short_yes {l r : T} (h : isT l r.n ∧ r.ks.length = 0) : shortI l r = l := by rw [shortI, if_pos h]
theorem short_no {l r : T} (h : ¬ (isT l r.n ∧ r.ks.length = 0)) : shortI l r = .mk 0 [l, r] := by rw [shortI, if_neg h]
theorem bin_of_rough : ∀ (t : T) (d : Int), roughI d t = true → binT t = true
  | .mk n [], d, h => rfl
  | .mk n [a, b], d, h => by
    simp only [roughI, Bool.and_eq_true] at h
    simp only [binT, Bool.and_eq_true]
    exact ⟨bin_of_rough a _ h.1.2, bin_of_rough b _ h.2⟩
  | .mk n [a], d, h => by simp [roughI] at h
  | .mk n (a :: b :: c :: r), d, h => by simp [roughI] at h
theorem rough_no {d n : Int} {ks : List T} (h0 : ks.length ≠ 0) (h2 : ks.length ≠ 2) : roughI d (.mk n ks) = false := by
  match ks, h0, h2 with
  | [], h, _ => exact absurd rfl h
  | [a], _, _ => simp [roughI]
  | [a, b], _, h => exact absurd rfl h
  | a :: b :: c :: r, _, _ => simp [roughI]
theorem bin_len {t : T} (h : binT t = true) : t.ks.length = 0 ∨ t.ks.length = 2 := by
  match t, h with
  | .mk n [], h => exact .inl rfl
  | .mk n [a, b], h => exact .inr rfl
  | .mk n [a], h => simp [binT] at h
  | .mk n (a :: b :: c :: r), h => simp [binT] at h
/-- A number's bit. -/
theorem bit_eq (p : Int) (b : Nat) (hp : 0 ≤ p) (hp2 : p < 65536) (hb : b ≤ 64) : IntKind.wrap .i64 (BitVec.ofInt 64 (p.fdiv (2 ^ (min b 64))) &&& BitVec.ofInt 64 1).toNat = (bitI p b : Int) := by
  rw [Nat.min_eq_left hb]
  have h2 : (0 : Int) < 2 ^ b := Int.pow_pos (by decide)
  rw [Int.fdiv_eq_ediv_of_nonneg _ (Int.le_of_lt h2)]
  have h0 : 0 ≤ p / 2 ^ b := Int.ediv_nonneg hp (Int.le_of_lt h2)
  have h1 : p / 2 ^ b ≤ p := Int.ediv_le_self _ hp
  obtain ⟨q, hq⟩ := Int.eq_ofNat_of_zero_le h0
  unfold bitI
  rw [hq] at h1 ⊢
  have e : (BitVec.ofInt 64 (q : Int) &&& BitVec.ofInt 64 1).toNat = q % 2 := by
    rw [BitVec.toNat_and, BitVec.toNat_ofInt, BitVec.toNat_ofInt]
    have : ((q : Int) % (2 ^ 64 : Nat)).toNat = q := by omega
    rw [this]
    have : ((1 : Int) % (2 ^ 64 : Nat)).toNat = 1 := by decide
    rw [this, Nat.and_one_is_mod]
  rw [e, IntWalk.i64_in _ (by omega)]
  omega
theorem bit_lt (p : Int) (b : Nat) : bitI p b < 2 := by unfold bitI; omega
theorem bitw (p : Int) (b : Nat) (h : 0 < b) (hb : b ≤ 16) (hp : 0 ≤ p ∧ p < 65536) : IntKind.wrap IntKind.i64 (↑(BitVec.toNat (BitVec.ofInt 64 (Int.fdiv p (2 ^ min (Int.toNat (if 0 > (↑b : Int) - 1 then 0 else (↑b : Int) - 1)) 64)) &&& BitVec.ofInt 64 1)) : Int) = ((bitI p (b - 1) : Nat) : Int) := by
  rw [if_neg (by omega), show Int.toNat ((b : Int) - 1) = b - 1 by omega]
  exact bit_eq p (b - 1) hp.1 hp.2 (by omega)
theorem bit_get (a b : T) (p : Int) (k : Nat) : [a, b].getD (bitI p k) default = if bitI p k = 0 then a else b := by
  have := bit_lt p k
  by_cases h : bitI p k = 0
  · rw [h]; rfl
  · rw [if_neg h, show bitI p k = 1 by omega]; rfl
theorem size_short (l r : T) : size (shortI l r) ≤ 1 + size l + size r := by
  unfold shortI; split
  · omega
  · simp only [size, sizes]; omega
theorem size_norm : ∀ t : T, size (normI t) ≤ size t
  | .mk n [] => Nat.le_refl _
  | .mk n [a, b] => by
    have := size_norm a; have := size_norm b; have := size_short (normI a) (normI b)
    simp only [normI, size, sizes] at *; omega
  | .mk n [a] => Nat.le_refl _
  | .mk n (a :: b :: c :: r) => Nat.le_refl _
theorem beqT_comm (a b : T) : beqT a b = beqT b a := by rw [Bool.eq_iff_iff, beqT_iff, beqT_iff]; exact eq_comm
def checkI (t : T) : Bool := roughI 16 t && beqT t (normI t)
def normP (t : T) : T × Int := if roughI 16 t = true then (normI t, 0) else (.mk 0 [], 3)
def splitP (t : T) : T × T × Int := if checkI t = true then (if isT t 0 then (.mk 0 [], .mk 0 [], 7) else if roughI 16 (halvesI t).1 = true ∧ roughI 16 (halvesI t).2 = true then ((halvesI t).1, (halvesI t).2, 0) else (.mk 0 [], .mk 0 [], 40)) else (.mk 0 [], .mk 0 [], 3)
def sumP (a b : T) : T × Int := if checkI a = true ∧ checkI b = true then (if (sumI a b).2 = true then ((sumI a b).1, 0) else (.mk 0 [], 42)) else (.mk 0 [], 3)
def ownsP (t : T) (p : Int) : Prop := (0 ≤ p ∧ p < 65536) ∧ checkI t = true ∧ leafI t 16 p = 1
instance (t : T) (p : Int) : Decidable (ownsP t p) := by unfold ownsP; infer_instance
def shareP (t : T) : Int := if checkI t = true then shareI t 65536 else 0
theorem norm_two (n : Int) (a b : T) : normI (.mk n [a, b]) = shortI (normI a) (normI b) := rfl
theorem halves_two (n : Int) (l r : T) : halvesI (.mk n [l, r]) = if isT l 0 then (.mk 0 [l, (halvesI r).1], .mk 0 [l, (halvesI r).2])
    else if isT r 0 then (.mk 0 [(halvesI l).1, r], .mk 0 [(halvesI l).2, r])
    else (.mk 0 [l, .mk 0 []], .mk 0 [.mk 0 [], r]) := rfl
theorem halves_a {n : Int} {l r : T} (h : isT l 0) : halvesI (.mk n [l, r]) = (.mk 0 [l, (halvesI r).1], .mk 0 [l, (halvesI r).2]) := by rw [halves_two, if_pos h]
theorem halves_b {n : Int} {l r : T} (h : ¬ isT l 0) (h2 : isT r 0) : halvesI (.mk n [l, r]) = (.mk 0 [(halvesI l).1, r], .mk 0 [(halvesI l).2, r]) := by rw [halves_two, if_neg h, if_pos h2]
theorem halves_c {n : Int} {l r : T} (h : ¬ isT l 0) (h2 : ¬ isT r 0) : halvesI (.mk n [l, r]) = (.mk 0 [l, .mk 0 []], .mk 0 [.mk 0 [], r]) := by rw [halves_two, if_neg h, if_neg h2]
theorem fdiv2 (x : Int) : Int.fdiv x 2 = x / 2 := Int.fdiv_eq_ediv_of_nonneg _ (by decide)
theorem share_bd : ∀ (t : T) (d k : Int), roughI d t = true → 0 ≤ k → 0 ≤ shareI t k ∧ shareI t k ≤ k
  | .mk n [], d, k, h, hk => by
    simp only [roughI, decide_eq_true_eq] at h
    simp only [shareI]
    rcases h with rfl | rfl <;> omega
  | .mk n [a, b], d, k, h, hk => by
    simp only [roughI, Bool.and_eq_true] at h
    have h1 := share_bd a (d - 1) (k / 2) h.1.2 (by omega)
    have h2 := share_bd b (d - 1) (k / 2) h.2 (by omega)
    simp only [shareI]; omega
  | .mk n [a], d, k, h, hk => by simp [roughI] at h
  | .mk n (a :: b :: c :: r), d, k, h, hk => by simp [roughI] at h
theorem rough_kids {d n : Int} {a b : T} (h : roughI d (.mk n [a, b]) = true) : n = 0 ∧ 0 < d ∧ roughI (d - 1) a = true ∧ roughI (d - 1) b = true := by
  simp only [roughI, Bool.and_eq_true, decide_eq_true_eq] at h
  exact ⟨h.1.1.1, h.1.1.2, h.1.2, h.2⟩
theorem bin_kids {n : Int} {a b : T} (h : binT (.mk n [a, b]) = true) : binT a = true ∧ binT b = true := by
  simpa [binT] using h
theorem bin_case {n : Int} {ks : List T} (h : binT (.mk n ks) = true) : ks = [] ∨ ∃ a k b l, ks = [.mk a k, .mk b l] := by
  rcases bin_len h with h | h
  · exact .inl (List.eq_nil_of_length_eq_zero h)
  · exact .inr (two_of h)
theorem check_bin {t : T} (h : checkI t = true) : binT t = true := by
  simp only [checkI, Bool.and_eq_true] at h; exact bin_of_rough _ _ h.1
theorem check_rough {t : T} (h : checkI t = true) : roughI 16 t = true := by
  simp only [checkI, Bool.and_eq_true] at h; exact h.1
theorem check_norm {t : T} (h : checkI t = true) : normI t = t := by
  simp only [checkI, Bool.and_eq_true] at h; exact ((beqT_iff _ _).1 h.2).symm
theorem sum_l (n m : Int) (ls : List T) : sumI (.mk n []) (.mk m ls) = if n = 0 then (.mk m ls, true) else if ls.length = 0 ∧ m = 0 then (.mk n [], true) else (.mk 0 [], false) := by
  simp [sumI, isT]
theorem sum_r (n m : Int) (a b : T) : sumI (.mk n [a, b]) (.mk m []) = if m = 0 then (.mk n [a, b], true) else (.mk 0 [], false) := by
  simp [sumI, isT]
theorem sum_2 (n m : Int) (a b c d : T) : sumI (.mk n [a, b]) (.mk m [c, d]) = if (sumI a c).2 = true ∧ (sumI b d).2 = true then (shortI (sumI a c).1 (sumI b d).1, true) else (.mk 0 [], false) := rfl
theorem norm_kids {n : Int} {a b : T} (h : normI (.mk n [a, b]) = .mk n [a, b]) : normI a = a ∧ normI b = b ∧ n = 0 ∧ shortI a b = .mk 0 [a, b] := by
  rw [norm_two] at h
  by_cases hc : isT (normI a) (normI b).n ∧ (normI b).ks.length = 0
  · rw [short_yes hc] at h
    have := size_norm a
    rw [h] at this
    simp only [size, sizes] at this; omega
  · rw [short_no hc] at h
    injection h with h1 h2
    simp only [List.cons.injEq, and_true] at h2
    have hs := short_no hc
    rw [h2.1, h2.2] at hs
    exact ⟨h2.1, h2.2, h1.symm, hs⟩
theorem halves_size : ∀ t : T, size (halvesI t).1 ≤ size t + 2 ∧ size (halvesI t).2 ≤ size t + 2
  | .mk n [] => by simp [halvesI, size, sizes]
  | .mk n [l, r] => by
    have h1 := halves_size l
    have h2 := halves_size r
    rw [halves_two]
    have hl := size_pos l
    have hr := size_pos r
    (repeat' split) <;> simp only [size, sizes] <;> omega
  | .mk n [a] => by simp [halvesI]
  | .mk n (a :: b :: c :: r) => by simp [halvesI]
theorem halves_bin : ∀ t : T, binT t = true → binT (halvesI t).1 = true ∧ binT (halvesI t).2 = true
  | .mk n [], h => ⟨rfl, rfl⟩
  | .mk n [l, r], h => by
    have h' := bin_kids h
    have h1 := halves_bin l h'.1
    have h2 := halves_bin r h'.2
    rw [halves_two]
    (repeat' split) <;> simp [binT, h1, h2, h']
  | .mk n [a], h => by simp [binT] at h
  | .mk n (a :: b :: c :: r), h => by simp [binT] at h
theorem share_one (n k : Int) : shareI (.mk n []) k = n * k := rfl
theorem rough_pos {d : Nat} {t : T} (h : roughI d t = true) (hk : t.ks.length ≠ 0) : 0 < d := by
  match t, h, hk with
  | .mk n [], _, hk => exact absurd rfl hk
  | .mk n [a, b], h, _ => have := (rough_kids h).2.1; omega
  | .mk n [a], h, _ => simp [roughI] at h
  | .mk n (a :: b :: c :: r), h, _ => simp [roughI] at h
theorem leaf_step {d : Nat} {t : T} {p : Int} (h : roughI d t = true) (hk : t.ks.length ≠ 0) : roughI ((d - 1 : Nat) : Int) (t.ks.getD (bitI p (d - 1)) default) = true ∧ leafI (t.ks.getD (bitI p (d - 1)) default) (d - 1) p = leafI t d p := by
  have hp := rough_pos h hk
  match t, h, hk with
  | .mk n [], _, hk => exact absurd rfl hk
  | .mk n [a, b], h, _ =>
    obtain ⟨_, h2, h3, h4⟩ := rough_kids h
    rw [show ((d - 1 : Nat) : Int) = (d : Int) - 1 by omega]
    simp only [T.ks_mk]
    rw [bit_get]
    refine ⟨by split <;> assumption, ?_⟩
    rw [leafI]; split <;> rfl
  | .mk n [a], h, _ => simp [roughI] at h
  | .mk n (a :: b :: c :: r), h, _ => simp [roughI] at h
theorem leaf_end {d : Nat} {t : T} {p : Int} (hk : t.ks.length = 0) : leafI t d p = t.n := by
  match t, hk with
  | .mk n [], _ => rfl
def bitJ (p x : Int) : Nat := (p / x % 2).toNat
def validI : T → Bool
  | .mk n [] => decide (n = 0 ∨ n = 1)
  | .mk n [a, b] => decide (n = 0) && validI a && validI b
  | _ => false
  termination_by structural t => t
theorem rough_iff : ∀ (t : T) (d : Int), 0 ≤ d → (roughI d t = true ↔ validI t = true ∧ (depthT t : Int) ≤ d)
  | .mk n [], d, hd => by simp only [roughI, validI, depthT]; exact ⟨fun h => ⟨h, by omega⟩, fun h => h.1⟩
  | .mk n [a, b], d, hd => by
    simp only [roughI, validI, depthT, Bool.and_eq_true, decide_eq_true_eq]
    constructor
    · rintro ⟨⟨⟨h1, h2⟩, h3⟩, h4⟩
      have ha := (rough_iff a (d - 1) (by omega)).1 h3
      have hb := (rough_iff b (d - 1) (by omega)).1 h4
      exact ⟨⟨⟨h1, ha.1⟩, hb.1⟩, by omega⟩
    · rintro ⟨⟨⟨h1, h2⟩, h3⟩, h4⟩
      exact ⟨⟨⟨h1, by omega⟩, (rough_iff a (d - 1) (by omega)).2 ⟨h2, by omega⟩⟩, (rough_iff b (d - 1) (by omega)).2 ⟨h3, by omega⟩⟩
  | .mk n [a], d, hd => by simp [roughI, validI]
  | .mk n (a :: b :: c :: r), d, hd => by simp [roughI, validI]
end Go.Tr
