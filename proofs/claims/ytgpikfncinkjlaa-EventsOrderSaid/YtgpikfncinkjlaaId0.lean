/- Walks and laws. -/
import Derived.Test.YtgpikfncinkjlaaTr3
set_option linter.unusedSimpArgs false
set_option linter.unusedVariables false
namespace Go.Tr
open Go Go.Abs
abbrev isT (t : T) (n : Int) : Prop := t.ks.length = 0 ∧ t.n = n
def lf (n : Int) : T := .mk n []
def binT : T → Bool
  | .mk _ [] => true
  | .mk _ [a, b] => binT a && binT b
  | _ => false
  termination_by structural t => t
def roughI : Int → T → Bool
  | _, .mk n [] => decide (n = 0 ∨ n = 1)
  | d, .mk n [a, b] => decide (n = 0) && decide (0 < d) && roughI (d - 1) a && roughI (d - 1) b
  | _, _ => false
  termination_by structural _ t => t
def shortI (l r : T) : T := if isT l r.n ∧ r.ks.length = 0 then l else .mk 0 [l, r]
def normI : T → T
  | .mk n [] => .mk n []
  | .mk _ [a, b] => shortI (normI a) (normI b)
  | t => t
  termination_by structural t => t
def halvesI : T → T × T
  | .mk _ [] => (.mk 0 [.mk 1 [], .mk 0 []], .mk 0 [.mk 0 [], .mk 1 []])
  | .mk _ [l, r] => if isT l 0 then (.mk 0 [l, (halvesI r).1], .mk 0 [l, (halvesI r).2])
    else if isT r 0 then (.mk 0 [(halvesI l).1, r], .mk 0 [(halvesI l).2, r])
    else (.mk 0 [l, .mk 0 []], .mk 0 [.mk 0 [], r])
  | t => (t, t)
  termination_by structural t => t
def sumI : T → T → T × Bool
  | .mk _ [a1, a2], .mk _ [b1, b2] => if (sumI a1 b1).2 = true ∧ (sumI a2 b2).2 = true then (shortI (sumI a1 b1).1 (sumI a2 b2).1, true) else (.mk 0 [], false)
  | a, b => if isT a 0 then (b, true) else if isT b 0 then (a, true) else (.mk 0 [], false)
  termination_by structural a => a
def shareI : T → Int → Int
  | .mk n [], k => n * k
  | .mk _ [a, b], k => shareI a (k / 2) + shareI b (k / 2)
  | _, _ => 0
  termination_by structural t => t
def bitI (at_ : Int) (b : Nat) : Nat := (at_ / 2 ^ b % 2).toNat
def leafI : T → Nat → Int → Int
  | .mk n [], _, _ => n
  | .mk _ [a, b], k, p => if bitI p (k - 1) = 0 then leafI a (k - 1) p else leafI b (k - 1) p
  | _, _, _ => 0
  termination_by structural t => t
def depthT : T → Nat
  | .mk _ [] => 0
  | .mk _ [a, b] => 1 + max (depthT a) (depthT b)
  | _ => 0
  termination_by structural t => t
abbrev ag (t : T) : AVal := .agg [.sc (.int .i64 t.n), .sl (tcs t.ks) t.ks.length .any]
theorem short_yes {l r : T} (h : isT l r.n ∧ r.ks.length = 0) : shortI l r = l := by rw [shortI, if_pos h]
theorem short_no {l r : T} (h : ¬ (isT l r.n ∧ r.ks.length = 0)) : shortI l r = .mk 0 [l, r] := by rw [shortI, if_neg h]
theorem bin_len {t : T} (h : binT t = true) : t.ks.length = 0 ∨ t.ks.length = 2 := by
  match t, h with
  | .mk n [], h => exact .inl rfl
  | .mk n [a, b], h => exact .inr rfl
  | .mk n [a], h => simp [binT] at h
  | .mk n (a :: b :: c :: r), h => simp [binT] at h
/-- A number's bit. -/
theorem bit_eq (p : Int) (b : Nat) (hp : 0 ≤ p) (hp2 : p < 65536) (hb : b ≤ 64) : IntKind.wrap .i64 (BitVec.ofInt 64 (p.fdiv (2 ^ (min b 64))) &&& BitVec.ofInt 64 1).toNat = (bitI p b : Int) := by
  rw [Nat.min_eq_left hb]
  have h2 : (0 : Int) < 2 ^ b := Int.pow_pos (by decide)
  rw [Int.fdiv_eq_ediv_of_nonneg _ (Int.le_of_lt h2)]
  have h0 : 0 ≤ p / 2 ^ b := Int.ediv_nonneg hp (Int.le_of_lt h2)
  have h1 : p / 2 ^ b ≤ p := Int.ediv_le_self _ hp
  obtain ⟨q, hq⟩ := Int.eq_ofNat_of_zero_le h0
  unfold bitI
  rw [hq] at h1 ⊢
  have e : (BitVec.ofInt 64 (q : Int) &&& BitVec.ofInt 64 1).toNat = q % 2 := by
    rw [BitVec.toNat_and, BitVec.toNat_ofInt, BitVec.toNat_ofInt]
    have : ((q : Int) % (2 ^ 64 : Nat)).toNat = q := by omega
    rw [this]
    have : ((1 : Int) % (2 ^ 64 : Nat)).toNat = 1 := by decide
    rw [this, Nat.and_one_is_mod]
  rw [e, IntWalk.i64_in _ (by omega)]
  omega
theorem bit_lt (p : Int) (b : Nat) : bitI p b < 2 := by unfold bitI; omega
theorem bitw (p : Int) (b : Nat) (h : 0 < b) (hb : b ≤ 16) (hp : 0 ≤ p ∧ p < 65536) : IntKind.wrap IntKind.i64 (↑(BitVec.toNat (BitVec.ofInt 64 (Int.fdiv p (2 ^ min (Int.toNat (if 0 > (↑b : Int) - 1 then 0 else (↑b : Int) - 1)) 64)) &&& BitVec.ofInt 64 1)) : Int) = ((bitI p (b - 1) : Nat) : Int) := by
  rw [if_neg (by omega), show Int.toNat ((b : Int) - 1) = b - 1 by omega]
  exact bit_eq p (b - 1) hp.1 hp.2 (by omega)
theorem bit_get (a b : T) (p : Int) (k : Nat) : [a, b].getD (bitI p k) default = if bitI p k = 0 then a else b := by
  have := bit_lt p k
  by_cases h : bitI p k = 0
  · rw [h]; rfl
  · rw [if_neg h, show bitI p k = 1 by omega]; rfl
theorem beqT_comm (a b : T) : beqT a b = beqT b a := by rw [Bool.eq_iff_iff, beqT_iff, beqT_iff]; exact eq_comm
def checkI (t : T) : Bool := roughI 16 t && beqT t (normI t)
def normP (t : T) : T × Int := if roughI 16 t = true then (normI t, 0) else (.mk 0 [], 3)
def splitP (t : T) : T × T × Int := if checkI t = true then (if isT t 0 then (.mk 0 [], .mk 0 [], 7) else if roughI 16 (halvesI t).1 = true ∧ roughI 16 (halvesI t).2 = true then ((halvesI t).1, (halvesI t).2, 0) else (.mk 0 [], .mk 0 [], 40)) else (.mk 0 [], .mk 0 [], 3)
def sumP (a b : T) : T × Int := if checkI a = true ∧ checkI b = true then (if (sumI a b).2 = true then ((sumI a b).1, 0) else (.mk 0 [], 42)) else (.mk 0 [], 3)
def ownsP (t : T) (p : Int) : Prop := (0 ≤ p ∧ p < 65536) ∧ checkI t = true ∧ leafI t 16 p = 1
instance (t : T) (p : Int) : Decidable (ownsP t p) := by unfold ownsP; infer_instance
def shareP (t : T) : Int := if checkI t = true then shareI t 65536 else 0
theorem bin_kids {n : Int} {a b : T} (h : binT (.mk n [a, b]) = true) : binT a = true ∧ binT b = true := by
  simpa [binT] using h
theorem bin_case {n : Int} {ks : List T} (h : binT (.mk n ks) = true) : ks = [] ∨ ∃ a k b l, ks = [.mk a k, .mk b l] := by
  rcases bin_len h with h | h
  · exact .inl (List.eq_nil_of_length_eq_zero h)
  · exact .inr (two_of h)
theorem sum_l (n m : Int) (ls : List T) : sumI (.mk n []) (.mk m ls) = if n = 0 then (.mk m ls, true) else if ls.length = 0 ∧ m = 0 then (.mk n [], true) else (.mk 0 [], false) := by
  simp [sumI, isT]
theorem sum_r (n m : Int) (a b : T) : sumI (.mk n [a, b]) (.mk m []) = if m = 0 then (.mk n [a, b], true) else (.mk 0 [], false) := by
  simp [sumI, isT]
theorem sum_2 (n m : Int) (a b c d : T) : sumI (.mk n [a, b]) (.mk m [c, d]) = if (sumI a c).2 = true ∧ (sumI b d).2 = true then (shortI (sumI a c).1 (sumI b d).1, true) else (.mk 0 [], false) := rfl
def bitJ (p x : Int) : Nat := (p / x % 2).toNat
def validI : T → Bool
  | .mk n [] => decide (n = 0 ∨ n = 1)
  | .mk n [a, b] => decide (n = 0) && validI a && validI b
  | _ => false
  termination_by structural t => t
end Go.Tr
