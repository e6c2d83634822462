/- Walks and laws. -/
import Derived.Test.YtmcjdeiicbgmhaaCrc7
set_option linter.unusedSimpArgs false
set_option linter.unusedVariables false
namespace Go.Crc
open Go Go.Abs
def dnN (x : Nat) : Nat := (x / 2) ^^^ (if x % 2 = 1 then 3988292384 else 0)
def dnk : Nat → Nat → Nat
  | 0, x => x
  | k + 1, x => dnk k (dnN x)
theorem dnN_xor (x y : Nat) : dnN (x ^^^ y) = dnN x ^^^ dnN y := by
  have h1 : (x ^^^ y) / 2 = x / 2 ^^^ y / 2 := by
    have := Nat.shiftRight_xor_distrib (a := x) (b := y) (i := 1)
    simpa [Nat.shiftRight_eq_div_pow] using this
  have h2 : (x ^^^ y) % 2 = (x % 2 + y % 2) % 2 := by
    have h := Nat.testBit_xor x y 0
    simp only [Nat.testBit_zero] at h
    rcases Nat.mod_two_eq_zero_or_one x with a | a <;> rcases Nat.mod_two_eq_zero_or_one y with b | b <;> rcases Nat.mod_two_eq_zero_or_one (x ^^^ y) with c | c <;> simp_all
  unfold dnN
  rw [h1, h2]
  rcases Nat.mod_two_eq_zero_or_one x with a | a <;> rcases Nat.mod_two_eq_zero_or_one y with b | b
  · simp [a, b]
  · simp [a, b, Nat.xor_assoc]
  · simp only [a, b]
    rw [if_pos trivial, if_neg (by decide), Nat.xor_zero, Nat.xor_assoc, Nat.xor_assoc, Nat.xor_comm 3988292384]
  · simp only [a, b]
    have e : x / 2 ^^^ 3988292384 ^^^ (y / 2 ^^^ 3988292384) = x / 2 ^^^ y / 2 ^^^ (3988292384 ^^^ 3988292384) := by
      rw [Nat.xor_assoc, Nat.xor_assoc, Nat.xor_comm 3988292384, Nat.xor_assoc]
    rw [if_neg (by decide), if_pos trivial, e]
    simp
theorem dnk_xor (k : Nat) : ∀ x y : Nat, dnk k (x ^^^ y) = dnk k x ^^^ dnk k y := by
  induction k with
  | zero => intro x y; rfl
  | succ k ih => intro x y; simp only [dnk]; rw [dnN_xor, ih]
theorem dnN_two (v : Nat) : dnN (2 * v) = v := by
  unfold dnN
  rw [if_neg (by omega), Nat.xor_zero]; omega
theorem dnk_pow (k v : Nat) : dnk k (2 ^ k * v) = v := by
  induction k with
  | zero => simp [dnk]
  | succ k ih =>
    rw [dnk, show 2 ^ (k + 1) * v = 2 * (2 ^ k * v) by rw [Nat.pow_succ, Nat.mul_comm (2 ^ k) 2, Nat.mul_assoc], dnN_two, ih]
theorem dnk_add (j k x : Nat) : dnk (j + k) x = dnk k (dnk j x) := by
  induction j generalizing x with
  | zero => rw [Nat.zero_add]; rfl
  | succ j ih => rw [show j + 1 + k = (j + k) + 1 by omega, dnk, dnk, ih]
theorem dnN_lt (u : Nat) (h : u < 4294967296) : dnN u < 4294967296 := by
  unfold dnN
  exact Nat.xor_lt_two_pow (n := 32) (by omega) (by split <;> omega)
theorem dnN_ne (u : Nat) (h : u < 4294967296) (h0 : u ≠ 0) : dnN u ≠ 0 := by
  intro e
  unfold dnN at e
  by_cases o : u % 2 = 1
  · rw [if_pos o] at e
    have h1 := congrArg (· ^^^ 3988292384) e
    simp only [Nat.xor_assoc, Nat.xor_self, Nat.xor_zero, Nat.zero_xor] at h1
    omega
  · rw [if_neg o, Nat.xor_zero] at e
    omega
theorem dnk_ne (k : Nat) : ∀ u : Nat, u < 4294967296 → u ≠ 0 → dnk k u ≠ 0 := by
  induction k with
  | zero => intro u _ h; exact h
  | succ k ih => intro u h h0; exact ih _ (dnN_lt u h) (dnN_ne u h h0)
def le : List Int → Nat
  | [] => 0
  | c :: cs => c.toNat ^^^ (256 * le cs)
theorem x32_nat (x y : Int) (hx : 0 ≤ x ∧ x < 4294967296) (hy : 0 ≤ y ∧ y < 4294967296) : (x32 x y).toNat = x.toNat ^^^ y.toNat := by
  have h := congrArg BitVec.toNat (bv_x32 x y)
  have hr := x32_rng x y
  rw [bv_small _ hr.1 hr.2, BitVec.toNat_xor, bv_small x hx.1 hx.2, bv_small y hy.1 hy.2] at h
  exact h
theorem dn_nat (x : Int) (hx : 0 ≤ x ∧ x < 4294967296) : (dn 3988292384 x).toNat = dnN x.toNat := by
  have tx : x.tmod 2 = x % 2 := Int.tmod_eq_emod_of_nonneg hx.1
  have dx : x.tdiv 2 = x / 2 := Int.tdiv_eq_ediv_of_nonneg hx.1
  unfold dnN
  by_cases o : x.tmod 2 = 1
  · rw [← dn_odd x hx.1 hx.2 o, x32_nat _ _ (by omega) (by omega), if_pos (by omega)]
    congr 1
    omega
  · rw [← dn_even x hx.1 hx.2 o, if_neg (by omega), Nat.xor_zero]
    omega
theorem dnn_nat (k : Nat) (x : Int) (hx : 0 ≤ x ∧ x < 4294967296) : (dnn k x).toNat = dnk k x.toNat := by
  induction k with
  | zero => rfl
  | succ k ih =>
    have e : dnk (k + 1) x.toNat = dnN (dnk k x.toNat) := by
      rw [dnk_add k 1]; rfl
    rw [e, ← ih]
    exact dn_nat _ (dnn_rng k x hx)
theorem stp_nat (x c : Int) (hx : 0 ≤ x ∧ x < 4294967296) (hc : 0 ≤ c ∧ c < 256) : (stp x c).toNat = dnk 8 (x.toNat ^^^ c.toNat) := by
  have ec : w32 c = c := IntWalk.u32_in _ (by omega)
  rw [stp, ec, dnn_nat 8 _ (x32_rng _ _), x32_nat _ _ hx (by omega)]
theorem stps_nat (cs : List Int) : ∀ (x : Int), (0 ≤ x ∧ x < 4294967296) → Bts cs → (stps x cs).toNat = dnk (8 * cs.length) (x.toNat ^^^ le cs) := by
  induction cs with
  | nil => intro x hx _; simp [stps, dnk, le]
  | cons c cs ih =>
    intro x hx hb
    have hc := hb c (by simp)
    have hb2 : Bts cs := fun y hy => hb y (by simp [hy])
    rw [stps, ih _ (stp_rng _ _) hb2, stp_nat x c hx hc, le, List.length_cons, show 8 * (cs.length + 1) = 8 + 8 * cs.length by omega, dnk_add]
    congr 1
    rw [← Nat.xor_assoc, dnk_xor 8 _ (256 * le cs), show 256 * le cs = 2 ^ 8 * le cs by omega, dnk_pow]
theorem le_part (n : Nat) : n % 256 ^^^ 256 * (n / 256) = n := by
  apply Nat.eq_of_testBit_eq
  intro i
  rw [Nat.testBit_xor, show (256 : Nat) = 2 ^ 8 from rfl, Nat.testBit_mod_two_pow, Nat.testBit_two_pow_mul, Nat.testBit_div_two_pow]
  by_cases h : i < 8
  · simp [h, show ¬ 8 ≤ i by omega]
  · simp [h, show 8 ≤ i by omega, show i - 8 + 8 = i by omega]
theorem le_laid (y : Int) (h : 0 ≤ y ∧ y < 4294967296) : le (laid y) = y.toNat := by
  have e0 := le_part y.toNat
  have e1 := le_part (y.toNat / 256)
  have e2 := le_part (y.toNat / 256 / 256)
  have e3 := le_part (y.toNat / 256 / 256 / 256)
  simp only [laid, b8, IntKind.wrap_u8, le, Int.fdiv_eq_ediv_of_nonneg _ (show (0 : Int) ≤ 256 by omega), Int.fdiv_eq_ediv_of_nonneg _ (show (0 : Int) ≤ 65536 by omega), Int.fdiv_eq_ediv_of_nonneg _ (show (0 : Int) ≤ 16777216 by omega)]
  rw [show (y % 256).toNat = y.toNat % 256 by omega, show (y / 256 % 256).toNat = y.toNat / 256 % 256 by omega, show (y / 65536 % 256).toNat = y.toNat / 256 / 256 % 256 by omega, show (y / 16777216 % 256).toNat = y.toNat / 256 / 256 / 256 % 256 by omega]
  have e4 : y.toNat / 256 / 256 / 256 / 256 = 0 := by omega
  rw [e4] at e3
  rw [show 256 * 0 = 0 from rfl] at e3 ⊢
  rw [e3, e2, e1, e0]
theorem le_set (l : List Int) : ∀ (j r : Nat) (v : Int), j < l.length → v.toNat = (l.getD j 0).toNat ^^^ 2 ^ r → le (l.set j v) = le l ^^^ 2 ^ (8 * j + r) := by
  induction l with
  | nil => intro j r v h; simp at h
  | cons c cs ih =>
    intro j r v h hv
    cases j with
    | zero =>
      simp only [List.getD_cons_zero] at hv
      simp only [List.set_cons_zero, le]
      rw [hv, Nat.mul_zero, Nat.zero_add, Nat.xor_assoc, Nat.xor_assoc, Nat.xor_comm (2 ^ r)]
    | succ j =>
      simp only [List.getD_cons_succ] at hv
      simp only [List.set_cons_succ, le]
      rw [ih j r v (by simp at h; omega) hv, Nat.xor_assoc]
      congr 1
      have := Nat.shiftLeft_xor_distrib (a := le cs) (b := 2 ^ (8 * j + r)) (i := 8)
      simp only [Nat.shiftLeft_eq] at this
      rw [Nat.mul_comm 256, show (256 : Nat) = 2 ^ 8 from rfl, this, Nat.mul_comm (le cs), ← Nat.pow_add]
      congr 2
      omega
/-- the residue -/
theorem sealed_rest (a : List Int) (ha : Bts a) : stps 4294967295 (a ++ laid (sum a)) = dnn 32 4294967295 := by
  have hx := stps_rng a 4294967295 (by omega)
  have hs := sum_rng a
  have h1 := stps_nat (laid (sum a)) (stps 4294967295 a) hx (laid_bts _)
  rw [stps_append]
  have h2 : (stps (stps 4294967295 a) (laid (sum a))).toNat = (dnn 32 4294967295).toNat := by
    rw [h1, le_laid _ hs, dnn_nat 32 _ (by omega), laid_length]
    congr 1
    rw [sum_eq, show (4294967295 - stps 4294967295 a) = x32 4294967295 (stps 4294967295 a) from (x32_ones _ hx.1 hx.2).symm, x32_nat _ _ (by omega) hx, Nat.xor_comm (4294967295 : Int).toNat, ← Nat.xor_assoc, Nat.xor_self, Nat.zero_xor]
  have h3 := stps_rng (laid (sum a)) (stps 4294967295 a) hx
  have h4 := dnn_rng 32 4294967295 (by omega)
  omega
theorem burst (b l : List Int) (f w : Nat) (hb : Bts b) (hl : Bts l) (hn : l.length = b.length + 4) (hf : f + 32 ≤ 8 * l.length) (hw : w < 4294967296) (h0 : w ≠ 0) (he : le l = le (b ++ laid (sum b)) ^^^ 2 ^ f * w) : opn l = none := by
  cases ho : opn l with
  | none => rfl
  | some a =>
    exfalso
    obtain ⟨h1, h2⟩ := opn_some ho
    have ha := opn_bts ho hl
    have r1 := sealed_rest a ha
    rw [h1] at r1
    have r2 := sealed_rest b hb
    have n1 := stps_nat l 4294967295 (by omega) hl
    have n2 := stps_nat (b ++ laid (sum b)) 4294967295 (by omega) (by intro y hy; rcases List.mem_append.1 hy with h | h; exact hb y h; exact laid_bts _ y h)
    rw [r1] at n1
    rw [r2] at n2
    rw [show (b ++ laid (sum b)).length = l.length by simp [laid_length, hn]] at n2
    rw [n1, he, ← Nat.xor_assoc, dnk_xor] at n2
    have n3 : dnk (8 * l.length) (2 ^ f * w) = 0 := by
      have := congrArg (dnk (8 * l.length) ((4294967295 : Int).toNat ^^^ le (b ++ laid (sum b))) ^^^ ·) n2
      simpa [← Nat.xor_assoc] using this
    rw [show 8 * l.length = f + (8 * l.length - f) by omega, dnk_add, dnk_pow] at n3
    exact dnk_ne _ w hw h0 n3
/-- one round: what is still to be turned -/
theorem burst_odd (l : List Int) (f i x : Nat) (v : Int) (h : x % 2 = 1) (hj : (f + i) / 8 < l.length) (hv : v.toNat = (l.getD ((f + i) / 8) 0).toNat ^^^ 2 ^ ((f + i) % 8)) : le (l.set ((f + i) / 8) v) ^^^ 2 ^ (f + (i + 1)) * (x / 2) = le l ^^^ 2 ^ (f + i) * x := by
  rw [le_set l _ _ v hj hv, Nat.xor_assoc]
  congr 1
  have e : 8 * ((f + i) / 8) + (f + i) % 8 = f + i := by omega
  have e2 : x = 2 * (x / 2) + 1 := by omega
  have e3 : 2 ^ (f + (i + 1)) * (x / 2) = 2 ^ (f + i) * (2 * (x / 2)) := by rw [← Nat.add_assoc, Nat.pow_succ, Nat.mul_assoc]
  rw [e, e3]
  have e4 : 1 ^^^ 2 * (x / 2) = x := by
    apply Nat.eq_of_testBit_eq
    intro k
    cases k with
    | zero => rw [Nat.testBit_xor]; simp [Nat.testBit_zero, h]
    | succ k => rw [Nat.testBit_xor, Nat.testBit_succ, Nat.testBit_succ, Nat.testBit_succ]; simp
  have := Nat.shiftLeft_xor_distrib (a := 1) (b := 2 * (x / 2)) (i := f + i)
  simp only [Nat.shiftLeft_eq, Nat.one_mul] at this
  rw [Nat.mul_comm (2 ^ (f + i)), ← this, e4, Nat.mul_comm]
theorem burst_even (l : List Int) (f i x : Nat) (h : x % 2 = 0) : le l ^^^ 2 ^ (f + (i + 1)) * (x / 2) = le l ^^^ 2 ^ (f + i) * x := by
  have e2 : x = 2 * (x / 2) := by omega
  have e3 : 2 ^ (f + (i + 1)) * (x / 2) = 2 ^ (f + i) * (2 * (x / 2)) := by rw [← Nat.add_assoc, Nat.pow_succ, Nat.mul_assoc]
  rw [e3, ← e2]
end Go.Crc
