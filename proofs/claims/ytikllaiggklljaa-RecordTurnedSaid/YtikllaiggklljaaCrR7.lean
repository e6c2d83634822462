/- Walks and laws. -/
import Derived.Test.YtikllaiggklljaaLibB
import Derived.Test.YtikllaiggklljaaCrR5
set_option linter.unusedSimpArgs false
set_option linter.unusedVariables false
namespace Go.Crc
open Go Go.Abs
theorem bv_x32 (x y : Int) : BitVec.ofInt 32 (x32 x y) = BitVec.ofInt 32 x ^^^ BitVec.ofInt 32 y := by
  unfold x32
  rw [IntWalk.u32_in _ (by omega), BitVec.ofInt_natCast, BitVec.ofNat_toNat, BitVec.setWidth_eq]
theorem bv_inj {x y : Int} (hx : 0 ≤ x ∧ x < 4294967296) (hy : 0 ≤ y ∧ y < 4294967296) (h : BitVec.ofInt 32 x = BitVec.ofInt 32 y) : x = y := by
  have := congrArg BitVec.toNat h
  rw [bv_small x hx.1 hx.2, bv_small y hy.1 hy.2] at this
  omega
theorem xor_cancel {a b c : BitVec 32} (h : a ^^^ c = b ^^^ c) : a = b := by
  have := congrArg (· ^^^ c) h
  simpa [BitVec.xor_assoc] using this
theorem x32_inj {x y z : Int} (hx : 0 ≤ x ∧ x < 4294967296) (hy : 0 ≤ y ∧ y < 4294967296) (h : x32 x z = x32 y z) : x = y := by
  have := congrArg (BitVec.ofInt 32) h
  rw [bv_x32, bv_x32] at this
  exact bv_inj hx hy (xor_cancel this)
theorem x32_inj2 {x y z : Int} (hy : 0 ≤ y ∧ y < 4294967296) (hz : 0 ≤ z ∧ z < 4294967296) (h : x32 x y = x32 x z) : y = z := by
  have := congrArg (BitVec.ofInt 32) h
  rw [bv_x32, bv_x32, BitVec.xor_comm, BitVec.xor_comm (BitVec.ofInt 32 x)] at this
  exact bv_inj hy hz (xor_cancel this)
theorem x32_high (u : Int) (h0 : 0 ≤ u) (h1 : u < 2147483648) : 2147483648 ≤ x32 u 3988292384 := by
  have hu : (BitVec.ofInt 32 u).msb = false := by
    rw [BitVec.msb_eq_decide, bv_small u h0 (by omega)]
    simp; omega
  have hp : (BitVec.ofInt 32 3988292384).msb = true := by decide
  have hm : (BitVec.ofInt 32 (x32 u 3988292384)).msb = true := by rw [bv_x32, BitVec.msb_xor, hu, hp]; rfl
  have hr := x32_rng u 3988292384
  rw [BitVec.msb_eq_decide, bv_small _ hr.1 hr.2] at hm
  simp at hm
  omega
theorem dn_inj {x y : Int} (hx : 0 ≤ x ∧ x < 4294967296) (hy : 0 ≤ y ∧ y < 4294967296) (h : dn 3988292384 x = dn 3988292384 y) : x = y := by
  have tx : x.tmod 2 = x % 2 := Int.tmod_eq_emod_of_nonneg hx.1
  have ty : y.tmod 2 = y % 2 := Int.tmod_eq_emod_of_nonneg hy.1
  have dx : x.tdiv 2 = x / 2 := Int.tdiv_eq_ediv_of_nonneg hx.1
  have dy : y.tdiv 2 = y / 2 := Int.tdiv_eq_ediv_of_nonneg hy.1
  by_cases ox : x.tmod 2 = 1
  · by_cases oy : y.tmod 2 = 1
    · rw [← dn_odd x hx.1 hx.2 ox, ← dn_odd y hy.1 hy.2 oy] at h
      have := x32_inj (by omega) (by omega) h
      omega
    · rw [← dn_odd x hx.1 hx.2 ox, ← dn_even y hy.1 hy.2 oy] at h
      have := x32_high (x.tdiv 2) (by omega) (by omega)
      omega
  · by_cases oy : y.tmod 2 = 1
    · rw [← dn_even x hx.1 hx.2 ox, ← dn_odd y hy.1 hy.2 oy] at h
      have := x32_high (y.tdiv 2) (by omega) (by omega)
      omega
    · rw [← dn_even x hx.1 hx.2 ox, ← dn_even y hy.1 hy.2 oy] at h
      omega
theorem dnn_inj (n : Nat) {x y : Int} (hx : 0 ≤ x ∧ x < 4294967296) (hy : 0 ≤ y ∧ y < 4294967296) (h : dnn n x = dnn n y) : x = y := by
  induction n with
  | zero => exact h
  | succ n ih => exact ih (dn_inj (dnn_rng n x hx) (dnn_rng n y hy) h)
theorem stp_inj {x y c : Int} (hx : 0 ≤ x ∧ x < 4294967296) (hy : 0 ≤ y ∧ y < 4294967296) (h : stp x c = stp y c) : x = y :=
  x32_inj hx hy (dnn_inj 8 (x32_rng _ _) (x32_rng _ _) h)
theorem stp_inj2 {x c d : Int} (hc : 0 ≤ c ∧ c < 256) (hd : 0 ≤ d ∧ d < 256) (h : stp x c = stp x d) : c = d := by
  have := dnn_inj 8 (x32_rng _ _) (x32_rng _ _) h
  have ec : w32 c = c := IntWalk.u32_in _ (by omega)
  have ed : w32 d = d := IntWalk.u32_in _ (by omega)
  rw [ec, ed] at this
  exact x32_inj2 (by omega) (by omega) this
theorem stps_inj (q : List Int) {x y : Int} (hx : 0 ≤ x ∧ x < 4294967296) (hy : 0 ≤ y ∧ y < 4294967296) (h : stps x q = stps y q) : x = y := by
  induction q generalizing x y with
  | nil => exact h
  | cons c q ih => exact stp_inj hx hy (ih (stp_rng _ _) (stp_rng _ _) h)
theorem laid_inj {s t : Int} (hs : 0 ≤ s ∧ s < 4294967296) (ht : 0 ≤ t ∧ t < 4294967296) (h : laid s = laid t) : s = t := by
  simp only [laid, b8, IntKind.wrap_u8, List.cons.injEq, and_true, Int.fdiv_eq_ediv_of_nonneg _ (show (0 : Int) ≤ 256 by omega), Int.fdiv_eq_ediv_of_nonneg _ (show (0 : Int) ≤ 65536 by omega), Int.fdiv_eq_ediv_of_nonneg _ (show (0 : Int) ≤ 16777216 by omega)] at h
  omega
theorem sum_set (b : List Int) (i : Nat) (v : Int) (hi : i < b.length) (hb : Bts b) (hv : 0 ≤ v ∧ v < 256) (hne : v ≠ b.getD i 0) : sum (b.set i v) ≠ sum b := by
  have hg : b.getD i 0 = b[i] := by simp [List.getD_eq_getElem?_getD, hi]
  have e1 : b = b.take i ++ b[i] :: b.drop (i + 1) := by rw [← List.drop_eq_getElem_cons hi, List.take_append_drop]
  have e2 : b.set i v = b.take i ++ v :: b.drop (i + 1) := by rw [List.set_eq_take_append_cons_drop]; simp [hi]
  intro h
  have hx := stps_rng (b.take i) 4294967295 (by omega)
  have h2 : stps 4294967295 (b.set i v) = stps 4294967295 b := by
    rw [sum_eq, sum_eq] at h; omega
  rw [e2] at h2
  have h3 : stps 4294967295 (b.take i ++ v :: b.drop (i + 1)) = stps 4294967295 (b.take i ++ b[i] :: b.drop (i + 1)) := by rw [h2, ← e1]
  rw [stps_append, stps_append] at h3
  have h4 := stps_inj (b.drop (i + 1)) (stp_rng _ _) (stp_rng _ _) h3
  have h5 := stp_inj2 hv (hb _ (List.getElem_mem hi)) h4
  exact hne (by rw [hg]; exact h5)
theorem turned (b : List Int) (i : Nat) (v : Int) (hi : i < b.length + 4) (hb : Bts b) (hv : 0 ≤ v ∧ v < 256) (hne : v ≠ (b ++ laid (sum b)).getD i 0) : opn ((b ++ laid (sum b)).set i v) = none := by
  have hl : ((b ++ laid (sum b)).set i v).length = b.length + 4 := by simp [laid]
  unfold opn
  rw [hl, if_neg (by omega)]
  have e4 : b.length + 4 - 4 = b.length := by omega
  rw [e4, if_neg]
  rcases Nat.lt_or_ge i b.length with h | h
  · rw [List.set_append_left _ _ h]
    have el : (b.set i v).length = b.length := by simp
    have t1 : List.take b.length (b.set i v ++ laid (sum b)) = b.set i v := by rw [← el, List.take_left]
    have t2 : List.drop b.length (b.set i v ++ laid (sum b)) = laid (sum b) := by rw [← el, List.drop_left]
    rw [t1, t2]
    intro e
    have hne' : v ≠ b.getD i 0 := by
      intro e2; apply hne; rw [e2]; simp [List.getD_eq_getElem?_getD, List.getElem?_append_left h]
    exact sum_set b i v h hb hv hne' (laid_inj (sum_rng _) (sum_rng _) e)
  · rw [List.set_append_right _ _ h, List.take_left, List.drop_left]
    intro e
    apply hne
    have hlen : i - b.length < (laid (sum b)).length := by simp [laid]; omega
    have h1 : ((laid (sum b)).set (i - b.length) v)[i - b.length]? = some v := List.getElem?_set_self hlen
    rw [← e] at h1
    simp [List.getD_eq_getElem?_getD, List.getElem?_append_right h, h1]
theorem xor8 (c y : Int) (hc : 0 ≤ c ∧ c < 256) (hy : 0 ≤ y ∧ y < 256) (h : y ≠ 0) : IntKind.u8.wrap (↑(BitVec.ofInt 8 c ^^^ BitVec.ofInt 8 y).toNat) ≠ c ∧ 0 ≤ IntKind.u8.wrap (↑(BitVec.ofInt 8 c ^^^ BitVec.ofInt 8 y).toNat) ∧ IntKind.u8.wrap (↑(BitVec.ofInt 8 c ^^^ BitVec.ofInt 8 y).toNat) < 256 := by
  have hl := (BitVec.ofInt 8 c ^^^ BitVec.ofInt 8 y).isLt
  rw [IntWalk.u8_in _ (by omega)]
  refine ⟨fun e => ?_, by omega, by omega⟩
  have e1 : (BitVec.ofInt 8 c ^^^ BitVec.ofInt 8 y) = BitVec.ofInt 8 c := by
    apply BitVec.eq_of_toNat_eq
    have : (BitVec.ofInt 8 c).toNat = c.toNat := by rw [BitVec.toNat_ofInt]; omega
    omega
  have e2 : BitVec.ofInt 8 y = 0#8 := by
    have := congrArg (BitVec.ofInt 8 c ^^^ ·) e1
    simpa [← BitVec.xor_assoc] using this
  have := congrArg BitVec.toNat e2
  rw [BitVec.toNat_ofInt] at this
  simp at this
  omega
end Go.Crc
