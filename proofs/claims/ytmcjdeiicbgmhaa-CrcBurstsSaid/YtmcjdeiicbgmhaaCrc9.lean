/- Walks and laws. -/
import Derived.Test.YtmcjdeiicbgmhaaCrc8
import Derived.Test.YtmcjdeiicbgmhaaCrc6
import Derived.Test.YtmcjdeiicbgmhaaLibB
set_option maxRecDepth 100000
set_option maxHeartbeats 0
set_option linter.unusedSimpArgs false
set_option linter.unusedVariables false
namespace Go.Crc
open Go Go.Abs Go.Proofs
theorem td2 (x : Nat) : Int.tdiv (x : Int) 2 = ((x / 2 : Nat) : Int) := (Int.ofNat_tdiv x 2).symm
theorem td8 (a b : Nat) : Int.tdiv ((a : Int) + (b : Int)) 8 = (((a + b) / 8 : Nat) : Int) := by rw [← Int.natCast_add]; exact (Int.ofNat_tdiv (a + b) 8).symm
theorem tm8 (a b : Nat) : Int.tmod ((a : Int) + (b : Int)) 8 = (((a + b) % 8 : Nat) : Int) := by rw [← Int.natCast_add]; exact (Int.ofNat_tmod (a + b) 8).symm
theorem tm2 (x : Nat) : Int.tmod (x : Int) 2 = ((x % 2 : Nat) : Int) := (Int.ofNat_tmod x 2).symm
def plc (p : Int) (n : Nat) : Nat := (Int.tmod p (8 * (n : Int) - 31)).toNat
theorem plcw (p : Int) (n : Nat) (h : 0 ≤ p) (h4 : 4 ≤ n) : Int.tmod p (8 * (n : Int) - 31) = (plc p n : Int) := by
  have e := Int.tmod_eq_emod_of_nonneg (b := 8 * (n : Int) - 31) h
  have e1 := Int.emod_nonneg p (b := 8 * (n : Int) - 31) (by omega)
  unfold plc; omega
theorem plc_le (p : Int) (n : Nat) (h : 0 ≤ p) (h4 : 4 ≤ n) : plc p n + 32 ≤ 8 * n := by
  have e := Int.tmod_eq_emod_of_nonneg (b := 8 * (n : Int) - 31) h
  have e2 := Int.emod_lt_of_pos p (b := 8 * (n : Int) - 31) (by omega)
  unfold plc; omega
theorem x_lt {x i : Nat} (h : x * 2 ^ i < 4294967296) : x < 4294967296 := Nat.lt_of_le_of_lt (Nat.le_mul_of_pos_right _ (Nat.two_pow_pos i)) h
theorem half_pow {x i : Nat} (h : x * 2 ^ i < 4294967296) : x / 2 * 2 ^ (i + 1) < 4294967296 := by
  have e : x / 2 * 2 ^ (i + 1) = 2 * (x / 2) * 2 ^ i := by rw [Nat.pow_succ, Nat.mul_comm (2 ^ i) 2, ← Nat.mul_assoc, Nat.mul_comm (x / 2) 2]
  rw [e]
  exact Nat.lt_of_le_of_lt (Nat.mul_le_mul_right _ (by omega)) h
theorem flip_round (l : List Int) (f i x N : Nat) (hl : l.length = N) (hb : Bts l) (hf : f + 32 ≤ 8 * N) (hi : i < 32) (ho : x % 2 = 1) :
    Bts (l.set ((f + i) / 8) (↑(BitVec.toNat (BitVec.ofInt 8 (List.getD l ((f + i) / 8) 0) ^^^ BitVec.ofInt 8 (IntKind.wrap IntKind.u8 (1 * 2 ^ min ((f + i) % 8) 8)))) : Int)) ∧
    le (l.set ((f + i) / 8) (↑(BitVec.toNat (BitVec.ofInt 8 (List.getD l ((f + i) / 8) 0) ^^^ BitVec.ofInt 8 (IntKind.wrap IntKind.u8 (1 * 2 ^ min ((f + i) % 8) 8)))) : Int)) ^^^ 2 ^ (f + (i + 1)) * (x / 2) = le l ^^^ 2 ^ (f + i) * x := by
  have hj : (f + i) / 8 < l.length := by omega
  have hc := hb (l.getD ((f + i) / 8) 0) (by rw [List.getD_eq_getElem?_getD, List.getElem?_eq_getElem hj]; exact List.getElem_mem hj)
  have e1 : min ((f + i) % 8) 8 = (f + i) % 8 := by omega
  have hp : 2 ^ ((f + i) % 8) ≤ 128 := by
    exact Nat.le_trans (Nat.pow_le_pow_right (by omega) (show (f + i) % 8 ≤ 7 by omega)) (by decide)
  have e2 : IntKind.wrap IntKind.u8 (1 * 2 ^ ((f + i) % 8)) = ((2 ^ ((f + i) % 8) : Nat) : Int) := by
    rw [Int.one_mul, show (2 : Int) ^ ((f + i) % 8) = ((2 ^ ((f + i) % 8) : Nat) : Int) by simp]
    generalize 2 ^ ((f + i) % 8) = k at *
    exact IntWalk.u8_in _ (by omega)
  rw [e1, e2]
  generalize hr : (f + i) % 8 = r at *
  have e3 : (BitVec.toNat (BitVec.ofInt 8 (List.getD l ((f + i) / 8) 0) ^^^ BitVec.ofInt 8 ((2 ^ r : Nat) : Int))) = (List.getD l ((f + i) / 8) 0).toNat ^^^ 2 ^ r := by
    rw [BitVec.toNat_xor, BitVec.toNat_ofInt, BitVec.toNat_ofInt]
    have e8 : ((2 ^ 8 : Nat) : Int) = 256 := by decide
    rw [e8]
    congr 1
    · omega
    · generalize 2 ^ r = k at *; omega
  have hlt := (BitVec.ofInt 8 (List.getD l ((f + i) / 8) 0) ^^^ BitVec.ofInt 8 ((2 ^ r : Nat) : Int)).isLt
  constructor
  · intro y hy
    rcases List.mem_or_eq_of_mem_set hy with h | h
    · exact hb y h
    · rw [h]; omega
  · refine burst_odd l f i x _ ho hj ?_
    rw [hr, Int.toNat_natCast]
    exact e3
theorem burst_end (b l : List Int) (f i x w : Nat) (hb : Bts b) (hl : Bts l) (hn : l.length = b.length + 4) (hf : f + 32 ≤ 8 * (b.length + 4)) (hw : w < 4294967296) (h0 : w ≠ 0) (hx : x * 2 ^ i < 4294967296) (hi : i = 32) (he : le l ^^^ 2 ^ (f + i) * x = le (b ++ laid (sum b)) ^^^ 2 ^ f * w) : opn l = none := by
  subst hi
  have hx0 : x = 0 := by
    have : (2 : Nat) ^ 32 = 4294967296 := by decide
    rw [this] at hx; omega
  rw [hx0, Nat.mul_zero, Nat.xor_zero] at he
  exact burst b l f w hb hl hn (by omega) hw h0 he
theorem crcBursts (b : List Int) (p w : Int) (hb : Bts b) (h0 : -9223372036854775808 ≤ p ∧ p ≤ 9223372036854775807) (h1 : 0 ≤ w ∧ w < 4294967296) : EvD Try.prog 7 [.sl (u8s b) b.length .any, .sc (.int .i64 p), .sc (.int .u32 w)] (.sc (.bool true)) := by
  by_cases hg : (b.length ≤ 3000 ∧ 0 ≤ p) ∧ w ≠ 0
  · obtain ⟨⟨g1, g2⟩, g3⟩ := hg
    obtain ⟨w, rfl⟩ : ∃ k : Nat, w = k := ⟨w.toNat, by omega⟩
    have cs := c_seal b b.length rfl (by omega)
    have hd : IntKind.wrap IntKind.i64 (IntKind.wrap IntKind.i64 (8 * (↑(List.length b + 4) : Int)) - 31) ≠ 0 := by
      rw [IntWalk.i64_in (8 * (↑(List.length b + 4) : Int)) (by omega), IntWalk.i64_in (8 * (↑(List.length b + 4) : Int) - 31) (by omega)]; omega
    have hF2 := plc_le p (b.length + 4) g2 (by omega)
    have bs : Bts (b ++ laid (sum b)) := by intro y hy; rcases List.mem_append.1 hy with h | h; exact hb y h; exact laid_bts _ y h
    refine EvD.body Try.func7 rfl rfl rfl ?_
    refine AWP.seq ?_
    refine TO ⟨[.sl (u8s b) (List.length b) .any, (I6 p), .sc (.int .u32 ((↑w : Int)))] ++ UU 76, []⟩ ?_
    refine AWP.reg (RT 1 ?_)
    refine AWP.seq (AWP.seq ?_)
    refine TO ⟨[.sl (u8s b) (List.length b) .any, (I6 p), .sc (.int .u32 ((↑w : Int))), U6, U6, U6, (B6 false)] ++ UU 72, []⟩ ?_
    refine AWP.reg (PT 4 4 ?_)
    refine DerQ.to ⟨[.sl (u8s b) (List.length b) .any, (I6 p), .sc (.int .u32 ((↑w : Int))), U6, U6, U6, (B6 false)] ++ UU 5 ++ [.sl (u8s b) (List.length b) .any, (I6 (↑(List.length b) : Int)), (B6 (decide ((↑(List.length b) : Int) > 3000))), (B6 (decide ((↑(List.length b) : Int) > 3000)))] ++ UU 63, []⟩ (by kernel_rfl) ?_
    cases h2 : (decide ((↑(List.length b) : Int) > 3000))
    · have h2' := of_decide_eq_false h2
      refine PT 4 4 ?_
      refine DerQ.to ⟨[.sl (u8s b) (List.length b) .any, (I6 p), .sc (.int .u32 ((↑w : Int))), U6, U6, U6, (B6 false)] ++ UU 5 ++ [.sl (u8s b) (List.length b) .any, (I6 (↑(List.length b) : Int)), (B6 false), (B6 false), (I6 p), (B6 (decide (p < 0))), (B6 (decide (p < 0))), (B6 (decide (p < 0)))] ++ UU 59, []⟩ (by kernel_rfl) ?_
      cases h3 : (decide (p < 0))
      · have h3' := of_decide_eq_false h3
        refine RT 3 ?_
        refine KL (NN 12 10) ⟨[.sl (u8s b) (List.length b) .any, (I6 p), .sc (.int .u32 ((↑w : Int))), U6, U6, U6, (B6 false)] ++ UU 15 ++ [(B6 ((↑w : Int) == 0))] ++ UU 56, []⟩ ?_
        refine CN ((↑w : Int) == 0) (fun h4 => ?_) (fun h4 => ?_)
        · have h4' := eq_of_beq h4
          exfalso; omega
        · have h4' := ne_of_beq_false h4
          refine AWP.skip (SQ (PT 2 2 ?_))
          refine DerQ.callD (cs) ⟨[.sl (u8s b) (List.length b) .any, (I6 p), .sc (.int .u32 ((↑w : Int))), U6, U6, U6, (B6 false)] ++ UU 15 ++ [(B6 ((↑w : Int) == 0)), U6, .sl [] 0 .cap0, .sl (u8s b) (List.length b) .any, .sl (u8s (b ++ laid (sum b))) (List.length b + 4) .any] ++ UU 52, []⟩ ⟨by kernel_rfl, by kernel_rfl, by kernel_rfl⟩ ?_
          refine DerQ.run (((List.length (u8s (b ++ laid (sum b))) = (List.length b + 4) * 1) ∧ (List.length b + 4 ≤ 1073741824)) ∧ True ∧ True) ⟨[.sl (u8s b) (List.length b) .any, (I6 p), .sc (.int .u32 ((↑w : Int))), U6, U6, U6, (B6 false), .row 0 0 (List.length b + 4)] ++ UU 14 ++ [(B6 ((↑w : Int) == 0)), U6, .sl [] 0 .cap0, .sl (u8s b) (List.length b) .any, .sl (u8s (b ++ laid (sum b))) (List.length b + 4) .any, .row 0 0 (List.length b + 4)] ++ UU 51, [⟨u8s (b ++ laid (sum b)), 1, .fresh⟩]⟩ (by kernel_rfl) ⟨⟨(by simp), (by omega)⟩, trivial, trivial⟩ ?_
          refine AWP.seq (AWP.seq (KL [22, 24, 25, 26, 27] ⟨[.sl (u8s b) (List.length b) .any, (I6 p), .sc (.int .u32 ((↑w : Int))), U6, U6, U6, (B6 false), .row 0 0 (List.length b + 4)] ++ UU 71, [⟨u8s (b ++ laid (sum b)), 1, .fresh⟩]⟩ ?_))
          refine AWP.reg ?_
          refine DerQ.run (TT 6) ⟨[.sl (u8s b) (List.length b) .any, (I6 p), .sc (.int .u32 ((↑w : Int))), U6, U6, U6, (B6 false), .row 0 0 (List.length b + 4)] ++ UU 20 ++ [.row 0 0 (List.length b + 4), (I6 (↑(List.length b + 4) : Int)), .sl (u8s b) (List.length b) .any, (I6 (↑(List.length b) : Int)), (I6 (IntKind.wrap IntKind.i64 ((↑(List.length b) : Int) + 4))), (B6 ((↑(List.length b + 4) : Int) != IntKind.wrap IntKind.i64 ((↑(List.length b) : Int) + 4)))] ++ UU 45, [⟨u8s (b ++ laid (sum b)), 1, .fresh⟩]⟩ (by kernel_rfl) (tt 6) ?_
          rw [IntWalk.i64_in ((↑(List.length b) : Int) + 4) (by omega)]
          refine KL ([0] ++ NN 28 5) ⟨[U6, (I6 p), .sc (.int .u32 ((↑w : Int))), U6, U6, U6, (B6 false), .row 0 0 (List.length b + 4)] ++ UU 25 ++ [(B6 ((↑(List.length b + 4) : Int) != (↑(List.length b) : Int) + 4))] ++ UU 45, [⟨u8s (b ++ laid (sum b)), 1, .fresh⟩]⟩ ?_
          refine CN ((↑(List.length b + 4) : Int) != (↑(List.length b) : Int) + 4) (fun h5 => ?_) (fun h5 => ?_)
          · have h5' := bne_iff_ne.1 h5
            exfalso; omega
          · have h5' := bne_eq_false_iff_eq.1 h5
            refine AWP.skip (SQ ?_)
            refine DerQ.run (True ∧ True ∧ True ∧ True ∧ True ∧ (IntKind.wrap IntKind.i64 (IntKind.wrap IntKind.i64 (8 * (↑(List.length b + 4) : Int)) - 31) ≠ 0) ∧ True ∧ True) ⟨[U6, (I6 p), .sc (.int .u32 ((↑w : Int))), U6, U6, U6, (B6 false), .row 0 0 (List.length b + 4), (I6 (Int.tmod p (IntKind.wrap IntKind.i64 (IntKind.wrap IntKind.i64 (8 * (↑(List.length b + 4) : Int)) - 31))))] ++ UU 24 ++ [(B6 ((↑(List.length b + 4) : Int) != (↑(List.length b) : Int) + 4)), (I6 p), .row 0 0 (List.length b + 4), (I6 (↑(List.length b + 4) : Int)), (I6 (IntKind.wrap IntKind.i64 (8 * (↑(List.length b + 4) : Int)))), (I6 (IntKind.wrap IntKind.i64 (IntKind.wrap IntKind.i64 (8 * (↑(List.length b + 4) : Int)) - 31))), (I6 (Int.tmod p (IntKind.wrap IntKind.i64 (IntKind.wrap IntKind.i64 (8 * (↑(List.length b + 4) : Int)) - 31))))] ++ UU 39, [⟨u8s (b ++ laid (sum b)), 1, .fresh⟩]⟩ (by kernel_rfl) ⟨trivial, trivial, trivial, trivial, trivial, (by omega), trivial, trivial⟩ ?_
            rw [IntWalk.i64_in (8 * (↑(List.length b + 4) : Int)) (by omega)]
            rw [IntWalk.i64_in (8 * (↑(List.length b + 4) : Int) - 31) (by omega)]
            rw [Go.Crc.plcw (p) (List.length b + 4) (by omega) (by omega)]
            refine AWP.seq (AWP.seq (KL ([1] ++ NN 33 7) ⟨[U6, U6, .sc (.int .u32 ((↑w : Int))), U6, U6, U6, (B6 false), .row 0 0 (List.length b + 4), (I6 (↑(plc p (List.length b + 4)) : Int))] ++ UU 70, [⟨u8s (b ++ laid (sum b)), 1, .fresh⟩]⟩ ?_))
            refine AWP.reg ?_
            refine DerQ.run (True ∧ True) ⟨[U6, U6, .sc (.int .u32 ((↑w : Int))), U6, U6, U6, (B6 false), .row 0 0 (List.length b + 4), (I6 (↑(plc p (List.length b + 4)) : Int)), (I6 0)] ++ UU 69, [⟨u8s (b ++ laid (sum b)), 1, .fresh⟩]⟩ (by kernel_rfl) ⟨trivial, trivial⟩ ?_
            refine AWP.block ?_
            refine AWP.loopM [false, false, true, false, false, false, true, true, true, true, false, false, false, false, false, false, false, false, false, false, false, false, false, false, false, false, false, false, false, false, false, false, false, false, false, false, false, false, false, false, false, false, false, false, false, false, false, false, false, false, false, false, false, false, false, false, false, false, false, false, false, false, false, false, false, false, false, false, false, false, false, false, false, false, false, false, false, false, false] (fun kk st => ∃ (i x : Nat) (l : List Int), kk = 32 - i ∧ i ≤ 32 ∧ l.length = b.length + 4 ∧ Bts l ∧ x * 2 ^ i < 4294967296 ∧ le l ^^^ 2 ^ (plc p (b.length + 4) + i) * x = le (b ++ laid (sum b)) ^^^ 2 ^ plc p (b.length + 4) * w ∧ st = ⟨[U6, U6, .sc (.int .u32 (x : Int)), U6, U6, U6, (B6 false), .row 0 0 (List.length b + 4), (I6 (↑(plc p (List.length b + 4)) : Int)), (I6 (i : Int)), U6, U6, U6, U6, U6, U6, U6, U6, U6, U6, U6, U6, U6, U6, U6, U6, U6, U6, U6, U6, U6, U6, U6, U6, U6, U6, U6, U6, U6, U6, U6, U6, U6, U6, U6, U6, U6, U6, U6, U6, U6, U6, U6, U6, U6, U6, U6, U6, U6, U6, U6, U6, U6, U6, U6, U6, U6, U6, U6, U6, U6, U6, U6, U6, U6, U6, U6, U6, .undef], [⟨u8s l, 1, .fresh⟩]⟩) _ ⟨0, w, b ++ laid (sum b), rfl, by omega, by simp [laid_length], bs, by omega, by rfl, by kernel_rfl⟩ ?_
            rintro kk s ⟨i, x, l, rfl, hi, hl, hbl, hx, hle, rfl⟩
            have hx2 := x_lt hx
            refine AWP.seq (SQ ?_)
            refine DerQ.run (TT 2) ⟨[U6, U6, .sc (.int .u32 ((↑x : Int))), U6, U6, U6, (B6 false), .row 0 0 (List.length b + 4), (I6 (↑(plc p (List.length b + 4)) : Int)), (I6 (↑i : Int))] ++ UU 30 ++ [(I6 (↑i : Int)), (B6 (decide ((↑i : Int) < 32)))] ++ UU 37, [⟨u8s l, 1, .fresh⟩]⟩ (by kernel_rfl) (tt 2) ?_
            refine CN (decide ((↑i : Int) < 32)) (fun h6 => ?_) (fun h6 => ?_)
            · have h6' := of_decide_eq_true h6
              refine AWP.skip (AWP.seq (AWP.block (AWP.seq (SQ ?_))))
              refine DerQ.run (True ∧ ((2 : Int) ≠ (0 : Int)) ∧ True ∧ True) ⟨[U6, U6, .sc (.int .u32 ((↑x : Int))), U6, U6, U6, (B6 false), .row 0 0 (List.length b + 4), (I6 (↑(plc p (List.length b + 4)) : Int)), (I6 (↑i : Int))] ++ UU 30 ++ [(I6 (↑i : Int)), (B6 (decide ((↑i : Int) < 32))), U6, U6, .sc (.int .u32 ((↑x : Int))), .sc (.int .u32 (Int.tmod (↑x : Int) 2)), (B6 (Int.tmod (↑x : Int) 2 == 1))] ++ UU 32, [⟨u8s l, 1, .fresh⟩]⟩ (by kernel_rfl) ⟨trivial, (by omega), trivial, trivial⟩ ?_
              rw [Go.Crc.tm2 (x)]
              refine KL [40, 41, 44, 45] ⟨[U6, U6, .sc (.int .u32 ((↑x : Int))), U6, U6, U6, (B6 false), .row 0 0 (List.length b + 4), (I6 (↑(plc p (List.length b + 4)) : Int)), (I6 (↑i : Int))] ++ UU 36 ++ [(B6 ((↑(x % 2) : Int) == 1))] ++ UU 32, [⟨u8s l, 1, .fresh⟩]⟩ ?_
              refine CN ((↑(x % 2) : Int) == 1) (fun h7 => ?_) (fun h7 => ?_)
              · have h7' := eq_of_beq h7
                refine AWP.reg ?_
                refine DerQ.pre 18 (True ∧ True ∧ True ∧ True ∧ ((8 : Int) ≠ (0 : Int)) ∧ True ∧ True ∧ True ∧ True ∧ ((8 : Int) ≠ (0 : Int)) ∧ (((0 ≤ IntKind.wrap IntKind.i64 (Int.tdiv (IntKind.wrap IntKind.i64 ((↑(plc p (List.length b + 4)) : Int) + (↑i : Int))) 8)) ∧ (IntKind.wrap IntKind.i64 (Int.tdiv (IntKind.wrap IntKind.i64 ((↑(plc p (List.length b + 4)) : Int) + (↑i : Int))) 8) < (↑(List.length b + 4) : Int))) ∧ ((1 : Nat) = (1 : Nat))) ∧ (0 + Int.toNat (IntKind.wrap IntKind.i64 (Int.tdiv (IntKind.wrap IntKind.i64 ((↑(plc p (List.length b + 4)) : Int) + (↑i : Int))) 8)) * 1 < List.length (u8s l)) ∧ True ∧ True ∧ True ∧ ((8 : Int) ≠ (0 : Int)) ∧ True ∧ (0 ≤ IntKind.wrap IntKind.u64 (Int.tmod (IntKind.wrap IntKind.i64 ((↑(plc p (List.length b + 4)) : Int) + (↑i : Int))) 8)) ∧ True) ⟨[U6, U6, .sc (.int .u32 ((↑x : Int))), U6, U6, U6, (B6 false), .row 0 0 (List.length b + 4), (I6 (↑(plc p (List.length b + 4)) : Int)), (I6 (↑i : Int))] ++ UU 36 ++ [(B6 ((↑(x % 2) : Int) == 1)), .row 0 0 (List.length b + 4), (I6 (↑(plc p (List.length b + 4)) : Int)), (I6 (↑i : Int)), (I6 (IntKind.wrap IntKind.i64 ((↑(plc p (List.length b + 4)) : Int) + (↑i : Int)))), (I6 (IntKind.wrap IntKind.i64 (Int.tdiv (IntKind.wrap IntKind.i64 ((↑(plc p (List.length b + 4)) : Int) + (↑i : Int))) 8))), .row 0 0 (List.length b + 4), (I6 (↑(plc p (List.length b + 4)) : Int)), (I6 (↑i : Int)), (I6 (IntKind.wrap IntKind.i64 ((↑(plc p (List.length b + 4)) : Int) + (↑i : Int)))), (I6 (IntKind.wrap IntKind.i64 (Int.tdiv (IntKind.wrap IntKind.i64 ((↑(plc p (List.length b + 4)) : Int) + (↑i : Int))) 8))), .ptr 0 (0 + Int.toNat (IntKind.wrap IntKind.i64 (Int.tdiv (IntKind.wrap IntKind.i64 ((↑(plc p (List.length b + 4)) : Int) + (↑i : Int))) 8)) * 1), List.getD (u8s l) (0 + Int.toNat (IntKind.wrap IntKind.i64 (Int.tdiv (IntKind.wrap IntKind.i64 ((↑(plc p (List.length b + 4)) : Int) + (↑i : Int))) 8)) * 1) U6, (I6 (↑(plc p (List.length b + 4)) : Int)), (I6 (↑i : Int)), (I6 (IntKind.wrap IntKind.i64 ((↑(plc p (List.length b + 4)) : Int) + (↑i : Int)))), (I6 (Int.tmod (IntKind.wrap IntKind.i64 ((↑(plc p (List.length b + 4)) : Int) + (↑i : Int))) 8)), .sc (.int .u64 (IntKind.wrap IntKind.u64 (Int.tmod (IntKind.wrap IntKind.i64 ((↑(plc p (List.length b + 4)) : Int) + (↑i : Int))) 8))), .sc (.int .u8 (IntKind.wrap IntKind.u8 (1 * 2 ^ min (Int.toNat (IntKind.wrap IntKind.u64 (Int.tmod (IntKind.wrap IntKind.i64 ((↑(plc p (List.length b + 4)) : Int) + (↑i : Int))) 8))) 8)))] ++ UU 14, [⟨u8s l, 1, .fresh⟩]⟩ (by kernel_rfl) ⟨trivial, trivial, trivial, trivial, (by omega), trivial, trivial, trivial, trivial, (by omega), ⟨⟨(by (rw [IntWalk.i64_in ((↑(plc p (b.length + 4)) : Int) + (↑i : Int)) (by omega), td8, IntWalk.i64_in _ (by omega)]; omega)), (by (rw [IntWalk.i64_in ((↑(plc p (b.length + 4)) : Int) + (↑i : Int)) (by omega), td8, IntWalk.i64_in _ (by omega)]; omega))⟩, (by omega)⟩, (by (rw [IntWalk.i64_in ((↑(plc p (b.length + 4)) : Int) + (↑i : Int)) (by omega), td8, IntWalk.i64_in _ (by omega), u8s_length]; omega)), trivial, trivial, trivial, (by omega), trivial, (by (rw [IntWalk.i64_in ((↑(plc p (b.length + 4)) : Int) + (↑i : Int)) (by omega), tm8, IntWalk.u64_in _ (by omega)]; omega)), trivial⟩ ?_
                rw [IntWalk.i64_in ((↑(plc p (List.length b + 4)) : Int) + (↑i : Int)) (by omega)]
                rw [Nat.mul_one (Int.toNat (IntKind.wrap IntKind.i64 (Int.tdiv ((↑(plc p (List.length b + 4)) : Int) + (↑i : Int)) 8)))]
                rw [Nat.zero_add (Int.toNat (IntKind.wrap IntKind.i64 (Int.tdiv ((↑(plc p (List.length b + 4)) : Int) + (↑i : Int)) 8)))]
                rw [Go.Crc.td8 (plc p (List.length b + 4)) (i)]
                rw [Go.Abs.u8s_getD (l) (Int.toNat (IntKind.wrap IntKind.i64 (↑((plc p (List.length b + 4) + i) / 8) : Int))) (by (rw [IntWalk.i64_in _ (by omega)]; omega))]
                rw [Go.Crc.tm8 (plc p (List.length b + 4)) (i)]
                refine DerQ.run (True ∧ (((0 ≤ IntKind.wrap IntKind.i64 (↑((plc p (List.length b + 4) + i) / 8) : Int)) ∧ (IntKind.wrap IntKind.i64 (↑((plc p (List.length b + 4) + i) / 8) : Int) < (↑(List.length b + 4) : Int))) ∧ ((1 : Nat) = (1 : Nat))) ∧ (0 + Int.toNat (IntKind.wrap IntKind.i64 (↑((plc p (List.length b + 4) + i) / 8) : Int)) * 1 + 1 ≤ List.length (u8s l)) ∧ True) ⟨[U6, U6, .sc (.int .u32 ((↑x : Int))), U6, U6, U6, (B6 false), .row 0 0 (List.length b + 4), (I6 (↑(plc p (List.length b + 4)) : Int)), (I6 (↑i : Int))] ++ UU 36 ++ [(B6 ((↑(x % 2) : Int) == 1)), .row 0 0 (List.length b + 4), (I6 (↑(plc p (List.length b + 4)) : Int)), (I6 (↑i : Int)), (I6 ((↑(plc p (List.length b + 4)) : Int) + (↑i : Int))), (I6 (IntKind.wrap IntKind.i64 (↑((plc p (List.length b + 4) + i) / 8) : Int))), .row 0 0 (List.length b + 4), (I6 (↑(plc p (List.length b + 4)) : Int)), (I6 (↑i : Int)), (I6 ((↑(plc p (List.length b + 4)) : Int) + (↑i : Int))), (I6 (IntKind.wrap IntKind.i64 (↑((plc p (List.length b + 4) + i) / 8) : Int))), .ptr 0 (Int.toNat (IntKind.wrap IntKind.i64 (↑((plc p (List.length b + 4) + i) / 8) : Int))), .sc (.int .u8 (List.getD l (Int.toNat (IntKind.wrap IntKind.i64 (↑((plc p (List.length b + 4) + i) / 8) : Int))) 0)), (I6 (↑(plc p (List.length b + 4)) : Int)), (I6 (↑i : Int)), (I6 ((↑(plc p (List.length b + 4)) : Int) + (↑i : Int))), (I6 (↑((plc p (List.length b + 4) + i) % 8) : Int)), .sc (.int .u64 (IntKind.wrap IntKind.u64 (↑((plc p (List.length b + 4) + i) % 8) : Int))), .sc (.int .u8 (IntKind.wrap IntKind.u8 (1 * 2 ^ min (Int.toNat (IntKind.wrap IntKind.u64 (↑((plc p (List.length b + 4) + i) % 8) : Int))) 8))), .sc (.int .u8 (IntKind.wrap IntKind.u8 (↑(BitVec.toNat (BitVec.ofInt 8 (List.getD l (Int.toNat (IntKind.wrap IntKind.i64 (↑((plc p (List.length b + 4) + i) / 8) : Int))) 0) ^^^ BitVec.ofInt 8 (IntKind.wrap IntKind.u8 (1 * 2 ^ min (Int.toNat (IntKind.wrap IntKind.u64 (↑((plc p (List.length b + 4) + i) % 8) : Int))) 8)))) : Int))), .ptr 0 (0 + Int.toNat (IntKind.wrap IntKind.i64 (↑((plc p (List.length b + 4) + i) / 8) : Int)) * 1)] ++ UU 12, [⟨spliceA (u8s l) (0 + Int.toNat (IntKind.wrap IntKind.i64 (↑((plc p (List.length b + 4) + i) / 8) : Int)) * 1) (u8s [IntKind.wrap IntKind.u8 (↑(BitVec.toNat (BitVec.ofInt 8 (List.getD l (Int.toNat (IntKind.wrap IntKind.i64 (↑((plc p (List.length b + 4) + i) / 8) : Int))) 0) ^^^ BitVec.ofInt 8 (IntKind.wrap IntKind.u8 (1 * 2 ^ min (Int.toNat (IntKind.wrap IntKind.u64 (↑((plc p (List.length b + 4) + i) % 8) : Int))) 8)))) : Int)]), 1, .fresh⟩]⟩ (by kernel_rfl) ⟨trivial, ⟨⟨(by (rw [IntWalk.i64_in _ (by omega)]; omega)), (by (rw [IntWalk.i64_in _ (by omega)]; omega))⟩, (by omega)⟩, (by (rw [IntWalk.i64_in _ (by omega)]; simp <;> omega)), trivial⟩ ?_
                rw [IntWalk.i64_in ((↑((plc p (List.length b + 4) + i) / 8) : Int)) (by omega)]
                rw [IntWalk.u64_in ((↑((plc p (List.length b + 4) + i) % 8) : Int)) (by omega)]
                rw [IntWalk.u8_in ((↑(BitVec.toNat (BitVec.ofInt 8 (List.getD l (Int.toNat (↑((plc p (List.length b + 4) + i) / 8) : Int)) 0) ^^^ BitVec.ofInt 8 (IntKind.wrap IntKind.u8 (1 * 2 ^ min (Int.toNat (↑((plc p (List.length b + 4) + i) % 8) : Int)) 8)))) : Int)) (by omega)]
                rw [Int.toNat_natCast ((plc p (List.length b + 4) + i) % 8)]
                rw [Int.toNat_natCast ((plc p (List.length b + 4) + i) / 8)]
                rw [Nat.mul_one ((plc p (List.length b + 4) + i) / 8)]
                rw [Nat.zero_add ((plc p (List.length b + 4) + i) / 8)]
                rw [Go.Abs.u8s_spl (l) ((plc p (List.length b + 4) + i) / 8) ((↑(BitVec.toNat (BitVec.ofInt 8 (List.getD l ((plc p (List.length b + 4) + i) / 8) 0) ^^^ BitVec.ofInt 8 (IntKind.wrap IntKind.u8 (1 * 2 ^ min ((plc p (List.length b + 4) + i) % 8) 8)))) : Int)) (by omega)]
                refine KL (NN 46 21) ⟨[U6, U6, .sc (.int .u32 ((↑x : Int))), U6, U6, U6, (B6 false), .row 0 0 (List.length b + 4), (I6 (↑(plc p (List.length b + 4)) : Int)), (I6 (↑i : Int))] ++ UU 69, [⟨u8s (List.set l ((plc p (List.length b + 4) + i) / 8) (↑(BitVec.toNat (BitVec.ofInt 8 (List.getD l ((plc p (List.length b + 4) + i) / 8) 0) ^^^ BitVec.ofInt 8 (IntKind.wrap IntKind.u8 (1 * 2 ^ min ((plc p (List.length b + 4) + i) % 8) 8)))) : Int)), 1, .fresh⟩]⟩ ?_
                refine AWP.reg ?_
                refine DerQ.run (True ∧ ((2 : Int) ≠ (0 : Int)) ∧ True ∧ True) ⟨[U6, U6, .sc (.int .u32 (IntKind.wrap IntKind.u32 (Int.tdiv (↑x : Int) 2))), U6, U6, U6, (B6 false), .row 0 0 (List.length b + 4), (I6 (↑(plc p (List.length b + 4)) : Int)), (I6 (↑i : Int))] ++ UU 57 ++ [.sc (.int .u32 ((↑x : Int))), .sc (.int .u32 (IntKind.wrap IntKind.u32 (Int.tdiv (↑x : Int) 2)))] ++ UU 10, [⟨u8s (List.set l ((plc p (List.length b + 4) + i) / 8) (↑(BitVec.toNat (BitVec.ofInt 8 (List.getD l ((plc p (List.length b + 4) + i) / 8) 0) ^^^ BitVec.ofInt 8 (IntKind.wrap IntKind.u8 (1 * 2 ^ min ((plc p (List.length b + 4) + i) % 8) 8)))) : Int)), 1, .fresh⟩]⟩ (by kernel_rfl) ⟨trivial, (by omega), trivial, trivial⟩ ?_
                rw [Go.Crc.td2 (x)]
                refine AWP.reg ?_
                refine DerQ.run (TT 3) ⟨[U6, U6, .sc (.int .u32 (IntKind.wrap IntKind.u32 (↑(x / 2) : Int))), U6, U6, U6, (B6 false), .row 0 0 (List.length b + 4), (I6 (↑(plc p (List.length b + 4)) : Int)), (I6 (IntKind.wrap IntKind.i64 ((↑i : Int) + 1)))] ++ UU 32 ++ [(I6 (↑i : Int)), (I6 (IntKind.wrap IntKind.i64 ((↑i : Int) + 1)))] ++ UU 23 ++ [.sc (.int .u32 ((↑x : Int))), .sc (.int .u32 (IntKind.wrap IntKind.u32 (↑(x / 2) : Int)))] ++ UU 10, [⟨u8s (List.set l ((plc p (List.length b + 4) + i) / 8) (↑(BitVec.toNat (BitVec.ofInt 8 (List.getD l ((plc p (List.length b + 4) + i) / 8) 0) ^^^ BitVec.ofInt 8 (IntKind.wrap IntKind.u8 (1 * 2 ^ min ((plc p (List.length b + 4) + i) % 8) 8)))) : Int)), 1, .fresh⟩]⟩ (by kernel_rfl) (tt 3) ?_
                rw [IntWalk.u32_in ((↑(x / 2) : Int)) (by omega)]
                rw [IntWalk.i64_in ((↑i : Int) + 1) (by omega)]
                (have hs := flip_round l (plc p (b.length + 4)) i x _ hl hbl hF2 (by omega) (by omega); exact ⟨_, by omega, i + 1, x / 2, _, rfl, by omega, by rw [List.length_set]; exact hl, hs.1, half_pow hx, hs.2.trans hle, by kernel_rfl⟩; done)
              · have h7' := ne_of_beq_false h7
                refine AWP.skip (AWP.reg ?_)
                refine DerQ.run (True ∧ ((2 : Int) ≠ (0 : Int)) ∧ True ∧ True) ⟨[U6, U6, .sc (.int .u32 (IntKind.wrap IntKind.u32 (Int.tdiv (↑x : Int) 2))), U6, U6, U6, (B6 false), .row 0 0 (List.length b + 4), (I6 (↑(plc p (List.length b + 4)) : Int)), (I6 (↑i : Int))] ++ UU 36 ++ [(B6 ((↑(x % 2) : Int) == 1))] ++ UU 20 ++ [.sc (.int .u32 ((↑x : Int))), .sc (.int .u32 (IntKind.wrap IntKind.u32 (Int.tdiv (↑x : Int) 2)))] ++ UU 10, [⟨u8s l, 1, .fresh⟩]⟩ (by kernel_rfl) ⟨trivial, (by omega), trivial, trivial⟩ ?_
                rw [Go.Crc.td2 (x)]
                refine AWP.reg ?_
                refine DerQ.run (TT 3) ⟨[U6, U6, .sc (.int .u32 (IntKind.wrap IntKind.u32 (↑(x / 2) : Int))), U6, U6, U6, (B6 false), .row 0 0 (List.length b + 4), (I6 (↑(plc p (List.length b + 4)) : Int)), (I6 (IntKind.wrap IntKind.i64 ((↑i : Int) + 1)))] ++ UU 32 ++ [(I6 (↑i : Int)), (I6 (IntKind.wrap IntKind.i64 ((↑i : Int) + 1))), U6, U6, (B6 ((↑(x % 2) : Int) == 1))] ++ UU 20 ++ [.sc (.int .u32 ((↑x : Int))), .sc (.int .u32 (IntKind.wrap IntKind.u32 (↑(x / 2) : Int)))] ++ UU 10, [⟨u8s l, 1, .fresh⟩]⟩ (by kernel_rfl) (tt 3) ?_
                rw [IntWalk.u32_in ((↑(x / 2) : Int)) (by omega)]
                rw [IntWalk.i64_in ((↑i : Int) + 1) (by omega)]
                (have hs := burst_even l (plc p (b.length + 4)) i x (by omega); exact ⟨_, by omega, i + 1, x / 2, l, rfl, by omega, hl, hbl, half_pow hx, hs.trans hle, by kernel_rfl⟩; done)
            · have h6' := of_decide_eq_false h6
              refine AWP.exit ?_
              refine AWP.seq (KL [2, 8, 9, 40, 41] ⟨[.undef] ++ UU 5 ++ [(B6 false), .row 0 0 (List.length b + 4)] ++ UU 71, [⟨u8s l, 1, .fresh⟩]⟩ ?_)
              refine AWP.reg ?_
              refine DerQ.pre 1 (True ∧ True) ⟨[.undef] ++ UU 5 ++ [(B6 false), .row 0 0 (List.length b + 4)] ++ UU 62 ++ [.row 0 0 (List.length b + 4)] ++ UU 8, [⟨u8s l, 1, .fresh⟩]⟩ (by kernel_rfl) ⟨trivial, trivial⟩ ?_
              refine DerQ.callS (c_open_no (by (exact burst_end b l (plc p (b.length + 4)) i x w hb hbl hl hF2 (by omega) (by omega) hx (by omega) hle)) (List.length b + 4) (by omega) (by omega) (by omega)) [.row 0 0 (List.length b + 4)] ((dataAll (u8s l) = true) ∧ ((AVal.sl (List.take ((List.length b + 4) * 1) (List.drop 0 (u8s l))) (List.length b + 4) SlK.any = AVal.sl (u8s l) (List.length b + 4) SlK.any) ∧ (True))) ⟨[.undef] ++ UU 5 ++ [(B6 false), .row 0 0 (List.length b + 4)] ++ UU 62 ++ [.row 0 0 (List.length b + 4), .tup [U6, (B6 false)]] ++ UU 7, [⟨u8s l, 1, .fresh⟩]⟩ ⟨by kernel_rfl, by kernel_rfl, by kernel_rfl, by kernel_rfl, by kernel_rfl⟩ ⟨(by exact dataAll_u8s _), ⟨(by (rw [List.drop_zero, Nat.mul_one, List.take_of_length_le (by simp <;> omega)])), trivial⟩⟩ ?_
              refine DerQ.run (TT 5) ⟨[.undef] ++ UU 5 ++ [(B6 false), .row 0 0 (List.length b + 4), U6, U6, U6, (B6 false)] ++ UU 57 ++ [.tup [U6, (B6 false)], .row 0 0 (List.length b + 4), .tup [U6, (B6 false)], U6, (B6 false)] ++ UU 5, [⟨u8s l, 1, .fresh⟩]⟩ (by kernel_rfl) (tt 5) ?_
              refine AWP.seq (KL [7, 69, 70, 71, 73] ⟨[.undef] ++ UU 5 ++ [(B6 false), U6, U6, U6, U6, (B6 false)] ++ UU 67, [⟨u8s l, 1, .fresh⟩]⟩ ?_)
              refine AWP.reg (PT 3 3 ?_)
              refine CD (c_heads) ?_
              refine RT 2 ?_
              refine AWP.ret FA
      · have h3' := of_decide_eq_true h3
        exfalso; omega
    · have h2' := of_decide_eq_true h2
      exfalso; omega
  · refine EvD.body Try.func7 rfl rfl rfl ?_
    refine AWP.seq ?_
    refine TO ⟨[.sl (u8s b) (List.length b) .any, (I6 p), .sc (.int .u32 (w))] ++ UU 76, []⟩ ?_
    refine AWP.reg (RT 1 ?_)
    refine AWP.seq (AWP.seq ?_)
    refine TO ⟨[.sl (u8s b) (List.length b) .any, (I6 p), .sc (.int .u32 (w)), U6, U6, U6, (B6 false)] ++ UU 72, []⟩ ?_
    refine AWP.reg (PT 4 4 ?_)
    refine DerQ.to ⟨[.sl (u8s b) (List.length b) .any, (I6 p), .sc (.int .u32 (w)), U6, U6, U6, (B6 false)] ++ UU 5 ++ [.sl (u8s b) (List.length b) .any, (I6 (↑(List.length b) : Int)), (B6 (decide ((↑(List.length b) : Int) > 3000))), (B6 (decide ((↑(List.length b) : Int) > 3000)))] ++ UU 63, []⟩ (by kernel_rfl) ?_
    cases h2 : (decide ((↑(List.length b) : Int) > 3000))
    · have h2' := of_decide_eq_false h2
      refine PT 4 4 ?_
      refine DerQ.to ⟨[.sl (u8s b) (List.length b) .any, (I6 p), .sc (.int .u32 (w)), U6, U6, U6, (B6 false)] ++ UU 5 ++ [.sl (u8s b) (List.length b) .any, (I6 (↑(List.length b) : Int)), (B6 false), (B6 false), (I6 p), (B6 (decide (p < 0))), (B6 (decide (p < 0))), (B6 (decide (p < 0)))] ++ UU 59, []⟩ (by kernel_rfl) ?_
      cases h3 : (decide (p < 0))
      · have h3' := of_decide_eq_false h3
        refine RT 3 ?_
        refine KL (NN 12 10) ⟨[.sl (u8s b) (List.length b) .any, (I6 p), .sc (.int .u32 (w)), U6, U6, U6, (B6 false)] ++ UU 15 ++ [(B6 (w == 0))] ++ UU 56, []⟩ ?_
        refine CN (w == 0) (fun h4 => ?_) (fun h4 => ?_)
        · have h4' := eq_of_beq h4
          refine SQ (CD (c_heads) ?_)
          refine RT 1 ?_
          refine AWP.ret FA
        · have h4' := ne_of_beq_false h4
          exfalso; omega
      · have h3' := of_decide_eq_true h3
        refine RT 1 ?_
        refine KL (NN 12 10) ⟨[.sl (u8s b) (List.length b) .any, (I6 p), .sc (.int .u32 (w)), U6, U6, U6, (B6 false)] ++ UU 15 ++ [(B6 true)] ++ UU 56, []⟩ ?_
        refine CN true (fun _ => ?_) (fun h => nomatch h)
        refine SQ (CD (c_heads) ?_)
        refine RT 1 ?_
        refine AWP.ret FA
    · have h2' := of_decide_eq_true h2
      refine RT 3 ?_
      refine KL (NN 12 10) ⟨[.sl (u8s b) (List.length b) .any, (I6 p), .sc (.int .u32 (w)), U6, U6, U6, (B6 false)] ++ UU 15 ++ [(B6 true)] ++ UU 56, []⟩ ?_
      refine CN true (fun _ => ?_) (fun h => nomatch h)
      refine SQ (CD (c_heads) ?_)
      refine RT 1 ?_
      refine AWP.ret FA
end Go.Crc
