/- Walks and laws. -/
import Derived.Test.YtgpikfncinkjlaaId3
import Derived.Test.YtgpikfncinkjlaaLibB
set_option maxRecDepth 100000
set_option maxHeartbeats 0
set_option linter.unusedSimpArgs false
set_option linter.unusedVariables false
namespace Go.Tr
open Go Go.Abs Go.Proofs
theorem dec_no {p : Prop} [Decidable p] (h : ¬ p) : AVal.sc (.bool false) = .sc (.bool (decide p)) := by rw [decide_eq_false h]
theorem Owns (n : Int) (ks : List T) (p : Int) (hN : size (.mk n ks) ≤ 1000) : EvD Try.prog 43 [.agg [.sc (.int .i64 n), .sl (tcs ks) ks.length .any], .sc (.int .i64 p)] (.sc (.bool (decide (ownsP (.mk n ks) p)))) := by
  have q1 := check n ks (by omega)
  refine EvD.body Try.func43 rfl rfl rfl ?_
  refine AWP.seq ?_
  refine TO ⟨[.agg [(I6 n), tl ks], (I6 p)] ++ UU 33, []⟩ ?_
  refine AWP.reg (RT 2 ?_)
  refine AWP.scope ?_
  refine AWP.seq (AWP.seq (KL [0] ⟨[U6, (I6 p), .ptr 0 0, U6, (B6 false)] ++ UU 30, [⟨[(I6 n), tl ks], 2, .fresh⟩]⟩ ?_))
  refine AWP.reg (PT 3 3 ?_)
  refine DerQ.to ⟨[U6, (I6 p), .ptr 0 0, U6, (B6 false), U6, (I6 p), (B6 (decide (p < 0))), (B6 (decide (p < 0)))] ++ UU 26, [⟨[(I6 n), tl ks], 2, .fresh⟩]⟩ (by kernel_rfl) ?_
  cases h1 : (decide (p < 0))
  · have h1' := of_decide_eq_false h1
    refine PT 4 4 ?_
    refine DerQ.to ⟨[U6, (I6 p), .ptr 0 0, U6, (B6 false), U6, (I6 p), (B6 false), (B6 false), (I6 p), (B6 (decide (p ≥ 65536))), (B6 (decide (p ≥ 65536))), (B6 (decide (p ≥ 65536)))] ++ UU 22, [⟨[(I6 n), tl ks], 2, .fresh⟩]⟩ (by kernel_rfl) ?_
    cases h2 : (decide (p ≥ 65536))
    · have h2' := of_decide_eq_false h2
      refine PI 1 (2 ≤ 2 ∧ True) ⟨(by omega), trivial⟩ ?_
      refine CD (q1) ?_
      refine RT 2 ?_
      refine KL (NN 6 10) ⟨[U6, (I6 p), .ptr 0 0, U6, (B6 false)] ++ UU 11 ++ [(B6 (!checkI (T.mk n ks)))] ++ UU 18, [⟨[(I6 n), tl ks], 2, .fresh⟩]⟩ ?_
      refine CN (!checkI (T.mk n ks)) (fun h3 => ?_) (fun h3 => ?_)
      · have h3' := h3
        simp only [Bool.and_eq_true, Bool.and_eq_false_iff, Bool.or_eq_true, Bool.or_eq_false_iff, Bool.not_eq_true', Bool.not_eq_false', beq_iff_eq, beq_eq_false_iff_ne, decide_eq_true_eq, decide_eq_false_iff_not, ne_eq] at h3'
        refine SQ (RT 1 ?_)
        refine AWP.ret ?_
        refine FI (.sc (.bool false)) ?_
        refine Shrink.all ?_ rfl
        (exact dec_no (fun h => by have := h.2.1; simp_all); done)
      · have h3' := h3
        simp only [Bool.and_eq_true, Bool.and_eq_false_iff, Bool.or_eq_true, Bool.or_eq_false_iff, Bool.not_eq_true', Bool.not_eq_false', beq_iff_eq, beq_eq_false_iff_ne, decide_eq_true_eq, decide_eq_false_iff_not, ne_eq] at h3'
        refine AWP.skip (SQ (RT 1 ?_))
        refine AWP.seq ?_
        refine AWP.label ?_
        refine AWP.seq (AWP.block (KL [16] ⟨[U6, (I6 p), .ptr 0 0, U6, (B6 false), (I6 16)] ++ UU 29, [⟨[(I6 n), tl ks], 2, .fresh⟩]⟩ ?_))
        refine AWP.loopM [false, true, true, false, true, true, false, false, false, false, false, false, false, false, false, false, false, false, false, false, false, false, false, false, false, false, false, false, false, false, false, false, false, false, false] (fun kk st => ∃ (t : T) (b : Nat) (x : Int), kk = b ∧ x = (b : Int) ∧ b ≤ 16 ∧ roughI b t = true ∧ leafI t b p = leafI (.mk n ks) 16 p ∧ st = ⟨[U6, (I6 p), .ptr 0 0, U6, (B6 false), (I6 x), U6, U6, U6, U6, U6, U6, U6, U6, U6, U6, U6, U6, U6, U6, U6, U6, U6, U6, U6, U6, U6, U6, U6, U6, U6, U6, U6, U6, .undef], [⟨[(I6 t.n), .sl (tcs t.ks) t.ks.length .any], 2, .fresh⟩]⟩) _ ⟨.mk n ks, 16, 16, rfl, rfl, by omega, check_rough (by simpa using ‹(!checkI (T.mk n ks)) = false›), rfl, rfl⟩ ?_
        rintro kk s ⟨t, b, x, rfl, rfl, hb, hr, hl, rfl⟩
        have hb2 := bin_len (bin_of_rough _ _ hr)
        refine AWP.block (AWP.seq (SQ (RI (True ∧ 1 < 2 ∧ True ∧ True ∧ True) ⟨trivial, (by omega), trivial, trivial, trivial⟩ ?_)))
        refine KL [17, 18, 19] ⟨[U6, (I6 p), .ptr 0 0, U6, (B6 false), (I6 (↑kk : Int))] ++ UU 14 ++ [(B6 ((↑(List.length (T.ks t)) : Int) == 0))] ++ UU 14, [⟨[(I6 (T.n t)), tl (T.ks t)], 2, .fresh⟩]⟩ ?_
        refine CN ((↑(List.length (T.ks t)) : Int) == 0) (fun h4 => ?_) (fun h4 => ?_)
        · have h4' := eq_of_beq h4
          refine AWP.exit ?_
          refine SQ (RI (True ∧ 0 < 2 ∧ True ∧ True ∧ True) ⟨trivial, (by omega), trivial, trivial, trivial⟩ ?_)
          refine AWP.ret ?_
          refine FI (.sc (.bool (T.n t == 1))) ?_
          refine Shrink.all ?_ rfl
          (congr 2; rw [Bool.eq_iff_iff]; simp only [beq_iff_eq, decide_eq_true_eq]; unfold ownsP; rw [← hl, leaf_end (by omega)]; constructor <;> intro hh <;> first | exact ⟨by omega, by simpa using ‹(!checkI (T.mk n ks)) = false›, hh⟩ | exact hh.2.2; done)
        · have h4' := ne_of_beq_false h4
          refine AWP.skip (SQ ?_)
          refine DerQ.run (TT 3) ⟨[U6, (I6 p), .ptr 0 0, U6, (B6 false), (I6 (IntKind.wrap IntKind.i64 ((↑kk : Int) - 1)))] ++ UU 14 ++ [(B6 ((↑(List.length (T.ks t)) : Int) == 0)), (I6 (↑kk : Int)), (I6 (IntKind.wrap IntKind.i64 ((↑kk : Int) - 1)))] ++ UU 12, [⟨[(I6 (T.n t)), tl (T.ks t)], 2, .fresh⟩]⟩ (by kernel_rfl) (tt 3) ?_
          rw [IntWalk.i64_in ((↑kk : Int) - 1) (by omega)]
          refine AWP.drawB mixed (fun o => if [].contains (o.dst.getD 0) then 1 else if [].contains (o.dst.getD 0) then 2 else if [0, 24].contains (o.dst.getD 0) then 3 else 0) 0 1 (fun x => [⟨x 0, 2, .fresh⟩]) ⟨[U6, (I6 p), .ptr 0 0, U6, (B6 false), (I6 ((↑kk : Int) - 1))] ++ UU 14 ++ [(B6 ((↑(List.length (T.ks t)) : Int) == 0)), (I6 (↑kk : Int)), (I6 ((↑kk : Int) - 1))] ++ UU 12, [⟨[(I6 (T.n t)), tl (T.ks t)], 2, .fresh⟩]⟩ (by kernel_rfl) ⟨by kernel_rfl, by kernel_rfl⟩ (by kernel_rfl) ?_
          refine DerZ.quietI (True) (by intro x ext; kernel_rfl) (by kernel_rfl) trivial ?_
          refine DerZ.effI 1 ((1 : Nat) < (2 : Nat)) (by kernel_rfl) ⟨⟨by kernel_rfl, by kernel_rfl⟩, by kernel_rfl⟩ (by omega) ?_
          refine DerZ.pre 7 ((True) ∧ ((True) ∧ ((True) ∧ ((0 ≤ if 0 > (↑kk : Int) - 1 then 0 else (↑kk : Int) - 1) ∧ ((True) ∧ ((((0 ≤ IntKind.wrap IntKind.i64 (↑(BitVec.toNat (BitVec.ofInt 64 (Int.fdiv p (2 ^ min (Int.toNat (if 0 > (↑kk : Int) - 1 then 0 else (↑kk : Int) - 1)) 64)) &&& BitVec.ofInt 64 1)) : Int)) ∧ (IntKind.wrap IntKind.i64 (↑(BitVec.toNat (BitVec.ofInt 64 (Int.fdiv p (2 ^ min (Int.toNat (if 0 > (↑kk : Int) - 1 then 0 else (↑kk : Int) - 1)) 64)) &&& BitVec.ofInt 64 1)) : Int) < (↑(List.length (T.ks t)) : Int))) ∧ (Int.toNat (IntKind.wrap IntKind.i64 (↑(BitVec.toNat (BitVec.ofInt 64 (Int.fdiv p (2 ^ min (Int.toNat (if 0 > (↑kk : Int) - 1 then 0 else (↑kk : Int) - 1)) 64)) &&& BitVec.ofInt 64 1)) : Int)) * 2 + 2 ≤ List.length (tcs (T.ks t)))) ∧ (((2 : Nat) ≤ (2 : Nat)) ∧ (True)))))))) [(I6 p), (I6 ((↑kk : Int) - 1)), (I6 (if 0 > (↑kk : Int) - 1 then 0 else (↑kk : Int) - 1)), (I6 (Int.fdiv p (2 ^ min (Int.toNat (if 0 > (↑kk : Int) - 1 then 0 else (↑kk : Int) - 1)) 64))), (I6 (IntKind.wrap IntKind.i64 (↑(BitVec.toNat (BitVec.ofInt 64 (Int.fdiv p (2 ^ min (Int.toNat (if 0 > (↑kk : Int) - 1 then 0 else (↑kk : Int) - 1)) 64)) &&& BitVec.ofInt 64 1)) : Int))), .dptr [List.getD (tcs (T.ks t)) (Int.toNat (IntKind.wrap IntKind.i64 (↑(BitVec.toNat (BitVec.ofInt 64 (Int.fdiv p (2 ^ min (Int.toNat (if 0 > (↑kk : Int) - 1 then 0 else (↑kk : Int) - 1)) 64)) &&& BitVec.ofInt 64 1)) : Int)) * 2 + 0) U6, List.getD (tcs (T.ks t)) (Int.toNat (IntKind.wrap IntKind.i64 (↑(BitVec.toNat (BitVec.ofInt 64 (Int.fdiv p (2 ^ min (Int.toNat (if 0 > (↑kk : Int) - 1 then 0 else (↑kk : Int) - 1)) 64)) &&& BitVec.ofInt 64 1)) : Int)) * 2 + 1) AVal.undef], .agg [List.getD (tcs (T.ks t)) (Int.toNat (IntKind.wrap IntKind.i64 (↑(BitVec.toNat (BitVec.ofInt 64 (Int.fdiv p (2 ^ min (Int.toNat (if 0 > (↑kk : Int) - 1 then 0 else (↑kk : Int) - 1)) 64)) &&& BitVec.ofInt 64 1)) : Int)) * 2 + 0) U6, List.getD (tcs (T.ks t)) (Int.toNat (IntKind.wrap IntKind.i64 (↑(BitVec.toNat (BitVec.ofInt 64 (Int.fdiv p (2 ^ min (Int.toNat (if 0 > (↑kk : Int) - 1 then 0 else (↑kk : Int) - 1)) 64)) &&& BitVec.ofInt 64 1)) : Int)) * 2 + 1) AVal.undef]] ⟨[U6, (I6 p), .ptr 0 0, U6, (B6 false), (I6 ((↑kk : Int) - 1))] ++ UU 14 ++ [(B6 ((↑(List.length (T.ks t)) : Int) == 0)), (I6 (↑kk : Int)), (I6 ((↑kk : Int) - 1)), .ptr 0 1, tl (T.ks t), (I6 p), (I6 ((↑kk : Int) - 1)), (I6 (if 0 > (↑kk : Int) - 1 then 0 else (↑kk : Int) - 1)), (I6 (Int.fdiv p (2 ^ min (Int.toNat (if 0 > (↑kk : Int) - 1 then 0 else (↑kk : Int) - 1)) 64))), (I6 (IntKind.wrap IntKind.i64 (↑(BitVec.toNat (BitVec.ofInt 64 (Int.fdiv p (2 ^ min (Int.toNat (if 0 > (↑kk : Int) - 1 then 0 else (↑kk : Int) - 1)) 64)) &&& BitVec.ofInt 64 1)) : Int))), .dptr [List.getD (tcs (T.ks t)) (Int.toNat (IntKind.wrap IntKind.i64 (↑(BitVec.toNat (BitVec.ofInt 64 (Int.fdiv p (2 ^ min (Int.toNat (if 0 > (↑kk : Int) - 1 then 0 else (↑kk : Int) - 1)) 64)) &&& BitVec.ofInt 64 1)) : Int)) * 2 + 0) U6, List.getD (tcs (T.ks t)) (Int.toNat (IntKind.wrap IntKind.i64 (↑(BitVec.toNat (BitVec.ofInt 64 (Int.fdiv p (2 ^ min (Int.toNat (if 0 > (↑kk : Int) - 1 then 0 else (↑kk : Int) - 1)) 64)) &&& BitVec.ofInt 64 1)) : Int)) * 2 + 1) AVal.undef], .agg [List.getD (tcs (T.ks t)) (Int.toNat (IntKind.wrap IntKind.i64 (↑(BitVec.toNat (BitVec.ofInt 64 (Int.fdiv p (2 ^ min (Int.toNat (if 0 > (↑kk : Int) - 1 then 0 else (↑kk : Int) - 1)) 64)) &&& BitVec.ofInt 64 1)) : Int)) * 2 + 0) U6, List.getD (tcs (T.ks t)) (Int.toNat (IntKind.wrap IntKind.i64 (↑(BitVec.toNat (BitVec.ofInt 64 (Int.fdiv p (2 ^ min (Int.toNat (if 0 > (↑kk : Int) - 1 then 0 else (↑kk : Int) - 1)) 64)) &&& BitVec.ofInt 64 1)) : Int)) * 2 + 1) AVal.undef], U6, U6, .undef], [⟨[(I6 (T.n t)), tl (T.ks t)], 2, .fresh⟩]⟩ (by intro x ext; kernel_rfl) (by kernel_rfl) ⟨trivial, ⟨trivial, ⟨trivial, ⟨(by omega), ⟨trivial, ⟨⟨⟨(by (have hb0 := rough_pos hr (by omega); rw [bitw p kk hb0 (by omega) (by omega)]; have := bit_lt p (kk - 1); omega)), (by (have hb0 := rough_pos hr (by omega); rw [bitw p kk hb0 (by omega) (by omega)]; have := bit_lt p (kk - 1); omega))⟩, (by (have hb0 := rough_pos hr (by omega); rw [bitw p kk hb0 (by omega) (by omega), Int.toNat_natCast, tcs_length]; have := bit_lt p (kk - 1); omega))⟩, ⟨(by omega), trivial⟩⟩⟩⟩⟩⟩⟩ ?_
          rw [Nat.add_zero (Int.toNat (IntKind.wrap IntKind.i64 (↑(BitVec.toNat (BitVec.ofInt 64 (Int.fdiv p (2 ^ min (Int.toNat (if 0 > (↑kk : Int) - 1 then 0 else (↑kk : Int) - 1)) 64)) &&& BitVec.ofInt 64 1)) : Int)) * 2)]
          rw [Go.Tr.bitw (p) (kk) (by (have hb0 := rough_pos hr (by omega); omega)) (by omega) ⟨(by omega), (by omega)⟩]
          rw [Int.toNat_natCast (bitI p (kk - 1))]
          rw [Go.Tr.tcs_cells (T.ks t) (bitI p (kk - 1)) (by (have := bit_lt p (kk - 1); omega))]
          refine DerZ.eff 1 ((2 : Nat) ≤ (2 : Nat)) (.tup []) [⟨[(I6 (T.n (List.getD (T.ks t) (bitI p (kk - 1)) default))), tl (T.ks (List.getD (T.ks t) (bitI p (kk - 1)) default))], 2, .fresh⟩] ⟨[U6, (I6 p), .ptr 0 0, U6, (B6 false), (I6 ((↑kk : Int) - 1))] ++ UU 14 ++ [(B6 ((↑(List.length (T.ks t)) : Int) == 0)), (I6 (↑kk : Int)), (I6 ((↑kk : Int) - 1)), .ptr 0 1, tl (T.ks t), (I6 p), (I6 ((↑kk : Int) - 1)), (I6 (if 0 > (↑kk : Int) - 1 then 0 else (↑kk : Int) - 1)), (I6 (Int.fdiv p (2 ^ min (Int.toNat (if 0 > (↑kk : Int) - 1 then 0 else (↑kk : Int) - 1)) 64))), (I6 (↑(bitI p (kk - 1)) : Int)), .dptr [(I6 (T.n (List.getD (T.ks t) (bitI p (kk - 1)) default))), tl (T.ks (List.getD (T.ks t) (bitI p (kk - 1)) default))], .agg [(I6 (T.n (List.getD (T.ks t) (bitI p (kk - 1)) default))), tl (T.ks (List.getD (T.ks t) (bitI p (kk - 1)) default))], U6, U6, .undef], [⟨[(I6 (T.n (List.getD (T.ks t) (bitI p (kk - 1)) default))), tl (T.ks (List.getD (T.ks t) (bitI p (kk - 1)) default))], 2, .fresh⟩]⟩ (by kernel_rfl) ⟨⟨by kernel_rfl, by kernel_rfl⟩, by kernel_rfl, by kernel_rfl⟩ (by omega) ?_
          refine DerZ.nil ?_
          (have hs := leaf_step (p := p) hr (by omega); have hb0 := rough_pos hr (by omega); exact ⟨_, by omega, _, kk - 1, (kk : Int) - 1, rfl, by omega, by omega, hs.1, hs.2.trans hl, by kernel_rfl⟩; done)
    · have h2' := of_decide_eq_true h2
      refine RT 1 ?_
      refine KL (NN 6 10) ⟨[U6, (I6 p), .ptr 0 0, U6, (B6 false)] ++ UU 11 ++ [(B6 true)] ++ UU 18, [⟨[(I6 n), tl ks], 2, .fresh⟩]⟩ ?_
      refine CN true (fun _ => ?_) (fun h => nomatch h)
      refine SQ (RT 1 ?_)
      refine AWP.ret ?_
      refine FI (.sc (.bool false)) ?_
      refine Shrink.all ?_ rfl
      (exact dec_no (fun h => by unfold ownsP at h; omega); done)
  · have h1' := of_decide_eq_true h1
    refine RT 3 ?_
    refine KL (NN 6 10) ⟨[U6, (I6 p), .ptr 0 0, U6, (B6 false)] ++ UU 11 ++ [(B6 true)] ++ UU 18, [⟨[(I6 n), tl ks], 2, .fresh⟩]⟩ ?_
    refine CN true (fun _ => ?_) (fun h => nomatch h)
    refine SQ (RT 1 ?_)
    refine AWP.ret ?_
    refine FI (.sc (.bool false)) ?_
    refine Shrink.all ?_ rfl
    (exact dec_no (fun h => by unfold ownsP at h; omega); done)
end Go.Tr
