/- Walks and laws. -/
import Derived.Test.YtgpikfncinkjlaaEv4
import Derived.Test.YtgpikfncinkjlaaId4
import Derived.Test.YtgpikfncinkjlaaLibB
set_option maxRecDepth 100000
set_option maxHeartbeats 0
set_option linter.unusedSimpArgs false
set_option linter.unusedVariables false
namespace Go.Tr
open Go Go.Abs Go.Proofs
theorem at_no1 {t : T} {p : Int} (h : ¬ (0 ≤ p ∧ p < 65536)) : AVal.sc (.int .i64 0) = .sc (.int .i64 (atP t p)) := by rw [atP, if_neg (fun hh => h hh.1)]
theorem at_no2 {t : T} {p : Int} (h : checkE t = false) : AVal.sc (.int .i64 0) = .sc (.int .i64 (atP t p)) := by rw [atP, if_neg (fun hh => by rw [h] at hh; exact absurd hh.2 (by simp))]
theorem at_yes {t : T} {p : Int} (hp : 0 ≤ p ∧ p < 65536) (h : checkE t = true) : atP t p = atE t 16 p := by rw [atP, if_pos ⟨hp, h⟩]
theorem e_At (n : Int) (ks : List T) (p : Int) (hN : size (.mk n ks) ≤ 1000000) : EvD Try.prog 26 [.agg [.sc (.int .i64 n), .sl (tcs ks) ks.length .any], .sc (.int .i64 p)] (.sc (.int .i64 (atP (.mk n ks) p))) := by
  have q1 := e_check n ks hN
  cases hc : checkE (.mk n ks)
  · rw [hc] at q1
    refine EvD.body Try.func26 rfl rfl rfl ?_
    refine AWP.seq ?_
    refine TO ⟨[.agg [(I6 n), tl ks], (I6 p)] ++ UU 38, []⟩ ?_
    refine AWP.reg (RT 2 ?_)
    refine AWP.seq (AWP.seq (KL [0] ⟨[U6, (I6 p), .ptr 0 0, U6, (I6 0)] ++ UU 35, [⟨[(I6 n), tl ks], 2, .fresh⟩]⟩ ?_))
    refine AWP.reg (PT 3 3 ?_)
    refine DerQ.to ⟨[U6, (I6 p), .ptr 0 0, U6, (I6 0), U6, U6, (I6 p), (B6 (decide (p < 0))), (B6 (decide (p < 0)))] ++ UU 30, [⟨[(I6 n), tl ks], 2, .fresh⟩]⟩ (by kernel_rfl) ?_
    cases h1 : (decide (p < 0))
    · have h1' := of_decide_eq_false h1
      refine PT 4 4 ?_
      refine DerQ.to ⟨[U6, (I6 p), .ptr 0 0, U6, (I6 0), U6, U6, (I6 p), (B6 false), (B6 false), (I6 p), (B6 (decide (p ≥ 65536))), (B6 (decide (p ≥ 65536))), (B6 (decide (p ≥ 65536)))] ++ UU 26, [⟨[(I6 n), tl ks], 2, .fresh⟩]⟩ (by kernel_rfl) ?_
      cases h2 : (decide (p ≥ 65536))
      · have h2' := of_decide_eq_false h2
        refine PI 1 (2 ≤ 2 ∧ True) ⟨(by omega), trivial⟩ ?_
        refine CD (q1) ?_
        refine RT 2 ?_
        refine KL (NN 7 10) ⟨[U6, (I6 p), .ptr 0 0, U6, (I6 0)] ++ UU 12 ++ [(B6 true)] ++ UU 22, [⟨[(I6 n), tl ks], 2, .fresh⟩]⟩ ?_
        refine CN true (fun _ => ?_) (fun h => nomatch h)
        refine SQ (RT 1 ?_)
        refine AWP.ret ?_
        refine FI (.sc (.int .i64 0)) ?_
        refine Shrink.all ?_ rfl
        (exact at_no2 hc; done)
      · have h2' := of_decide_eq_true h2
        refine RT 1 ?_
        refine KL (NN 7 10) ⟨[U6, (I6 p), .ptr 0 0, U6, (I6 0)] ++ UU 12 ++ [(B6 true)] ++ UU 22, [⟨[(I6 n), tl ks], 2, .fresh⟩]⟩ ?_
        refine CN true (fun _ => ?_) (fun h => nomatch h)
        refine SQ (RT 1 ?_)
        refine AWP.ret ?_
        refine FI (.sc (.int .i64 0)) ?_
        refine Shrink.all ?_ rfl
        (exact at_no2 hc; done)
    · have h1' := of_decide_eq_true h1
      refine RT 3 ?_
      refine KL (NN 7 10) ⟨[U6, (I6 p), .ptr 0 0, U6, (I6 0)] ++ UU 12 ++ [(B6 true)] ++ UU 22, [⟨[(I6 n), tl ks], 2, .fresh⟩]⟩ ?_
      refine CN true (fun _ => ?_) (fun h => nomatch h)
      refine SQ (RT 1 ?_)
      refine AWP.ret ?_
      refine FI (.sc (.int .i64 0)) ?_
      refine Shrink.all ?_ rfl
      (exact at_no2 hc; done)
  · rw [hc] at q1
    have hn := roughE_n (checkE_rough hc)
    simp only [T.n_mk] at hn
    refine EvD.body Try.func26 rfl rfl rfl ?_
    refine AWP.seq ?_
    refine TO ⟨[.agg [(I6 n), tl ks], (I6 p)] ++ UU 38, []⟩ ?_
    refine AWP.reg (RT 2 ?_)
    refine AWP.seq (AWP.seq (KL [0] ⟨[U6, (I6 p), .ptr 0 0, U6, (I6 0)] ++ UU 35, [⟨[(I6 n), tl ks], 2, .fresh⟩]⟩ ?_))
    refine AWP.reg (PT 3 3 ?_)
    refine DerQ.to ⟨[U6, (I6 p), .ptr 0 0, U6, (I6 0), U6, U6, (I6 p), (B6 (decide (p < 0))), (B6 (decide (p < 0)))] ++ UU 30, [⟨[(I6 n), tl ks], 2, .fresh⟩]⟩ (by kernel_rfl) ?_
    cases h1 : (decide (p < 0))
    · have h1' := of_decide_eq_false h1
      refine PT 4 4 ?_
      refine DerQ.to ⟨[U6, (I6 p), .ptr 0 0, U6, (I6 0), U6, U6, (I6 p), (B6 false), (B6 false), (I6 p), (B6 (decide (p ≥ 65536))), (B6 (decide (p ≥ 65536))), (B6 (decide (p ≥ 65536)))] ++ UU 26, [⟨[(I6 n), tl ks], 2, .fresh⟩]⟩ (by kernel_rfl) ?_
      cases h2 : (decide (p ≥ 65536))
      · have h2' := of_decide_eq_false h2
        refine PI 1 (2 ≤ 2 ∧ True) ⟨(by omega), trivial⟩ ?_
        refine CD (q1) ?_
        refine RT 2 ?_
        refine KL (NN 7 10) ⟨[U6, (I6 p), .ptr 0 0, U6, (I6 0)] ++ UU 12 ++ [(B6 false)] ++ UU 22, [⟨[(I6 n), tl ks], 2, .fresh⟩]⟩ ?_
        refine CN false (fun h => nomatch h) (fun _ => ?_)
        refine AWP.skip (SQ (RI (True ∧ 0 < 2 ∧ True ∧ True) ⟨trivial, (by omega), trivial, trivial⟩ ?_))
        refine AWP.seq (AWP.seq (KL [17, 18, 19] ⟨[U6, (I6 p), .ptr 0 0, U6, (I6 0), (I6 n)] ++ UU 34, [⟨[(I6 n), tl ks], 2, .fresh⟩]⟩ ?_))
        refine AWP.reg (RT 1 ?_)
        refine AWP.block ?_
        refine TO ⟨[U6, (I6 p), .ptr 0 0, U6, (I6 0), (I6 n), (I6 15)] ++ UU 33, [⟨[(I6 n), tl ks], 2, .fresh⟩]⟩ ?_
        refine AWP.loopM [false, true, true, false, true, true, true, false, false, false, false, false, false, false, false, false, false, false, false, false, false, false, false, false, false, false, false, false, false, false, false, false, false, false, false, false, false, false, false, false] (fun kk st => ∃ (t : T) (b : Nat) (y L x : Int), kk = b ∧ x = (b : Int) - 1 ∧ b ≤ 16 ∧ roughE b L t = true ∧ 0 ≤ y ∧ y + L ≤ 1073741824 ∧ L ≤ 1073741824 ∧ y + atE t b p = atE (.mk n ks) 16 p ∧ st = ⟨[U6, (I6 p), .ptr 0 0, U6, (I6 0), (I6 (y + t.n)), (I6 x), U6, U6, U6, U6, U6, U6, U6, U6, U6, U6, U6, U6, U6, U6, U6, U6, U6, U6, U6, U6, U6, U6, U6, U6, U6, U6, U6, U6, U6, U6, U6, U6, .undef], [⟨[(I6 t.n), .sl (tcs t.ks) t.ks.length .any], 2, .fresh⟩]⟩) _ ⟨.mk n ks, 16, 0, 1073741824, 15, rfl, rfl, by omega, checkE_rough hc, by omega, by omega, by omega, by omega, by simp only [T.n_mk, T.ks_mk, Int.zero_add]; rfl⟩ ?_
        rintro kk s ⟨t, b, y, L, x, rfl, rfl, hb, hr, hy0, hy1, hL, hy, rfl⟩
        have hb2 := bin_len (roughE_bin _ _ _ hr)
        have hn3 := roughE_n hr
        refine AWP.seq (SQ (RI (True ∧ 1 < 2 ∧ True ∧ True ∧ True) ⟨trivial, (by omega), trivial, trivial, trivial⟩ ?_))
        refine KL [20, 21, 22] ⟨[U6, (I6 p), .ptr 0 0, U6, (I6 0), (I6 (y + T.n t)), (I6 ((↑kk : Int) - 1))] ++ UU 16 ++ [(B6 (decide ((↑(List.length (T.ks t)) : Int) > 0)))] ++ UU 16, [⟨[(I6 (T.n t)), tl (T.ks t)], 2, .fresh⟩]⟩ ?_
        refine CN (decide ((↑(List.length (T.ks t)) : Int) > 0)) (fun h3 => ?_) (fun h3 => ?_)
        · have h3' := of_decide_eq_true h3
          refine AWP.skip (AWP.seq (AWP.block (AWP.seq ?_)))
          refine AWP.drawB mixed (fun o => if [].contains (o.dst.getD 0) then 1 else if [].contains (o.dst.getD 0) then 2 else if [0, 27].contains (o.dst.getD 0) then 3 else 0) 0 1 (fun x => [⟨x 0, 2, .fresh⟩]) ⟨[U6, (I6 p), .ptr 0 0, U6, (I6 0), (I6 (y + T.n t)), (I6 ((↑kk : Int) - 1))] ++ UU 16 ++ [(B6 (decide ((↑(List.length (T.ks t)) : Int) > 0)))] ++ UU 16, [⟨[(I6 (T.n t)), tl (T.ks t)], 2, .fresh⟩]⟩ (by kernel_rfl) ⟨by kernel_rfl, by kernel_rfl⟩ (by kernel_rfl) ?_
          refine DerZ.quietI (True) (by intro x ext; kernel_rfl) (by kernel_rfl) trivial ?_
          refine DerZ.effI 1 ((1 : Nat) < (2 : Nat)) (by kernel_rfl) ⟨⟨by kernel_rfl, by kernel_rfl⟩, by kernel_rfl⟩ (by omega) ?_
          refine DerZ.pre 7 ((True) ∧ ((True) ∧ ((True) ∧ ((0 ≤ if 0 > (↑kk : Int) - 1 then 0 else (↑kk : Int) - 1) ∧ ((True) ∧ ((((0 ≤ IntKind.wrap IntKind.i64 (↑(BitVec.toNat (BitVec.ofInt 64 (Int.fdiv p (2 ^ min (Int.toNat (if 0 > (↑kk : Int) - 1 then 0 else (↑kk : Int) - 1)) 64)) &&& BitVec.ofInt 64 1)) : Int)) ∧ (IntKind.wrap IntKind.i64 (↑(BitVec.toNat (BitVec.ofInt 64 (Int.fdiv p (2 ^ min (Int.toNat (if 0 > (↑kk : Int) - 1 then 0 else (↑kk : Int) - 1)) 64)) &&& BitVec.ofInt 64 1)) : Int) < (↑(List.length (T.ks t)) : Int))) ∧ (Int.toNat (IntKind.wrap IntKind.i64 (↑(BitVec.toNat (BitVec.ofInt 64 (Int.fdiv p (2 ^ min (Int.toNat (if 0 > (↑kk : Int) - 1 then 0 else (↑kk : Int) - 1)) 64)) &&& BitVec.ofInt 64 1)) : Int)) * 2 + 2 ≤ List.length (tcs (T.ks t)))) ∧ (((2 : Nat) ≤ (2 : Nat)) ∧ (True)))))))) [(I6 p), (I6 ((↑kk : Int) - 1)), (I6 (if 0 > (↑kk : Int) - 1 then 0 else (↑kk : Int) - 1)), (I6 (Int.fdiv p (2 ^ min (Int.toNat (if 0 > (↑kk : Int) - 1 then 0 else (↑kk : Int) - 1)) 64))), (I6 (IntKind.wrap IntKind.i64 (↑(BitVec.toNat (BitVec.ofInt 64 (Int.fdiv p (2 ^ min (Int.toNat (if 0 > (↑kk : Int) - 1 then 0 else (↑kk : Int) - 1)) 64)) &&& BitVec.ofInt 64 1)) : Int))), .dptr [List.getD (tcs (T.ks t)) (Int.toNat (IntKind.wrap IntKind.i64 (↑(BitVec.toNat (BitVec.ofInt 64 (Int.fdiv p (2 ^ min (Int.toNat (if 0 > (↑kk : Int) - 1 then 0 else (↑kk : Int) - 1)) 64)) &&& BitVec.ofInt 64 1)) : Int)) * 2 + 0) U6, List.getD (tcs (T.ks t)) (Int.toNat (IntKind.wrap IntKind.i64 (↑(BitVec.toNat (BitVec.ofInt 64 (Int.fdiv p (2 ^ min (Int.toNat (if 0 > (↑kk : Int) - 1 then 0 else (↑kk : Int) - 1)) 64)) &&& BitVec.ofInt 64 1)) : Int)) * 2 + 1) AVal.undef], .agg [List.getD (tcs (T.ks t)) (Int.toNat (IntKind.wrap IntKind.i64 (↑(BitVec.toNat (BitVec.ofInt 64 (Int.fdiv p (2 ^ min (Int.toNat (if 0 > (↑kk : Int) - 1 then 0 else (↑kk : Int) - 1)) 64)) &&& BitVec.ofInt 64 1)) : Int)) * 2 + 0) U6, List.getD (tcs (T.ks t)) (Int.toNat (IntKind.wrap IntKind.i64 (↑(BitVec.toNat (BitVec.ofInt 64 (Int.fdiv p (2 ^ min (Int.toNat (if 0 > (↑kk : Int) - 1 then 0 else (↑kk : Int) - 1)) 64)) &&& BitVec.ofInt 64 1)) : Int)) * 2 + 1) AVal.undef]] ⟨[U6, (I6 p), .ptr 0 0, U6, (I6 0), (I6 (y + T.n t)), (I6 ((↑kk : Int) - 1))] ++ UU 16 ++ [(B6 (decide ((↑(List.length (T.ks t)) : Int) > 0))), U6, U6, .ptr 0 1, tl (T.ks t), (I6 p), (I6 ((↑kk : Int) - 1)), (I6 (if 0 > (↑kk : Int) - 1 then 0 else (↑kk : Int) - 1)), (I6 (Int.fdiv p (2 ^ min (Int.toNat (if 0 > (↑kk : Int) - 1 then 0 else (↑kk : Int) - 1)) 64))), (I6 (IntKind.wrap IntKind.i64 (↑(BitVec.toNat (BitVec.ofInt 64 (Int.fdiv p (2 ^ min (Int.toNat (if 0 > (↑kk : Int) - 1 then 0 else (↑kk : Int) - 1)) 64)) &&& BitVec.ofInt 64 1)) : Int))), .dptr [List.getD (tcs (T.ks t)) (Int.toNat (IntKind.wrap IntKind.i64 (↑(BitVec.toNat (BitVec.ofInt 64 (Int.fdiv p (2 ^ min (Int.toNat (if 0 > (↑kk : Int) - 1 then 0 else (↑kk : Int) - 1)) 64)) &&& BitVec.ofInt 64 1)) : Int)) * 2 + 0) U6, List.getD (tcs (T.ks t)) (Int.toNat (IntKind.wrap IntKind.i64 (↑(BitVec.toNat (BitVec.ofInt 64 (Int.fdiv p (2 ^ min (Int.toNat (if 0 > (↑kk : Int) - 1 then 0 else (↑kk : Int) - 1)) 64)) &&& BitVec.ofInt 64 1)) : Int)) * 2 + 1) AVal.undef], .agg [List.getD (tcs (T.ks t)) (Int.toNat (IntKind.wrap IntKind.i64 (↑(BitVec.toNat (BitVec.ofInt 64 (Int.fdiv p (2 ^ min (Int.toNat (if 0 > (↑kk : Int) - 1 then 0 else (↑kk : Int) - 1)) 64)) &&& BitVec.ofInt 64 1)) : Int)) * 2 + 0) U6, List.getD (tcs (T.ks t)) (Int.toNat (IntKind.wrap IntKind.i64 (↑(BitVec.toNat (BitVec.ofInt 64 (Int.fdiv p (2 ^ min (Int.toNat (if 0 > (↑kk : Int) - 1 then 0 else (↑kk : Int) - 1)) 64)) &&& BitVec.ofInt 64 1)) : Int)) * 2 + 1) AVal.undef]] ++ UU 5, [⟨[(I6 (T.n t)), tl (T.ks t)], 2, .fresh⟩]⟩ (by intro x ext; kernel_rfl) (by kernel_rfl) ⟨trivial, ⟨trivial, ⟨trivial, ⟨(by omega), ⟨trivial, ⟨⟨⟨(by (have hb0 := (at_step (p := p) hr (by omega)).1; rw [bitw p kk hb0 (by omega) (by omega)]; have := bit_lt p (kk - 1); omega)), (by (have hb0 := (at_step (p := p) hr (by omega)).1; rw [bitw p kk hb0 (by omega) (by omega)]; have := bit_lt p (kk - 1); omega))⟩, (by (have hb0 := (at_step (p := p) hr (by omega)).1; rw [bitw p kk hb0 (by omega) (by omega), Int.toNat_natCast, tcs_length]; have := bit_lt p (kk - 1); omega))⟩, ⟨(by omega), trivial⟩⟩⟩⟩⟩⟩⟩ ?_
          rw [Nat.add_zero (Int.toNat (IntKind.wrap IntKind.i64 (↑(BitVec.toNat (BitVec.ofInt 64 (Int.fdiv p (2 ^ min (Int.toNat (if 0 > (↑kk : Int) - 1 then 0 else (↑kk : Int) - 1)) 64)) &&& BitVec.ofInt 64 1)) : Int)) * 2)]
          rw [Go.Tr.bitw (p) (kk) (by (have hb0 := (at_step (p := p) hr (by omega)).1; omega)) (by omega) ⟨(by omega), (by omega)⟩]
          rw [Int.toNat_natCast (bitI p (kk - 1))]
          rw [Go.Tr.tcs_cells (T.ks t) (bitI p (kk - 1)) (by (have := bit_lt p (kk - 1); omega))]
          refine DerZ.eff 1 ((2 : Nat) ≤ (2 : Nat)) (.tup []) [⟨[(I6 (T.n (List.getD (T.ks t) (bitI p (kk - 1)) default))), tl (T.ks (List.getD (T.ks t) (bitI p (kk - 1)) default))], 2, .fresh⟩] ⟨[U6, (I6 p), .ptr 0 0, U6, (I6 0), (I6 (y + T.n t)), (I6 ((↑kk : Int) - 1))] ++ UU 16 ++ [(B6 (decide ((↑(List.length (T.ks t)) : Int) > 0))), U6, U6, .ptr 0 1, tl (T.ks t), (I6 p), (I6 ((↑kk : Int) - 1)), (I6 (if 0 > (↑kk : Int) - 1 then 0 else (↑kk : Int) - 1)), (I6 (Int.fdiv p (2 ^ min (Int.toNat (if 0 > (↑kk : Int) - 1 then 0 else (↑kk : Int) - 1)) 64))), (I6 (↑(bitI p (kk - 1)) : Int)), .dptr [(I6 (T.n (List.getD (T.ks t) (bitI p (kk - 1)) default))), tl (T.ks (List.getD (T.ks t) (bitI p (kk - 1)) default))], .agg [(I6 (T.n (List.getD (T.ks t) (bitI p (kk - 1)) default))), tl (T.ks (List.getD (T.ks t) (bitI p (kk - 1)) default))]] ++ UU 5, [⟨[(I6 (T.n (List.getD (T.ks t) (bitI p (kk - 1)) default))), tl (T.ks (List.getD (T.ks t) (bitI p (kk - 1)) default))], 2, .fresh⟩]⟩ (by kernel_rfl) ⟨⟨by kernel_rfl, by kernel_rfl⟩, by kernel_rfl, by kernel_rfl⟩ (by omega) ?_
          refine DerZ.nil ?_
          refine KL ([23] ++ NN 26 9) ⟨[U6, (I6 p), .ptr 0 0, U6, (I6 0), (I6 (y + T.n t)), (I6 ((↑kk : Int) - 1))] ++ UU 33, [⟨[(I6 (T.n (List.getD (T.ks t) (bitI p (kk - 1)) default))), tl (T.ks (List.getD (T.ks t) (bitI p (kk - 1)) default))], 2, .fresh⟩]⟩ ?_
          refine AWP.reg ?_
          refine DerQ.run (True ∧ True ∧ 0 < 2 ∧ True ∧ True ∧ True) ⟨[U6, (I6 p), .ptr 0 0, U6, (I6 0), (I6 (IntKind.wrap IntKind.i64 (y + T.n t + T.n (List.getD (T.ks t) (bitI p (kk - 1)) default)))), (I6 ((↑kk : Int) - 1))] ++ UU 28 ++ [(I6 (y + T.n t)), .ptr 0 0, (I6 (T.n (List.getD (T.ks t) (bitI p (kk - 1)) default))), (I6 (IntKind.wrap IntKind.i64 (y + T.n t + T.n (List.getD (T.ks t) (bitI p (kk - 1)) default)))), .undef], [⟨[(I6 (T.n (List.getD (T.ks t) (bitI p (kk - 1)) default))), tl (T.ks (List.getD (T.ks t) (bitI p (kk - 1)) default))], 2, .fresh⟩]⟩ (by kernel_rfl) ⟨trivial, trivial, (by omega), trivial, trivial, trivial⟩ ?_
          refine KL [35, 36, 37, 38] ⟨[U6, (I6 p), .ptr 0 0, U6, (I6 0), (I6 (IntKind.wrap IntKind.i64 (y + T.n t + T.n (List.getD (T.ks t) (bitI p (kk - 1)) default)))), (I6 ((↑kk : Int) - 1))] ++ UU 33, [⟨[(I6 (T.n (List.getD (T.ks t) (bitI p (kk - 1)) default))), tl (T.ks (List.getD (T.ks t) (bitI p (kk - 1)) default))], 2, .fresh⟩]⟩ ?_
          refine AWP.reg ?_
          refine DerQ.run (TT 3) ⟨[U6, (I6 p), .ptr 0 0, U6, (I6 0), (I6 (IntKind.wrap IntKind.i64 (y + T.n t + T.n (List.getD (T.ks t) (bitI p (kk - 1)) default)))), (I6 (IntKind.wrap IntKind.i64 ((↑kk : Int) - 1 - 1)))] ++ UU 17 ++ [(I6 ((↑kk : Int) - 1)), (I6 (IntKind.wrap IntKind.i64 ((↑kk : Int) - 1 - 1)))] ++ UU 14, [⟨[(I6 (T.n (List.getD (T.ks t) (bitI p (kk - 1)) default))), tl (T.ks (List.getD (T.ks t) (bitI p (kk - 1)) default))], 2, .fresh⟩]⟩ (by kernel_rfl) (tt 3) ?_
          rw [IntWalk.i64_in ((↑kk : Int) - 1 - 1) (by omega)]
          (have hs := at_step (p := p) hr (by omega); have hn2 := roughE_n hs.2.1; (try rw [IntWalk.i64_in (y + T.n t + T.n (List.getD (T.ks t) (bitI p (kk - 1)) default)) (by omega)]); exact ⟨_, by omega, _, kk - 1, y + t.n, L - t.n, (kk : Int) - 1 - 1, rfl, by omega, by omega, hs.2.1, by omega, by omega, by omega, by omega, by kernel_rfl⟩; done)
        · have h3' := of_decide_eq_false h3
          refine AWP.exit ?_
          refine AWP.seq (KL [1, 2, 6, 23] ⟨[U6, U6, U6, U6, (I6 0), (I6 (y + T.n t))] ++ UU 34, [⟨[(I6 (T.n t)), tl (T.ks t)], 2, .fresh⟩]⟩ ?_)
          refine AWP.reg (RT 2 ?_)
          refine AWP.ret ?_
          refine FI (.sc (.int .i64 (y + T.n t))) ?_
          refine Shrink.all ?_ rfl
          (rw [at_yes (by omega) hc, ← hy, at_end (by omega)]; done)
      · have h2' := of_decide_eq_true h2
        refine RT 1 ?_
        refine KL (NN 7 10) ⟨[U6, (I6 p), .ptr 0 0, U6, (I6 0)] ++ UU 12 ++ [(B6 true)] ++ UU 22, [⟨[(I6 n), tl ks], 2, .fresh⟩]⟩ ?_
        refine CN true (fun _ => ?_) (fun h => nomatch h)
        refine SQ (RT 1 ?_)
        refine AWP.ret ?_
        refine FI (.sc (.int .i64 0)) ?_
        refine Shrink.all ?_ rfl
        (exact at_no1 (by omega); done)
    · have h1' := of_decide_eq_true h1
      refine RT 3 ?_
      refine KL (NN 7 10) ⟨[U6, (I6 p), .ptr 0 0, U6, (I6 0)] ++ UU 12 ++ [(B6 true)] ++ UU 22, [⟨[(I6 n), tl ks], 2, .fresh⟩]⟩ ?_
      refine CN true (fun _ => ?_) (fun h => nomatch h)
      refine SQ (RT 1 ?_)
      refine AWP.ret ?_
      refine FI (.sc (.int .i64 0)) ?_
      refine Shrink.all ?_ rfl
      (exact at_no1 (by omega); done)
end Go.Tr
