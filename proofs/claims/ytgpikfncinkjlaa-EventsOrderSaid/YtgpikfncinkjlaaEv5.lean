/- Walks and laws. -/
import Derived.Test.YtgpikfncinkjlaaEv4
import Derived.Test.YtgpikfncinkjlaaId4
import Derived.Test.YtgpikfncinkjlaaLibB
set_option maxRecDepth 100000
set_option maxHeartbeats 0
set_option linter.unusedSimpArgs false
set_option linter.unusedVariables false
namespace Go.Tr
open Go Go.Abs Go.Proofs
theorem at_no1 {t : T} {p : Int} (h : ¬ (0 ≤ p ∧ p < 65536)) : AVal.sc (.int .i64 0) = .sc (.int .i64 (atP t p)) := by rw [atP, if_neg (fun hh => h hh.1)]
theorem at_no2 {t : T} {p : Int} (h : checkE t = false) : AVal.sc (.int .i64 0) = .sc (.int .i64 (atP t p)) := by rw [atP, if_neg (fun hh => by rw [h] at hh; exact absurd hh.2 (by simp))]
theorem at_yes {t : T} {p : Int} (hp : 0 ≤ p ∧ p < 65536) (h : checkE t = true) : atP t p = atE t 16 p := by rw [atP, if_pos ⟨hp, h⟩]
theorem e_At (n : Int) (ks : List T) (p : Int) (hN : size (.mk n ks) ≤ 1000000) : EvD Try.prog 26 [.agg [.sc (.int .i64 n), .sl (tcs ks) ks.length .any], .sc (.int .i64 p)] (.sc (.int .i64 (atP (.mk n ks) p))) := by
  have q1 := e_check n ks hN
  cases hc : checkE (.mk n ks)
  · rw [hc] at q1
    refine EvD.body Try.func26 rfl rfl rfl ?_
    refine AWP.seq ?_
    refine AWP.reg ?_
    refine DerQ.run (TT 2) ⟨[.agg [(I6 n), tl ks], (I6 p), .ptr 0 0, U6, (I6 0)] ++ UU 35, [⟨[(I6 n), tl ks], 2, .fresh⟩]⟩ (by kernel_rfl) (tt 2) ?_
    refine AWP.seq ?_
    refine AWP.seq ?_
    refine AWP.reg ?_
    refine DerQ.pre 3 (TT 3) ⟨[.agg [(I6 n), tl ks], (I6 p), .ptr 0 0, U6, (I6 0), U6, U6, (I6 p), (B6 (decide (p < 0))), (B6 (decide (p < 0)))] ++ UU 30, [⟨[(I6 n), tl ks], 2, .fresh⟩]⟩ (by kernel_rfl) (tt 3) ?_
    cases h1 : (decide (p < 0))
    · have h1' := of_decide_eq_false h1
      refine DerQ.pre 4 (TT 4) ⟨[.agg [(I6 n), tl ks], (I6 p), .ptr 0 0, U6, (I6 0), U6, U6, (I6 p), (B6 false), (B6 false), (I6 p), (B6 (decide (p ≥ 65536))), (B6 (decide (p ≥ 65536))), (B6 (decide (p ≥ 65536)))] ++ UU 26, [⟨[(I6 n), tl ks], 2, .fresh⟩]⟩ (by kernel_rfl) (tt 4) ?_
      cases h2 : (decide (p ≥ 65536))
      · have h2' := of_decide_eq_false h2
        refine DerQ.pre 1 (((2 : Nat) ≤ (2 : Nat)) ∧ (True)) ⟨[.agg [(I6 n), tl ks], (I6 p), .ptr 0 0, U6, (I6 0), U6, U6, (I6 p), (B6 false), (B6 false), (I6 p), (B6 false), (B6 false), (B6 false), .agg [(I6 n), tl ks]] ++ UU 25, [⟨[(I6 n), tl ks], 2, .fresh⟩]⟩ (by kernel_rfl) ⟨(by omega), trivial⟩ ?_
        refine DerQ.callD (q1) ⟨[.agg [(I6 n), tl ks], (I6 p), .ptr 0 0, U6, (I6 0), U6, U6, (I6 p), (B6 false), (B6 false), (I6 p), (B6 false), (B6 false), (B6 false), .agg [(I6 n), tl ks], (B6 false)] ++ UU 24, [⟨[(I6 n), tl ks], 2, .fresh⟩]⟩ ⟨by kernel_rfl, by kernel_rfl, by kernel_rfl⟩ ?_
        refine DerQ.run (TT 2) ⟨[.agg [(I6 n), tl ks], (I6 p), .ptr 0 0, U6, (I6 0), U6, U6, (I6 p), (B6 false), (B6 false), (I6 p), (B6 false), (B6 false), (B6 false), .agg [(I6 n), tl ks], (B6 false), (B6 true), (B6 true)] ++ UU 22, [⟨[(I6 n), tl ks], 2, .fresh⟩]⟩ (by kernel_rfl) (tt 2) ?_
        refine AWP.kill [0, 7, 8, 9, 10, 11, 12, 13, 14, 15, 16] ⟨[.undef, .sc (.int .i64 (p)), .ptr 0 0, .undef, .sc (.int .i64 0), .undef, .undef, .undef, .undef, .undef, .undef, .undef, .undef, .undef, .undef, .undef, .undef, .sc (.bool true), .undef, .undef, .undef, .undef, .undef, .undef, .undef, .undef, .undef, .undef, .undef, .undef, .undef, .undef, .undef, .undef, .undef, .undef, .undef, .undef, .undef, .undef], [⟨[.sc (.int .i64 (n)), .sl (tcs ks) (List.length ks) .any], 2, .fresh⟩]⟩ (by kernel_rfl) ?_
        refine AWP.cond (b := true) (by kernel_rfl) (fun _ => ?_) (fun h => nomatch h)
        refine AWP.seq ?_
        refine AWP.reg ?_
        refine DerQ.run ((True) ∧ (True)) ⟨[U6, (I6 p), .ptr 0 0, U6, (I6 0)] ++ UU 12 ++ [(B6 true)] ++ UU 22, [⟨[(I6 n), tl ks], 2, .fresh⟩]⟩ (by kernel_rfl) ⟨trivial, trivial⟩ ?_
        refine AWP.ret ?_
        refine EvF.fin (.sc (.int .i64 0)) _ (by simp) (by kernel_rfl) ?_
        refine Shrink.all ?_ rfl
        (exact at_no2 hc; done)
      · have h2' := of_decide_eq_true h2
        refine DerQ.run ((True) ∧ (True)) ⟨[.agg [(I6 n), tl ks], (I6 p), .ptr 0 0, U6, (I6 0), U6, U6, (I6 p), (B6 false), (B6 false), (I6 p), (B6 true), (B6 true), (B6 true), .tup [], .tup [], .tup [], (B6 true)] ++ UU 22, [⟨[(I6 n), tl ks], 2, .fresh⟩]⟩ (by kernel_rfl) ⟨trivial, trivial⟩ ?_
        refine AWP.kill [0, 7, 8, 9, 10, 11, 12, 13, 14, 15, 16] ⟨[.undef, .sc (.int .i64 (p)), .ptr 0 0, .undef, .sc (.int .i64 0), .undef, .undef, .undef, .undef, .undef, .undef, .undef, .undef, .undef, .undef, .undef, .undef, .sc (.bool true), .undef, .undef, .undef, .undef, .undef, .undef, .undef, .undef, .undef, .undef, .undef, .undef, .undef, .undef, .undef, .undef, .undef, .undef, .undef, .undef, .undef, .undef], [⟨[.sc (.int .i64 (n)), .sl (tcs ks) (List.length ks) .any], 2, .fresh⟩]⟩ (by kernel_rfl) ?_
        refine AWP.cond (b := true) (by kernel_rfl) (fun _ => ?_) (fun h => nomatch h)
        refine AWP.seq ?_
        refine AWP.reg ?_
        refine DerQ.run ((True) ∧ (True)) ⟨[U6, (I6 p), .ptr 0 0, U6, (I6 0)] ++ UU 12 ++ [(B6 true)] ++ UU 22, [⟨[(I6 n), tl ks], 2, .fresh⟩]⟩ (by kernel_rfl) ⟨trivial, trivial⟩ ?_
        refine AWP.ret ?_
        refine EvF.fin (.sc (.int .i64 0)) _ (by simp) (by kernel_rfl) ?_
        refine Shrink.all ?_ rfl
        (exact at_no2 hc; done)
    · have h1' := of_decide_eq_true h1
      refine DerQ.run (TT 3) ⟨[.agg [(I6 n), tl ks], (I6 p), .ptr 0 0, U6, (I6 0), U6, U6, (I6 p), (B6 true), (B6 true), .tup [], .tup [], (B6 true), (B6 true), .tup [], .tup [], .tup [], (B6 true)] ++ UU 22, [⟨[(I6 n), tl ks], 2, .fresh⟩]⟩ (by kernel_rfl) (tt 3) ?_
      refine AWP.kill [0, 7, 8, 9, 10, 11, 12, 13, 14, 15, 16] ⟨[.undef, .sc (.int .i64 (p)), .ptr 0 0, .undef, .sc (.int .i64 0), .undef, .undef, .undef, .undef, .undef, .undef, .undef, .undef, .undef, .undef, .undef, .undef, .sc (.bool true), .undef, .undef, .undef, .undef, .undef, .undef, .undef, .undef, .undef, .undef, .undef, .undef, .undef, .undef, .undef, .undef, .undef, .undef, .undef, .undef, .undef, .undef], [⟨[.sc (.int .i64 (n)), .sl (tcs ks) (List.length ks) .any], 2, .fresh⟩]⟩ (by kernel_rfl) ?_
      refine AWP.cond (b := true) (by kernel_rfl) (fun _ => ?_) (fun h => nomatch h)
      refine AWP.seq ?_
      refine AWP.reg ?_
      refine DerQ.run ((True) ∧ (True)) ⟨[U6, (I6 p), .ptr 0 0, U6, (I6 0)] ++ UU 12 ++ [(B6 true)] ++ UU 22, [⟨[(I6 n), tl ks], 2, .fresh⟩]⟩ (by kernel_rfl) ⟨trivial, trivial⟩ ?_
      refine AWP.ret ?_
      refine EvF.fin (.sc (.int .i64 0)) _ (by simp) (by kernel_rfl) ?_
      refine Shrink.all ?_ rfl
      (exact at_no2 hc; done)
  · rw [hc] at q1
    have hn := roughE_n (checkE_rough hc)
    simp only [T.n_mk] at hn
    refine EvD.body Try.func26 rfl rfl rfl ?_
    refine AWP.seq ?_
    refine AWP.reg ?_
    refine DerQ.run (TT 2) ⟨[.agg [(I6 n), tl ks], (I6 p), .ptr 0 0, U6, (I6 0)] ++ UU 35, [⟨[(I6 n), tl ks], 2, .fresh⟩]⟩ (by kernel_rfl) (tt 2) ?_
    refine AWP.seq ?_
    refine AWP.seq ?_
    refine AWP.reg ?_
    refine DerQ.pre 3 (TT 3) ⟨[.agg [(I6 n), tl ks], (I6 p), .ptr 0 0, U6, (I6 0), U6, U6, (I6 p), (B6 (decide (p < 0))), (B6 (decide (p < 0)))] ++ UU 30, [⟨[(I6 n), tl ks], 2, .fresh⟩]⟩ (by kernel_rfl) (tt 3) ?_
    cases h1 : (decide (p < 0))
    · have h1' := of_decide_eq_false h1
      refine DerQ.pre 4 (TT 4) ⟨[.agg [(I6 n), tl ks], (I6 p), .ptr 0 0, U6, (I6 0), U6, U6, (I6 p), (B6 false), (B6 false), (I6 p), (B6 (decide (p ≥ 65536))), (B6 (decide (p ≥ 65536))), (B6 (decide (p ≥ 65536)))] ++ UU 26, [⟨[(I6 n), tl ks], 2, .fresh⟩]⟩ (by kernel_rfl) (tt 4) ?_
      cases h2 : (decide (p ≥ 65536))
      · have h2' := of_decide_eq_false h2
        refine DerQ.pre 1 (((2 : Nat) ≤ (2 : Nat)) ∧ (True)) ⟨[.agg [(I6 n), tl ks], (I6 p), .ptr 0 0, U6, (I6 0), U6, U6, (I6 p), (B6 false), (B6 false), (I6 p), (B6 false), (B6 false), (B6 false), .agg [(I6 n), tl ks]] ++ UU 25, [⟨[(I6 n), tl ks], 2, .fresh⟩]⟩ (by kernel_rfl) ⟨(by omega), trivial⟩ ?_
        refine DerQ.callD (q1) ⟨[.agg [(I6 n), tl ks], (I6 p), .ptr 0 0, U6, (I6 0), U6, U6, (I6 p), (B6 false), (B6 false), (I6 p), (B6 false), (B6 false), (B6 false), .agg [(I6 n), tl ks], (B6 true)] ++ UU 24, [⟨[(I6 n), tl ks], 2, .fresh⟩]⟩ ⟨by kernel_rfl, by kernel_rfl, by kernel_rfl⟩ ?_
        refine DerQ.run (TT 2) ⟨[.agg [(I6 n), tl ks], (I6 p), .ptr 0 0, U6, (I6 0), U6, U6, (I6 p), (B6 false), (B6 false), (I6 p), (B6 false), (B6 false), (B6 false), .agg [(I6 n), tl ks], (B6 true), (B6 false), (B6 false)] ++ UU 22, [⟨[(I6 n), tl ks], 2, .fresh⟩]⟩ (by kernel_rfl) (tt 2) ?_
        refine AWP.kill [0, 7, 8, 9, 10, 11, 12, 13, 14, 15, 16] ⟨[.undef, .sc (.int .i64 (p)), .ptr 0 0, .undef, .sc (.int .i64 0), .undef, .undef, .undef, .undef, .undef, .undef, .undef, .undef, .undef, .undef, .undef, .undef, .sc (.bool false), .undef, .undef, .undef, .undef, .undef, .undef, .undef, .undef, .undef, .undef, .undef, .undef, .undef, .undef, .undef, .undef, .undef, .undef, .undef, .undef, .undef, .undef], [⟨[.sc (.int .i64 (n)), .sl (tcs ks) (List.length ks) .any], 2, .fresh⟩]⟩ (by kernel_rfl) ?_
        refine AWP.cond (b := false) (by kernel_rfl) (fun h => nomatch h) (fun _ => ?_)
        refine AWP.skip ?_
        refine AWP.seq ?_
        refine AWP.reg ?_
        refine DerQ.run ((True) ∧ (((0 : Nat) < (2 : Nat)) ∧ ((True) ∧ (True)))) ⟨[U6, (I6 p), .ptr 0 0, U6, (I6 0), (I6 n)] ++ UU 11 ++ [(B6 false), .ptr 0 0, (I6 n)] ++ UU 20, [⟨[(I6 n), tl ks], 2, .fresh⟩]⟩ (by kernel_rfl) ⟨trivial, ⟨(by omega), ⟨trivial, trivial⟩⟩⟩ ?_
        refine AWP.seq ?_
        refine AWP.seq ?_
        refine AWP.reg ?_
        refine DerQ.run ((True) ∧ (True)) ⟨[U6, (I6 p), .ptr 0 0, U6, (I6 0), (I6 n), (I6 15)] ++ UU 10 ++ [(B6 false), .ptr 0 0, (I6 n)] ++ UU 20, [⟨[(I6 n), tl ks], 2, .fresh⟩]⟩ (by kernel_rfl) ⟨trivial, trivial⟩ ?_
        refine AWP.block ?_
        refine AWP.loopM [false, true, true, false, true, true, true, false, false, false, false, false, false, false, false, false, false, true, true, true, false, false, false, false, false, false, false, false, false, false, false, false, false, false, false, false, false, false, false, false] (fun kk st => ∃ (t : T) (b : Nat) (y L x : Int), kk = b ∧ x = (b : Int) - 1 ∧ b ≤ 16 ∧ roughE b L t = true ∧ 0 ≤ y ∧ y + L ≤ 1073741824 ∧ L ≤ 1073741824 ∧ y + atE t b p = atE (.mk n ks) 16 p ∧ st = ⟨[U6, (I6 p), .ptr 0 0, U6, (I6 0), (I6 (y + t.n)), (I6 x), U6, U6, U6, U6, U6, U6, U6, U6, U6, U6, (B6 false), .ptr 0 0, (I6 n), U6, U6, U6, U6, U6, U6, U6, U6, U6, U6, U6, U6, U6, U6, U6, U6, U6, U6, U6, .undef], [⟨[(I6 t.n), .sl (tcs t.ks) t.ks.length .any], 2, .fresh⟩]⟩) _ ⟨.mk n ks, 16, 0, 1073741824, 15, rfl, rfl, by omega, checkE_rough hc, by omega, by omega, by omega, by omega, by simp only [T.n_mk, T.ks_mk, Int.zero_add]; rfl⟩ ?_
        rintro kk s ⟨t, b, y, L, x, rfl, rfl, hb, hr, hy0, hy1, hL, hy, rfl⟩
        have hb2 := bin_len (roughE_bin _ _ _ hr)
        have hn3 := roughE_n hr
        refine AWP.seq ?_
        refine AWP.seq ?_
        refine AWP.reg ?_
        refine DerQ.run ((True) ∧ (((1 : Nat) < (2 : Nat)) ∧ ((True) ∧ ((True) ∧ (True))))) ⟨[U6, (I6 p), .ptr 0 0, U6, (I6 0), (I6 (y + T.n t)), (I6 ((↑kk : Int) - 1))] ++ UU 10 ++ [(B6 false), .ptr 0 0, (I6 n), .ptr 0 1, tl (T.ks t), (I6 (↑(List.length (T.ks t)) : Int)), (B6 (decide ((↑(List.length (T.ks t)) : Int) > 0)))] ++ UU 16, [⟨[(I6 (T.n t)), tl (T.ks t)], 2, .fresh⟩]⟩ (by kernel_rfl) ⟨trivial, ⟨(by omega), ⟨trivial, ⟨trivial, trivial⟩⟩⟩⟩ ?_
        refine AWP.cond (b := decide ((↑(List.length (T.ks t)) : Int) > 0)) (by kernel_rfl) (fun h3 => ?_) (fun h3 => ?_)
        · have h3' := of_decide_eq_true h3
          refine AWP.kill [20, 21, 22, 23] ⟨[.undef, .sc (.int .i64 (p)), .ptr 0 0, .undef, .sc (.int .i64 0), .sc (.int .i64 (y + T.n t)), .sc (.int .i64 ((↑kk : Int) - 1)), .undef, .undef, .undef, .undef, .undef, .undef, .undef, .undef, .undef, .undef, .sc (.bool false), .ptr 0 0, .sc (.int .i64 (n)), .undef, .undef, .undef, .undef, .undef, .undef, .undef, .undef, .undef, .undef, .undef, .undef, .undef, .undef, .undef, .undef, .undef, .undef, .undef, .undef], [⟨[.sc (.int .i64 (T.n t)), .sl (tcs (T.ks t)) (List.length (T.ks t)) .any], 2, .fresh⟩]⟩ (by kernel_rfl) ?_
          refine AWP.skip ?_
          refine AWP.seq ?_
          refine AWP.block ?_
          refine AWP.seq ?_
          refine AWP.drawB mixed (fun o => if [].contains (o.dst.getD 0) then 1 else if [].contains (o.dst.getD 0) then 2 else if [0, 27].contains (o.dst.getD 0) then 3 else 0) 0 1 (fun x => [⟨x 0, 2, .fresh⟩]) ⟨[.undef, .sc (.int .i64 (p)), .ptr 0 0, .undef, .sc (.int .i64 0), .sc (.int .i64 (y + T.n t)), .sc (.int .i64 ((↑kk : Int) - 1)), .undef, .undef, .undef, .undef, .undef, .undef, .undef, .undef, .undef, .undef, .sc (.bool false), .ptr 0 0, .sc (.int .i64 (n)), .undef, .undef, .undef, .undef, .undef, .undef, .undef, .undef, .undef, .undef, .undef, .undef, .undef, .undef, .undef, .undef, .undef, .undef, .undef, .undef], [⟨[.sc (.int .i64 (T.n t)), .sl (tcs (T.ks t)) (List.length (T.ks t)) .any], 2, .fresh⟩]⟩ (by kernel_rfl) ⟨by kernel_rfl, by kernel_rfl⟩ (by kernel_rfl) ?_
          refine DerZ.quiet (True) (.ptr 0 1) ⟨[U6, (I6 p), .ptr 0 0, U6, (I6 0), (I6 (y + T.n t)), (I6 ((↑kk : Int) - 1))] ++ UU 10 ++ [(B6 false), .ptr 0 0, (I6 n)] ++ UU 6 ++ [.ptr 0 1] ++ UU 13, [⟨[(I6 (T.n t)), tl (T.ks t)], 2, .fresh⟩]⟩ (by intro x ext; kernel_rfl) ⟨by kernel_rfl, by kernel_rfl⟩ trivial ?_
          refine DerZ.eff 1 ((1 : Nat) < (2 : Nat)) (tl (T.ks t)) [⟨[(I6 (T.n t)), tl (T.ks t)], 2, .fresh⟩] ⟨[U6, (I6 p), .ptr 0 0, U6, (I6 0), (I6 (y + T.n t)), (I6 ((↑kk : Int) - 1))] ++ UU 10 ++ [(B6 false), .ptr 0 0, (I6 n)] ++ UU 6 ++ [.ptr 0 1, tl (T.ks t)] ++ UU 12, [⟨[(I6 (T.n t)), tl (T.ks t)], 2, .fresh⟩]⟩ (by kernel_rfl) ⟨⟨by kernel_rfl, by kernel_rfl⟩, by kernel_rfl, by kernel_rfl⟩ (by omega) ?_
          refine DerZ.pre 7 ((True) ∧ ((True) ∧ ((True) ∧ ((0 ≤ if 0 > (↑kk : Int) - 1 then 0 else (↑kk : Int) - 1) ∧ ((True) ∧ ((((0 ≤ IntKind.wrap IntKind.i64 (↑(BitVec.toNat (BitVec.ofInt 64 (Int.fdiv p (2 ^ min (Int.toNat (if 0 > (↑kk : Int) - 1 then 0 else (↑kk : Int) - 1)) 64)) &&& BitVec.ofInt 64 1)) : Int)) ∧ (IntKind.wrap IntKind.i64 (↑(BitVec.toNat (BitVec.ofInt 64 (Int.fdiv p (2 ^ min (Int.toNat (if 0 > (↑kk : Int) - 1 then 0 else (↑kk : Int) - 1)) 64)) &&& BitVec.ofInt 64 1)) : Int) < (↑(List.length (T.ks t)) : Int))) ∧ (Int.toNat (IntKind.wrap IntKind.i64 (↑(BitVec.toNat (BitVec.ofInt 64 (Int.fdiv p (2 ^ min (Int.toNat (if 0 > (↑kk : Int) - 1 then 0 else (↑kk : Int) - 1)) 64)) &&& BitVec.ofInt 64 1)) : Int)) * 2 + 2 ≤ List.length (tcs (T.ks t)))) ∧ (((2 : Nat) ≤ (2 : Nat)) ∧ (True)))))))) [(I6 p), (I6 ((↑kk : Int) - 1)), (I6 (if 0 > (↑kk : Int) - 1 then 0 else (↑kk : Int) - 1)), (I6 (Int.fdiv p (2 ^ min (Int.toNat (if 0 > (↑kk : Int) - 1 then 0 else (↑kk : Int) - 1)) 64))), (I6 (IntKind.wrap IntKind.i64 (↑(BitVec.toNat (BitVec.ofInt 64 (Int.fdiv p (2 ^ min (Int.toNat (if 0 > (↑kk : Int) - 1 then 0 else (↑kk : Int) - 1)) 64)) &&& BitVec.ofInt 64 1)) : Int))), .dptr [List.getD (tcs (T.ks t)) (Int.toNat (IntKind.wrap IntKind.i64 (↑(BitVec.toNat (BitVec.ofInt 64 (Int.fdiv p (2 ^ min (Int.toNat (if 0 > (↑kk : Int) - 1 then 0 else (↑kk : Int) - 1)) 64)) &&& BitVec.ofInt 64 1)) : Int)) * 2 + 0) U6, List.getD (tcs (T.ks t)) (Int.toNat (IntKind.wrap IntKind.i64 (↑(BitVec.toNat (BitVec.ofInt 64 (Int.fdiv p (2 ^ min (Int.toNat (if 0 > (↑kk : Int) - 1 then 0 else (↑kk : Int) - 1)) 64)) &&& BitVec.ofInt 64 1)) : Int)) * 2 + 1) AVal.undef], .agg [List.getD (tcs (T.ks t)) (Int.toNat (IntKind.wrap IntKind.i64 (↑(BitVec.toNat (BitVec.ofInt 64 (Int.fdiv p (2 ^ min (Int.toNat (if 0 > (↑kk : Int) - 1 then 0 else (↑kk : Int) - 1)) 64)) &&& BitVec.ofInt 64 1)) : Int)) * 2 + 0) U6, List.getD (tcs (T.ks t)) (Int.toNat (IntKind.wrap IntKind.i64 (↑(BitVec.toNat (BitVec.ofInt 64 (Int.fdiv p (2 ^ min (Int.toNat (if 0 > (↑kk : Int) - 1 then 0 else (↑kk : Int) - 1)) 64)) &&& BitVec.ofInt 64 1)) : Int)) * 2 + 1) AVal.undef]] ⟨[U6, (I6 p), .ptr 0 0, U6, (I6 0), (I6 (y + T.n t)), (I6 ((↑kk : Int) - 1))] ++ UU 10 ++ [(B6 false), .ptr 0 0, (I6 n)] ++ UU 6 ++ [.ptr 0 1, tl (T.ks t), (I6 p), (I6 ((↑kk : Int) - 1)), (I6 (if 0 > (↑kk : Int) - 1 then 0 else (↑kk : Int) - 1)), (I6 (Int.fdiv p (2 ^ min (Int.toNat (if 0 > (↑kk : Int) - 1 then 0 else (↑kk : Int) - 1)) 64))), (I6 (IntKind.wrap IntKind.i64 (↑(BitVec.toNat (BitVec.ofInt 64 (Int.fdiv p (2 ^ min (Int.toNat (if 0 > (↑kk : Int) - 1 then 0 else (↑kk : Int) - 1)) 64)) &&& BitVec.ofInt 64 1)) : Int))), .dptr [List.getD (tcs (T.ks t)) (Int.toNat (IntKind.wrap IntKind.i64 (↑(BitVec.toNat (BitVec.ofInt 64 (Int.fdiv p (2 ^ min (Int.toNat (if 0 > (↑kk : Int) - 1 then 0 else (↑kk : Int) - 1)) 64)) &&& BitVec.ofInt 64 1)) : Int)) * 2 + 0) U6, List.getD (tcs (T.ks t)) (Int.toNat (IntKind.wrap IntKind.i64 (↑(BitVec.toNat (BitVec.ofInt 64 (Int.fdiv p (2 ^ min (Int.toNat (if 0 > (↑kk : Int) - 1 then 0 else (↑kk : Int) - 1)) 64)) &&& BitVec.ofInt 64 1)) : Int)) * 2 + 1) AVal.undef], .agg [List.getD (tcs (T.ks t)) (Int.toNat (IntKind.wrap IntKind.i64 (↑(BitVec.toNat (BitVec.ofInt 64 (Int.fdiv p (2 ^ min (Int.toNat (if 0 > (↑kk : Int) - 1 then 0 else (↑kk : Int) - 1)) 64)) &&& BitVec.ofInt 64 1)) : Int)) * 2 + 0) U6, List.getD (tcs (T.ks t)) (Int.toNat (IntKind.wrap IntKind.i64 (↑(BitVec.toNat (BitVec.ofInt 64 (Int.fdiv p (2 ^ min (Int.toNat (if 0 > (↑kk : Int) - 1 then 0 else (↑kk : Int) - 1)) 64)) &&& BitVec.ofInt 64 1)) : Int)) * 2 + 1) AVal.undef]] ++ UU 5, [⟨[(I6 (T.n t)), tl (T.ks t)], 2, .fresh⟩]⟩ (by intro x ext; kernel_rfl) (by kernel_rfl) ⟨trivial, ⟨trivial, ⟨trivial, ⟨(by omega), ⟨trivial, ⟨⟨⟨(by (have hb0 := (at_step (p := p) hr (by omega)).1; rw [bitw p kk hb0 (by omega) (by omega)]; have := bit_lt p (kk - 1); omega)), (by (have hb0 := (at_step (p := p) hr (by omega)).1; rw [bitw p kk hb0 (by omega) (by omega)]; have := bit_lt p (kk - 1); omega))⟩, (by (have hb0 := (at_step (p := p) hr (by omega)).1; rw [bitw p kk hb0 (by omega) (by omega), Int.toNat_natCast, tcs_length]; have := bit_lt p (kk - 1); omega))⟩, ⟨(by omega), trivial⟩⟩⟩⟩⟩⟩⟩ ?_
          rw [Nat.add_zero (Int.toNat (IntKind.wrap IntKind.i64 (↑(BitVec.toNat (BitVec.ofInt 64 (Int.fdiv p (2 ^ min (Int.toNat (if 0 > (↑kk : Int) - 1 then 0 else (↑kk : Int) - 1)) 64)) &&& BitVec.ofInt 64 1)) : Int)) * 2)]
          rw [Go.Tr.bitw (p) (kk) (by (have hb0 := (at_step (p := p) hr (by omega)).1; omega)) (by omega) ⟨(by omega), (by omega)⟩]
          rw [Int.toNat_natCast (bitI p (kk - 1))]
          rw [Go.Tr.tcs_cells (T.ks t) (bitI p (kk - 1)) (by (have := bit_lt p (kk - 1); omega))]
          refine DerZ.eff 1 ((2 : Nat) ≤ (2 : Nat)) (.tup []) [⟨[(I6 (T.n (List.getD (T.ks t) (bitI p (kk - 1)) default))), tl (T.ks (List.getD (T.ks t) (bitI p (kk - 1)) default))], 2, .fresh⟩] ⟨[U6, (I6 p), .ptr 0 0, U6, (I6 0), (I6 (y + T.n t)), (I6 ((↑kk : Int) - 1))] ++ UU 10 ++ [(B6 false), .ptr 0 0, (I6 n)] ++ UU 6 ++ [.ptr 0 1, tl (T.ks t), (I6 p), (I6 ((↑kk : Int) - 1)), (I6 (if 0 > (↑kk : Int) - 1 then 0 else (↑kk : Int) - 1)), (I6 (Int.fdiv p (2 ^ min (Int.toNat (if 0 > (↑kk : Int) - 1 then 0 else (↑kk : Int) - 1)) 64))), (I6 (↑(bitI p (kk - 1)) : Int)), .dptr [(I6 (T.n (List.getD (T.ks t) (bitI p (kk - 1)) default))), tl (T.ks (List.getD (T.ks t) (bitI p (kk - 1)) default))], .agg [(I6 (T.n (List.getD (T.ks t) (bitI p (kk - 1)) default))), tl (T.ks (List.getD (T.ks t) (bitI p (kk - 1)) default))]] ++ UU 5, [⟨[(I6 (T.n (List.getD (T.ks t) (bitI p (kk - 1)) default))), tl (T.ks (List.getD (T.ks t) (bitI p (kk - 1)) default))], 2, .fresh⟩]⟩ (by kernel_rfl) ⟨⟨by kernel_rfl, by kernel_rfl⟩, by kernel_rfl, by kernel_rfl⟩ (by omega) ?_
          refine DerZ.nil ?_
          refine AWP.kill [26, 27, 28, 29, 30, 31, 32, 33, 34] ⟨[.undef, .sc (.int .i64 (p)), .ptr 0 0, .undef, .sc (.int .i64 0), .sc (.int .i64 (y + T.n t)), .sc (.int .i64 ((↑kk : Int) - 1)), .undef, .undef, .undef, .undef, .undef, .undef, .undef, .undef, .undef, .undef, .sc (.bool false), .ptr 0 0, .sc (.int .i64 (n)), .undef, .undef, .undef, .undef, .undef, .undef, .undef, .undef, .undef, .undef, .undef, .undef, .undef, .undef, .undef, .undef, .undef, .undef, .undef, .undef], [⟨[.sc (.int .i64 (T.n (List.getD (T.ks t) (bitI p (kk - 1)) default))), .sl (tcs (T.ks (List.getD (T.ks t) (bitI p (kk - 1)) default))) (List.length (T.ks (List.getD (T.ks t) (bitI p (kk - 1)) default))) .any], 2, .fresh⟩]⟩ (by kernel_rfl) ?_
          refine AWP.reg ?_
          refine DerQ.run ((True) ∧ ((True) ∧ (((0 : Nat) < (2 : Nat)) ∧ ((True) ∧ ((True) ∧ (True)))))) ⟨[U6, (I6 p), .ptr 0 0, U6, (I6 0), (I6 (IntKind.wrap IntKind.i64 (y + T.n t + T.n (List.getD (T.ks t) (bitI p (kk - 1)) default)))), (I6 ((↑kk : Int) - 1))] ++ UU 10 ++ [(B6 false), .ptr 0 0, (I6 n)] ++ UU 15 ++ [(I6 (y + T.n t)), .ptr 0 0, (I6 (T.n (List.getD (T.ks t) (bitI p (kk - 1)) default))), (I6 (IntKind.wrap IntKind.i64 (y + T.n t + T.n (List.getD (T.ks t) (bitI p (kk - 1)) default)))), .undef], [⟨[(I6 (T.n (List.getD (T.ks t) (bitI p (kk - 1)) default))), tl (T.ks (List.getD (T.ks t) (bitI p (kk - 1)) default))], 2, .fresh⟩]⟩ (by kernel_rfl) ⟨trivial, ⟨trivial, ⟨(by omega), ⟨trivial, ⟨trivial, trivial⟩⟩⟩⟩⟩ ?_
          refine AWP.kill [35, 36, 37, 38] ⟨[.undef, .sc (.int .i64 (p)), .ptr 0 0, .undef, .sc (.int .i64 0), .sc (.int .i64 (IntKind.wrap IntKind.i64 (y + T.n t + T.n (List.getD (T.ks t) (bitI p (kk - 1)) default)))), .sc (.int .i64 ((↑kk : Int) - 1)), .undef, .undef, .undef, .undef, .undef, .undef, .undef, .undef, .undef, .undef, .sc (.bool false), .ptr 0 0, .sc (.int .i64 (n)), .undef, .undef, .undef, .undef, .undef, .undef, .undef, .undef, .undef, .undef, .undef, .undef, .undef, .undef, .undef, .undef, .undef, .undef, .undef, .undef], [⟨[.sc (.int .i64 (T.n (List.getD (T.ks t) (bitI p (kk - 1)) default))), .sl (tcs (T.ks (List.getD (T.ks t) (bitI p (kk - 1)) default))) (List.length (T.ks (List.getD (T.ks t) (bitI p (kk - 1)) default))) .any], 2, .fresh⟩]⟩ (by kernel_rfl) ?_
          refine AWP.reg ?_
          refine DerQ.run (TT 3) ⟨[U6, (I6 p), .ptr 0 0, U6, (I6 0), (I6 (IntKind.wrap IntKind.i64 (y + T.n t + T.n (List.getD (T.ks t) (bitI p (kk - 1)) default)))), (I6 (IntKind.wrap IntKind.i64 ((↑kk : Int) - 1 - 1)))] ++ UU 10 ++ [(B6 false), .ptr 0 0, (I6 n), U6, U6, U6, U6, (I6 ((↑kk : Int) - 1)), (I6 (IntKind.wrap IntKind.i64 ((↑kk : Int) - 1 - 1)))] ++ UU 14, [⟨[(I6 (T.n (List.getD (T.ks t) (bitI p (kk - 1)) default))), tl (T.ks (List.getD (T.ks t) (bitI p (kk - 1)) default))], 2, .fresh⟩]⟩ (by kernel_rfl) (tt 3) ?_
          rw [IntWalk.i64_in ((↑kk : Int) - 1 - 1) (by omega)]
          (have hs := at_step (p := p) hr (by omega); have hn2 := roughE_n hs.2.1; (try rw [IntWalk.i64_in (y + T.n t + T.n (List.getD (T.ks t) (bitI p (kk - 1)) default)) (by omega)]); exact ⟨_, by omega, _, kk - 1, y + t.n, L - t.n, (kk : Int) - 1 - 1, rfl, by omega, by omega, hs.2.1, by omega, by omega, by omega, by omega, by kernel_rfl⟩; done)
        · have h3' := of_decide_eq_false h3
          refine AWP.kill [20, 21, 22, 23] ⟨[.undef, .sc (.int .i64 (p)), .ptr 0 0, .undef, .sc (.int .i64 0), .sc (.int .i64 (y + T.n t)), .sc (.int .i64 ((↑kk : Int) - 1)), .undef, .undef, .undef, .undef, .undef, .undef, .undef, .undef, .undef, .undef, .sc (.bool false), .ptr 0 0, .sc (.int .i64 (n)), .undef, .undef, .undef, .undef, .undef, .undef, .undef, .undef, .undef, .undef, .undef, .undef, .undef, .undef, .undef, .undef, .undef, .undef, .undef, .undef], [⟨[.sc (.int .i64 (T.n t)), .sl (tcs (T.ks t)) (List.length (T.ks t)) .any], 2, .fresh⟩]⟩ (by kernel_rfl) ?_
          refine AWP.exit ?_
          refine AWP.seq ?_
          refine AWP.kill [1, 2, 6, 17, 18, 19] ⟨[.undef, .undef, .undef, .undef, .sc (.int .i64 0), .sc (.int .i64 (y + T.n t)), .undef, .undef, .undef, .undef, .undef, .undef, .undef, .undef, .undef, .undef, .undef, .undef, .undef, .undef, .undef, .undef, .undef, .undef, .undef, .undef, .undef, .undef, .undef, .undef, .undef, .undef, .undef, .undef, .undef, .undef, .undef, .undef, .undef, .undef], [⟨[.sc (.int .i64 (T.n t)), .sl (tcs (T.ks t)) (List.length (T.ks t)) .any], 2, .fresh⟩]⟩ (by kernel_rfl) ?_
          refine AWP.reg ?_
          refine DerQ.run (TT 2) ⟨[U6, U6, U6, U6, (I6 (y + T.n t)), (I6 (y + T.n t))] ++ UU 33 ++ [(I6 (y + T.n t))], [⟨[(I6 (T.n t)), tl (T.ks t)], 2, .fresh⟩]⟩ (by kernel_rfl) (tt 2) ?_
          refine AWP.ret ?_
          refine EvF.fin (.sc (.int .i64 (y + T.n t))) _ (by simp) (by kernel_rfl) ?_
          refine Shrink.all ?_ rfl
          (rw [at_yes (by omega) hc, ← hy, at_end (by omega)]; done)
      · have h2' := of_decide_eq_true h2
        refine DerQ.run ((True) ∧ (True)) ⟨[.agg [(I6 n), tl ks], (I6 p), .ptr 0 0, U6, (I6 0), U6, U6, (I6 p), (B6 false), (B6 false), (I6 p), (B6 true), (B6 true), (B6 true), .tup [], .tup [], .tup [], (B6 true)] ++ UU 22, [⟨[(I6 n), tl ks], 2, .fresh⟩]⟩ (by kernel_rfl) ⟨trivial, trivial⟩ ?_
        refine AWP.kill [0, 7, 8, 9, 10, 11, 12, 13, 14, 15, 16] ⟨[.undef, .sc (.int .i64 (p)), .ptr 0 0, .undef, .sc (.int .i64 0), .undef, .undef, .undef, .undef, .undef, .undef, .undef, .undef, .undef, .undef, .undef, .undef, .sc (.bool true), .undef, .undef, .undef, .undef, .undef, .undef, .undef, .undef, .undef, .undef, .undef, .undef, .undef, .undef, .undef, .undef, .undef, .undef, .undef, .undef, .undef, .undef], [⟨[.sc (.int .i64 (n)), .sl (tcs ks) (List.length ks) .any], 2, .fresh⟩]⟩ (by kernel_rfl) ?_
        refine AWP.cond (b := true) (by kernel_rfl) (fun _ => ?_) (fun h => nomatch h)
        refine AWP.seq ?_
        refine AWP.reg ?_
        refine DerQ.run ((True) ∧ (True)) ⟨[U6, (I6 p), .ptr 0 0, U6, (I6 0)] ++ UU 12 ++ [(B6 true)] ++ UU 22, [⟨[(I6 n), tl ks], 2, .fresh⟩]⟩ (by kernel_rfl) ⟨trivial, trivial⟩ ?_
        refine AWP.ret ?_
        refine EvF.fin (.sc (.int .i64 0)) _ (by simp) (by kernel_rfl) ?_
        refine Shrink.all ?_ rfl
        (exact at_no1 (by omega); done)
    · have h1' := of_decide_eq_true h1
      refine DerQ.run (TT 3) ⟨[.agg [(I6 n), tl ks], (I6 p), .ptr 0 0, U6, (I6 0), U6, U6, (I6 p), (B6 true), (B6 true), .tup [], .tup [], (B6 true), (B6 true), .tup [], .tup [], .tup [], (B6 true)] ++ UU 22, [⟨[(I6 n), tl ks], 2, .fresh⟩]⟩ (by kernel_rfl) (tt 3) ?_
      refine AWP.kill [0, 7, 8, 9, 10, 11, 12, 13, 14, 15, 16] ⟨[.undef, .sc (.int .i64 (p)), .ptr 0 0, .undef, .sc (.int .i64 0), .undef, .undef, .undef, .undef, .undef, .undef, .undef, .undef, .undef, .undef, .undef, .undef, .sc (.bool true), .undef, .undef, .undef, .undef, .undef, .undef, .undef, .undef, .undef, .undef, .undef, .undef, .undef, .undef, .undef, .undef, .undef, .undef, .undef, .undef, .undef, .undef], [⟨[.sc (.int .i64 (n)), .sl (tcs ks) (List.length ks) .any], 2, .fresh⟩]⟩ (by kernel_rfl) ?_
      refine AWP.cond (b := true) (by kernel_rfl) (fun _ => ?_) (fun h => nomatch h)
      refine AWP.seq ?_
      refine AWP.reg ?_
      refine DerQ.run ((True) ∧ (True)) ⟨[U6, (I6 p), .ptr 0 0, U6, (I6 0)] ++ UU 12 ++ [(B6 true)] ++ UU 22, [⟨[(I6 n), tl ks], 2, .fresh⟩]⟩ (by kernel_rfl) ⟨trivial, trivial⟩ ?_
      refine AWP.ret ?_
      refine EvF.fin (.sc (.int .i64 0)) _ (by simp) (by kernel_rfl) ?_
      refine Shrink.all ?_ rfl
      (exact at_no1 (by omega); done)
theorem e_min (N : Nat) : ∀ (n : Int) (ks : List T) (d l : Int), size (.mk n ks) ≤ N → roughE d l (.mk n ks) = true → l ≤ 2000000000 → EvD Try.prog 79 [.agg [.sc (.int .i64 n), .sl (tcs ks) ks.length .any], .fn 80 []] (.sc (.int .i64 (endE false (.mk n ks)))) := by
  induction N with
  | zero => intro n ks d l h; rw [size] at h; omega
  | succ N ih =>
    intro n ks d l hN hb hl
    rcases bin_case (roughE_bin _ _ _ hb) with rfl | ⟨n1, k1, n2, k2, rfl⟩
    · refine EvD.body Try.func79 rfl rfl rfl ?_
      refine AWP.seq ?_
      refine AWP.reg ?_
      refine DerQ.run (TT 2) ⟨[.agg [(I6 n), .sl [] 0 .any], .fn 80 [], .ptr 0 0, U6, (I6 0)] ++ UU 23, [⟨[(I6 n), .sl [] 0 .any], 2, .fresh⟩]⟩ (by kernel_rfl) (tt 2) ?_
      refine AWP.seq ?_
      refine AWP.seq ?_
      refine AWP.reg ?_
      refine DerQ.run ((True) ∧ (((1 : Nat) < (2 : Nat)) ∧ ((True) ∧ ((True) ∧ (True))))) ⟨[.agg [(I6 n), .sl [] 0 .any], .fn 80 [], .ptr 0 0, U6, (I6 0), .ptr 0 1, .sl [] 0 .any, (I6 0), (B6 true)] ++ UU 19, [⟨[(I6 n), .sl [] 0 .any], 2, .fresh⟩]⟩ (by kernel_rfl) ⟨trivial, ⟨(by omega), ⟨trivial, ⟨trivial, trivial⟩⟩⟩⟩ ?_
      refine AWP.kill [0, 5, 6, 7] ⟨[.undef, .fn 80 [], .ptr 0 0, .undef, .sc (.int .i64 0), .undef, .undef, .undef, .sc (.bool true), .undef, .undef, .undef, .undef, .undef, .undef, .undef, .undef, .undef, .undef, .undef, .undef, .undef, .undef, .undef, .undef, .undef, .undef, .undef], [⟨[.sc (.int .i64 (n)), .sl [] 0 .any], 2, .fresh⟩]⟩ (by kernel_rfl) ?_
      refine AWP.cond (b := true) (by kernel_rfl) (fun _ => ?_) (fun h => nomatch h)
      refine AWP.seq ?_
      refine AWP.reg ?_
      refine DerQ.run ((True) ∧ (((0 : Nat) < (2 : Nat)) ∧ ((True) ∧ (True)))) ⟨[U6, .fn 80 [], .ptr 0 0, U6, (I6 n), U6, U6, U6, (B6 true), .ptr 0 0, (I6 n)] ++ UU 17, [⟨[(I6 n), .sl [] 0 .any], 2, .fresh⟩]⟩ (by kernel_rfl) ⟨trivial, ⟨(by omega), ⟨trivial, trivial⟩⟩⟩ ?_
      refine AWP.ret ?_
      refine EvF.fin (.sc (.int .i64 (n))) _ (by simp) (by kernel_rfl) ?_
      exact Shrink.all rfl rfl
    · obtain ⟨g1, g2, g3, g4, g5⟩ := roughE_kids hb
      simp only [size, sizes] at hN
      have i1 := ih n1 k1 (d - 1) (l - n) (by rw [size]; omega) g4 (by omega)
      have i2 := ih n2 k2 (d - 1) (l - n) (by rw [size]; omega) g5 (by omega)
      have r1 := end_rng false _ _ _ g4
      have r2 := end_rng false _ _ _ g5
      rw [tcs2]
      refine EvD.body Try.func79 rfl rfl rfl ?_
      refine AWP.seq ?_
      refine AWP.reg ?_
      refine DerQ.run (TT 2) ⟨[.agg [(I6 n), .sl [(I6 n1), tl k1, (I6 n2), tl k2] 2 .any], .fn 80 [], .ptr 0 0, U6, (I6 0)] ++ UU 23, [⟨[(I6 n), .sl [(I6 n1), tl k1, (I6 n2), tl k2] 2 .any], 2, .fresh⟩]⟩ (by kernel_rfl) (tt 2) ?_
      refine AWP.seq ?_
      refine AWP.seq ?_
      refine AWP.reg ?_
      refine DerQ.run ((True) ∧ (((1 : Nat) < (2 : Nat)) ∧ ((True) ∧ ((True) ∧ (True))))) ⟨[.agg [(I6 n), .sl [(I6 n1), tl k1, (I6 n2), tl k2] 2 .any], .fn 80 [], .ptr 0 0, U6, (I6 0), .ptr 0 1, .sl [(I6 n1), tl k1, (I6 n2), tl k2] 2 .any, (I6 2), (B6 false)] ++ UU 19, [⟨[(I6 n), .sl [(I6 n1), tl k1, (I6 n2), tl k2] 2 .any], 2, .fresh⟩]⟩ (by kernel_rfl) ⟨trivial, ⟨(by omega), ⟨trivial, ⟨trivial, trivial⟩⟩⟩⟩ ?_
      refine AWP.kill [0, 5, 6, 7] ⟨[.undef, .fn 80 [], .ptr 0 0, .undef, .sc (.int .i64 0), .undef, .undef, .undef, .sc (.bool false), .undef, .undef, .undef, .undef, .undef, .undef, .undef, .undef, .undef, .undef, .undef, .undef, .undef, .undef, .undef, .undef, .undef, .undef, .undef], [⟨[.sc (.int .i64 (n)), .sl [.sc (.int .i64 (n1)), .sl (tcs k1) (List.length k1) .any, .sc (.int .i64 (n2)), .sl (tcs k2) (List.length k2) .any] 2 .any], 2, .fresh⟩]⟩ (by kernel_rfl) ?_
      refine AWP.cond (b := false) (by kernel_rfl) (fun h => nomatch h) (fun _ => ?_)
      refine AWP.skip ?_
      refine AWP.seq ?_
      refine AWP.drawX mixed (fun o => [26, 19, 25].contains (o.dst.getD 0)) (by kernel_rfl) ?_
      refine DerX.pre 8 ((True) ∧ (((0 : Nat) < (2 : Nat)) ∧ ((True) ∧ ((True) ∧ (((1 : Nat) < (2 : Nat)) ∧ (((((0 : Int) ≤ (0 : Int)) ∧ ((0 : Int) < (2 : Int))) ∧ ((2 : Nat) ≤ (4 : Nat))) ∧ (((2 : Nat) ≤ (2 : Nat)) ∧ ((True) ∧ (True))))))))) [.ptr 0 0, (I6 n), .fn 80 [], .ptr 0 1, .sl [(I6 n1), tl k1, (I6 n2), tl k2] 2 .any, .dptr [(I6 n1), tl k1], .agg [(I6 n1), tl k1], .fn 80 []] ⟨[U6, .fn 80 [], .ptr 0 0, U6, (I6 0), U6, U6, U6, (B6 false), U6, U6, .ptr 0 0, (I6 n), .fn 80 [], .ptr 0 1, .sl [(I6 n1), tl k1, (I6 n2), tl k2] 2 .any, .dptr [(I6 n1), tl k1], .agg [(I6 n1), tl k1], .fn 80 []] ++ UU 9, [⟨[(I6 n), .sl [(I6 n1), tl k1, (I6 n2), tl k2] 2 .any], 2, .fresh⟩]⟩ (by intro ext; kernel_rfl) (by kernel_rfl) ⟨trivial, ⟨(by omega), ⟨trivial, ⟨trivial, ⟨(by omega), ⟨⟨⟨(by omega), (by omega)⟩, (by omega)⟩, ⟨(by omega), ⟨trivial, trivial⟩⟩⟩⟩⟩⟩⟩⟩ ?_
      refine DerX.callD (i1) ⟨[U6, .fn 80 [], .ptr 0 0, U6, (I6 0), U6, U6, U6, (B6 false), U6, U6, .ptr 0 0, (I6 n), .fn 80 [], .ptr 0 1, .sl [(I6 n1), tl k1, (I6 n2), tl k2] 2 .any, .dptr [(I6 n1), tl k1], .agg [(I6 n1), tl k1], .fn 80 [], (I6 (endE false (T.mk n1 k1)))] ++ UU 8, [⟨[(I6 n), .sl [(I6 n1), tl k1, (I6 n2), tl k2] 2 .any], 2, .fresh⟩]⟩ ⟨by kernel_rfl, by kernel_rfl, by kernel_rfl⟩ ?_
      refine DerX.pre 5 ((True) ∧ (((1 : Nat) < (2 : Nat)) ∧ (((((0 : Int) ≤ (1 : Int)) ∧ ((1 : Int) < (2 : Int))) ∧ ((4 : Nat) ≤ (4 : Nat))) ∧ (((2 : Nat) ≤ (2 : Nat)) ∧ ((True) ∧ (True)))))) [.ptr 0 1, .sl [(I6 n1), tl k1, (I6 n2), tl k2] 2 .any, .dptr [(I6 n2), tl k2], .agg [(I6 n2), tl k2], .fn 80 []] ⟨[U6, .fn 80 [], .ptr 0 0, U6, (I6 0), U6, U6, U6, (B6 false), U6, U6, .ptr 0 0, (I6 n), .fn 80 [], .ptr 0 1, .sl [(I6 n1), tl k1, (I6 n2), tl k2] 2 .any, .dptr [(I6 n1), tl k1], .agg [(I6 n1), tl k1], .fn 80 [], (I6 (endE false (T.mk n1 k1))), .ptr 0 1, .sl [(I6 n1), tl k1, (I6 n2), tl k2] 2 .any, .dptr [(I6 n2), tl k2], .agg [(I6 n2), tl k2], .fn 80 [], U6, U6, .undef], [⟨[(I6 n), .sl [(I6 n1), tl k1, (I6 n2), tl k2] 2 .any], 2, .fresh⟩]⟩ (by intro ext; kernel_rfl) (by kernel_rfl) ⟨trivial, ⟨(by omega), ⟨⟨⟨(by omega), (by omega)⟩, (by omega)⟩, ⟨(by omega), ⟨trivial, trivial⟩⟩⟩⟩⟩ ?_
      refine DerX.callD (i2) ⟨[U6, .fn 80 [], .ptr 0 0, U6, (I6 0), U6, U6, U6, (B6 false), U6, U6, .ptr 0 0, (I6 n), .fn 80 [], .ptr 0 1, .sl [(I6 n1), tl k1, (I6 n2), tl k2] 2 .any, .dptr [(I6 n1), tl k1], .agg [(I6 n1), tl k1], .fn 80 [], (I6 (endE false (T.mk n1 k1))), .ptr 0 1, .sl [(I6 n1), tl k1, (I6 n2), tl k2] 2 .any, .dptr [(I6 n2), tl k2], .agg [(I6 n2), tl k2], .fn 80 [], (I6 (endE false (T.mk n2 k2))), U6, .undef], [⟨[(I6 n), .sl [(I6 n1), tl k1, (I6 n2), tl k2] 2 .any], 2, .fresh⟩]⟩ ⟨by kernel_rfl, by kernel_rfl, by kernel_rfl⟩ ?_
      refine DerX.callD (min1 (endE false (T.mk n1 k1)) (endE false (T.mk n2 k2))) ⟨[U6, .fn 80 [], .ptr 0 0, U6, (I6 0), U6, U6, U6, (B6 false), U6, U6, .ptr 0 0, (I6 n), .fn 80 [], .ptr 0 1, .sl [(I6 n1), tl k1, (I6 n2), tl k2] 2 .any, .dptr [(I6 n1), tl k1], .agg [(I6 n1), tl k1], .fn 80 [], (I6 (endE false (T.mk n1 k1))), .ptr 0 1, .sl [(I6 n1), tl k1, (I6 n2), tl k2] 2 .any, .dptr [(I6 n2), tl k2], .agg [(I6 n2), tl k2], .fn 80 [], (I6 (endE false (T.mk n2 k2))), (I6 (min (endE false (T.mk n1 k1)) (endE false (T.mk n2 k2)))), .undef], [⟨[(I6 n), .sl [(I6 n1), tl k1, (I6 n2), tl k2] 2 .any], 2, .fresh⟩]⟩ ⟨by kernel_rfl, by kernel_rfl, by kernel_rfl⟩ ?_
      refine DerX.pre 2 (TT 2) [(I6 (IntKind.wrap IntKind.i64 (n + min (endE false (T.mk n1 k1)) (endE false (T.mk n2 k2))))), (I6 (IntKind.wrap IntKind.i64 (n + min (endE false (T.mk n1 k1)) (endE false (T.mk n2 k2)))))] ⟨[U6, .fn 80 [], .ptr 0 0, U6, (I6 (IntKind.wrap IntKind.i64 (n + min (endE false (T.mk n1 k1)) (endE false (T.mk n2 k2))))), U6, U6, U6, (B6 false), U6, U6, .ptr 0 0, (I6 n), .fn 80 [], .ptr 0 1, .sl [(I6 n1), tl k1, (I6 n2), tl k2] 2 .any, .dptr [(I6 n1), tl k1], .agg [(I6 n1), tl k1], .fn 80 [], (I6 (endE false (T.mk n1 k1))), .ptr 0 1, .sl [(I6 n1), tl k1, (I6 n2), tl k2] 2 .any, .dptr [(I6 n2), tl k2], .agg [(I6 n2), tl k2], .fn 80 [], (I6 (endE false (T.mk n2 k2))), (I6 (min (endE false (T.mk n1 k1)) (endE false (T.mk n2 k2)))), (I6 (IntKind.wrap IntKind.i64 (n + min (endE false (T.mk n1 k1)) (endE false (T.mk n2 k2)))))], [⟨[(I6 n), .sl [(I6 n1), tl k1, (I6 n2), tl k2] 2 .any], 2, .fresh⟩]⟩ (by intro ext; kernel_rfl) (by kernel_rfl) (tt 2) ?_
      rw [IntWalk.i64_in (n + min (endE false (T.mk n1 k1)) (endE false (T.mk n2 k2))) (by omega)]
      refine DerX.nil ?_
      refine AWP.kill [1, 2, 8, 11, 12, 13, 14, 15, 16, 17, 18, 19, 20, 21, 22, 23, 24, 25, 26, 27] ⟨[.undef, .undef, .undef, .undef, .sc (.int .i64 (n + min (endE false (T.mk n1 k1)) (endE false (T.mk n2 k2)))), .undef, .undef, .undef, .undef, .undef, .undef, .undef, .undef, .undef, .undef, .undef, .undef, .undef, .undef, .undef, .undef, .undef, .undef, .undef, .undef, .undef, .undef, .undef], [⟨[.sc (.int .i64 (n)), .sl [.sc (.int .i64 (n1)), .sl (tcs k1) (List.length k1) .any, .sc (.int .i64 (n2)), .sl (tcs k2) (List.length k2) .any] 2 .any], 2, .fresh⟩]⟩ (by kernel_rfl) ?_
      refine AWP.ret ?_
      refine EvF.fin (.sc (.int .i64 (n + min (endE false (T.mk n1 k1)) (endE false (T.mk n2 k2))))) _ (by simp) (by kernel_rfl) ?_
      exact Shrink.all rfl rfl
theorem e_max (N : Nat) : ∀ (n : Int) (ks : List T) (d l : Int), size (.mk n ks) ≤ N → roughE d l (.mk n ks) = true → l ≤ 2000000000 → EvD Try.prog 79 [.agg [.sc (.int .i64 n), .sl (tcs ks) ks.length .any], .fn 82 []] (.sc (.int .i64 (endE true (.mk n ks)))) := by
  induction N with
  | zero => intro n ks d l h; rw [size] at h; omega
  | succ N ih =>
    intro n ks d l hN hb hl
    rcases bin_case (roughE_bin _ _ _ hb) with rfl | ⟨n1, k1, n2, k2, rfl⟩
    · refine EvD.body Try.func79 rfl rfl rfl ?_
      refine AWP.seq ?_
      refine AWP.reg ?_
      refine DerQ.run (TT 2) ⟨[.agg [(I6 n), .sl [] 0 .any], .fn 82 [], .ptr 0 0, U6, (I6 0)] ++ UU 23, [⟨[(I6 n), .sl [] 0 .any], 2, .fresh⟩]⟩ (by kernel_rfl) (tt 2) ?_
      refine AWP.seq ?_
      refine AWP.seq ?_
      refine AWP.reg ?_
      refine DerQ.run ((True) ∧ (((1 : Nat) < (2 : Nat)) ∧ ((True) ∧ ((True) ∧ (True))))) ⟨[.agg [(I6 n), .sl [] 0 .any], .fn 82 [], .ptr 0 0, U6, (I6 0), .ptr 0 1, .sl [] 0 .any, (I6 0), (B6 true)] ++ UU 19, [⟨[(I6 n), .sl [] 0 .any], 2, .fresh⟩]⟩ (by kernel_rfl) ⟨trivial, ⟨(by omega), ⟨trivial, ⟨trivial, trivial⟩⟩⟩⟩ ?_
      refine AWP.kill [0, 5, 6, 7] ⟨[.undef, .fn 82 [], .ptr 0 0, .undef, .sc (.int .i64 0), .undef, .undef, .undef, .sc (.bool true), .undef, .undef, .undef, .undef, .undef, .undef, .undef, .undef, .undef, .undef, .undef, .undef, .undef, .undef, .undef, .undef, .undef, .undef, .undef], [⟨[.sc (.int .i64 (n)), .sl [] 0 .any], 2, .fresh⟩]⟩ (by kernel_rfl) ?_
      refine AWP.cond (b := true) (by kernel_rfl) (fun _ => ?_) (fun h => nomatch h)
      refine AWP.seq ?_
      refine AWP.reg ?_
      refine DerQ.run ((True) ∧ (((0 : Nat) < (2 : Nat)) ∧ ((True) ∧ (True)))) ⟨[U6, .fn 82 [], .ptr 0 0, U6, (I6 n), U6, U6, U6, (B6 true), .ptr 0 0, (I6 n)] ++ UU 17, [⟨[(I6 n), .sl [] 0 .any], 2, .fresh⟩]⟩ (by kernel_rfl) ⟨trivial, ⟨(by omega), ⟨trivial, trivial⟩⟩⟩ ?_
      refine AWP.ret ?_
      refine EvF.fin (.sc (.int .i64 (n))) _ (by simp) (by kernel_rfl) ?_
      exact Shrink.all rfl rfl
    · obtain ⟨g1, g2, g3, g4, g5⟩ := roughE_kids hb
      simp only [size, sizes] at hN
      have i1 := ih n1 k1 (d - 1) (l - n) (by rw [size]; omega) g4 (by omega)
      have i2 := ih n2 k2 (d - 1) (l - n) (by rw [size]; omega) g5 (by omega)
      have r1 := end_rng true _ _ _ g4
      have r2 := end_rng true _ _ _ g5
      rw [tcs2]
      refine EvD.body Try.func79 rfl rfl rfl ?_
      refine AWP.seq ?_
      refine AWP.reg ?_
      refine DerQ.run (TT 2) ⟨[.agg [(I6 n), .sl [(I6 n1), tl k1, (I6 n2), tl k2] 2 .any], .fn 82 [], .ptr 0 0, U6, (I6 0)] ++ UU 23, [⟨[(I6 n), .sl [(I6 n1), tl k1, (I6 n2), tl k2] 2 .any], 2, .fresh⟩]⟩ (by kernel_rfl) (tt 2) ?_
      refine AWP.seq ?_
      refine AWP.seq ?_
      refine AWP.reg ?_
      refine DerQ.run ((True) ∧ (((1 : Nat) < (2 : Nat)) ∧ ((True) ∧ ((True) ∧ (True))))) ⟨[.agg [(I6 n), .sl [(I6 n1), tl k1, (I6 n2), tl k2] 2 .any], .fn 82 [], .ptr 0 0, U6, (I6 0), .ptr 0 1, .sl [(I6 n1), tl k1, (I6 n2), tl k2] 2 .any, (I6 2), (B6 false)] ++ UU 19, [⟨[(I6 n), .sl [(I6 n1), tl k1, (I6 n2), tl k2] 2 .any], 2, .fresh⟩]⟩ (by kernel_rfl) ⟨trivial, ⟨(by omega), ⟨trivial, ⟨trivial, trivial⟩⟩⟩⟩ ?_
      refine AWP.kill [0, 5, 6, 7] ⟨[.undef, .fn 82 [], .ptr 0 0, .undef, .sc (.int .i64 0), .undef, .undef, .undef, .sc (.bool false), .undef, .undef, .undef, .undef, .undef, .undef, .undef, .undef, .undef, .undef, .undef, .undef, .undef, .undef, .undef, .undef, .undef, .undef, .undef], [⟨[.sc (.int .i64 (n)), .sl [.sc (.int .i64 (n1)), .sl (tcs k1) (List.length k1) .any, .sc (.int .i64 (n2)), .sl (tcs k2) (List.length k2) .any] 2 .any], 2, .fresh⟩]⟩ (by kernel_rfl) ?_
      refine AWP.cond (b := false) (by kernel_rfl) (fun h => nomatch h) (fun _ => ?_)
      refine AWP.skip ?_
      refine AWP.seq ?_
      refine AWP.drawX mixed (fun o => [26, 19, 25].contains (o.dst.getD 0)) (by kernel_rfl) ?_
      refine DerX.pre 8 ((True) ∧ (((0 : Nat) < (2 : Nat)) ∧ ((True) ∧ ((True) ∧ (((1 : Nat) < (2 : Nat)) ∧ (((((0 : Int) ≤ (0 : Int)) ∧ ((0 : Int) < (2 : Int))) ∧ ((2 : Nat) ≤ (4 : Nat))) ∧ (((2 : Nat) ≤ (2 : Nat)) ∧ ((True) ∧ (True))))))))) [.ptr 0 0, (I6 n), .fn 82 [], .ptr 0 1, .sl [(I6 n1), tl k1, (I6 n2), tl k2] 2 .any, .dptr [(I6 n1), tl k1], .agg [(I6 n1), tl k1], .fn 82 []] ⟨[U6, .fn 82 [], .ptr 0 0, U6, (I6 0), U6, U6, U6, (B6 false), U6, U6, .ptr 0 0, (I6 n), .fn 82 [], .ptr 0 1, .sl [(I6 n1), tl k1, (I6 n2), tl k2] 2 .any, .dptr [(I6 n1), tl k1], .agg [(I6 n1), tl k1], .fn 82 []] ++ UU 9, [⟨[(I6 n), .sl [(I6 n1), tl k1, (I6 n2), tl k2] 2 .any], 2, .fresh⟩]⟩ (by intro ext; kernel_rfl) (by kernel_rfl) ⟨trivial, ⟨(by omega), ⟨trivial, ⟨trivial, ⟨(by omega), ⟨⟨⟨(by omega), (by omega)⟩, (by omega)⟩, ⟨(by omega), ⟨trivial, trivial⟩⟩⟩⟩⟩⟩⟩⟩ ?_
      refine DerX.callD (i1) ⟨[U6, .fn 82 [], .ptr 0 0, U6, (I6 0), U6, U6, U6, (B6 false), U6, U6, .ptr 0 0, (I6 n), .fn 82 [], .ptr 0 1, .sl [(I6 n1), tl k1, (I6 n2), tl k2] 2 .any, .dptr [(I6 n1), tl k1], .agg [(I6 n1), tl k1], .fn 82 [], (I6 (endE true (T.mk n1 k1)))] ++ UU 8, [⟨[(I6 n), .sl [(I6 n1), tl k1, (I6 n2), tl k2] 2 .any], 2, .fresh⟩]⟩ ⟨by kernel_rfl, by kernel_rfl, by kernel_rfl⟩ ?_
      refine DerX.pre 5 ((True) ∧ (((1 : Nat) < (2 : Nat)) ∧ (((((0 : Int) ≤ (1 : Int)) ∧ ((1 : Int) < (2 : Int))) ∧ ((4 : Nat) ≤ (4 : Nat))) ∧ (((2 : Nat) ≤ (2 : Nat)) ∧ ((True) ∧ (True)))))) [.ptr 0 1, .sl [(I6 n1), tl k1, (I6 n2), tl k2] 2 .any, .dptr [(I6 n2), tl k2], .agg [(I6 n2), tl k2], .fn 82 []] ⟨[U6, .fn 82 [], .ptr 0 0, U6, (I6 0), U6, U6, U6, (B6 false), U6, U6, .ptr 0 0, (I6 n), .fn 82 [], .ptr 0 1, .sl [(I6 n1), tl k1, (I6 n2), tl k2] 2 .any, .dptr [(I6 n1), tl k1], .agg [(I6 n1), tl k1], .fn 82 [], (I6 (endE true (T.mk n1 k1))), .ptr 0 1, .sl [(I6 n1), tl k1, (I6 n2), tl k2] 2 .any, .dptr [(I6 n2), tl k2], .agg [(I6 n2), tl k2], .fn 82 [], U6, U6, .undef], [⟨[(I6 n), .sl [(I6 n1), tl k1, (I6 n2), tl k2] 2 .any], 2, .fresh⟩]⟩ (by intro ext; kernel_rfl) (by kernel_rfl) ⟨trivial, ⟨(by omega), ⟨⟨⟨(by omega), (by omega)⟩, (by omega)⟩, ⟨(by omega), ⟨trivial, trivial⟩⟩⟩⟩⟩ ?_
      refine DerX.callD (i2) ⟨[U6, .fn 82 [], .ptr 0 0, U6, (I6 0), U6, U6, U6, (B6 false), U6, U6, .ptr 0 0, (I6 n), .fn 82 [], .ptr 0 1, .sl [(I6 n1), tl k1, (I6 n2), tl k2] 2 .any, .dptr [(I6 n1), tl k1], .agg [(I6 n1), tl k1], .fn 82 [], (I6 (endE true (T.mk n1 k1))), .ptr 0 1, .sl [(I6 n1), tl k1, (I6 n2), tl k2] 2 .any, .dptr [(I6 n2), tl k2], .agg [(I6 n2), tl k2], .fn 82 [], (I6 (endE true (T.mk n2 k2))), U6, .undef], [⟨[(I6 n), .sl [(I6 n1), tl k1, (I6 n2), tl k2] 2 .any], 2, .fresh⟩]⟩ ⟨by kernel_rfl, by kernel_rfl, by kernel_rfl⟩ ?_
      refine DerX.callD (max1 (endE true (T.mk n1 k1)) (endE true (T.mk n2 k2))) ⟨[U6, .fn 82 [], .ptr 0 0, U6, (I6 0), U6, U6, U6, (B6 false), U6, U6, .ptr 0 0, (I6 n), .fn 82 [], .ptr 0 1, .sl [(I6 n1), tl k1, (I6 n2), tl k2] 2 .any, .dptr [(I6 n1), tl k1], .agg [(I6 n1), tl k1], .fn 82 [], (I6 (endE true (T.mk n1 k1))), .ptr 0 1, .sl [(I6 n1), tl k1, (I6 n2), tl k2] 2 .any, .dptr [(I6 n2), tl k2], .agg [(I6 n2), tl k2], .fn 82 [], (I6 (endE true (T.mk n2 k2))), (I6 (max (endE true (T.mk n1 k1)) (endE true (T.mk n2 k2)))), .undef], [⟨[(I6 n), .sl [(I6 n1), tl k1, (I6 n2), tl k2] 2 .any], 2, .fresh⟩]⟩ ⟨by kernel_rfl, by kernel_rfl, by kernel_rfl⟩ ?_
      refine DerX.pre 2 (TT 2) [(I6 (IntKind.wrap IntKind.i64 (n + max (endE true (T.mk n1 k1)) (endE true (T.mk n2 k2))))), (I6 (IntKind.wrap IntKind.i64 (n + max (endE true (T.mk n1 k1)) (endE true (T.mk n2 k2)))))] ⟨[U6, .fn 82 [], .ptr 0 0, U6, (I6 (IntKind.wrap IntKind.i64 (n + max (endE true (T.mk n1 k1)) (endE true (T.mk n2 k2))))), U6, U6, U6, (B6 false), U6, U6, .ptr 0 0, (I6 n), .fn 82 [], .ptr 0 1, .sl [(I6 n1), tl k1, (I6 n2), tl k2] 2 .any, .dptr [(I6 n1), tl k1], .agg [(I6 n1), tl k1], .fn 82 [], (I6 (endE true (T.mk n1 k1))), .ptr 0 1, .sl [(I6 n1), tl k1, (I6 n2), tl k2] 2 .any, .dptr [(I6 n2), tl k2], .agg [(I6 n2), tl k2], .fn 82 [], (I6 (endE true (T.mk n2 k2))), (I6 (max (endE true (T.mk n1 k1)) (endE true (T.mk n2 k2)))), (I6 (IntKind.wrap IntKind.i64 (n + max (endE true (T.mk n1 k1)) (endE true (T.mk n2 k2)))))], [⟨[(I6 n), .sl [(I6 n1), tl k1, (I6 n2), tl k2] 2 .any], 2, .fresh⟩]⟩ (by intro ext; kernel_rfl) (by kernel_rfl) (tt 2) ?_
      rw [IntWalk.i64_in (n + max (endE true (T.mk n1 k1)) (endE true (T.mk n2 k2))) (by omega)]
      refine DerX.nil ?_
      refine AWP.kill [1, 2, 8, 11, 12, 13, 14, 15, 16, 17, 18, 19, 20, 21, 22, 23, 24, 25, 26, 27] ⟨[.undef, .undef, .undef, .undef, .sc (.int .i64 (n + max (endE true (T.mk n1 k1)) (endE true (T.mk n2 k2)))), .undef, .undef, .undef, .undef, .undef, .undef, .undef, .undef, .undef, .undef, .undef, .undef, .undef, .undef, .undef, .undef, .undef, .undef, .undef, .undef, .undef, .undef, .undef], [⟨[.sc (.int .i64 (n)), .sl [.sc (.int .i64 (n1)), .sl (tcs k1) (List.length k1) .any, .sc (.int .i64 (n2)), .sl (tcs k2) (List.length k2) .any] 2 .any], 2, .fresh⟩]⟩ (by kernel_rfl) ?_
      refine AWP.ret ?_
      refine EvF.fin (.sc (.int .i64 (n + max (endE true (T.mk n1 k1)) (endE true (T.mk n2 k2))))) _ (by simp) (by kernel_rfl) ?_
      exact Shrink.all rfl rfl
theorem e_Least (n : Int) (ks : List T) (hN : size (.mk n ks) ≤ 1000000) : EvD Try.prog 28 [.agg [.sc (.int .i64 n), .sl (tcs ks) ks.length .any]] (.sc (.int .i64 (endP false (.mk n ks)))) := by
  have q1 := e_check n ks hN
  cases hc : checkE (.mk n ks)
  · rw [hc] at q1
    refine EvD.body Try.func28 rfl rfl rfl ?_
    refine AWP.seq ?_
    refine AWP.reg ?_
    refine DerQ.run (TT 2) ⟨[.agg [(I6 n), tl ks], .ptr 0 0, (I6 0)] ++ UU 5, [⟨[(I6 n), tl ks], 2, .fresh⟩]⟩ (by kernel_rfl) (tt 2) ?_
    refine AWP.seq ?_
    refine AWP.seq ?_
    refine AWP.reg ?_
    refine DerQ.pre 1 (((2 : Nat) ≤ (2 : Nat)) ∧ (True)) ⟨[.agg [(I6 n), tl ks], .ptr 0 0, (I6 0), .agg [(I6 n), tl ks], U6, U6, U6, .undef], [⟨[(I6 n), tl ks], 2, .fresh⟩]⟩ (by kernel_rfl) ⟨(by omega), trivial⟩ ?_
    refine DerQ.callD (q1) ⟨[.agg [(I6 n), tl ks], .ptr 0 0, (I6 0), .agg [(I6 n), tl ks], (B6 false), U6, U6, .undef], [⟨[(I6 n), tl ks], 2, .fresh⟩]⟩ ⟨by kernel_rfl, by kernel_rfl, by kernel_rfl⟩ ?_
    refine DerQ.run ((True) ∧ (True)) ⟨[.agg [(I6 n), tl ks], .ptr 0 0, (I6 0), .agg [(I6 n), tl ks], (B6 false), (B6 true), U6, .undef], [⟨[(I6 n), tl ks], 2, .fresh⟩]⟩ (by kernel_rfl) ⟨trivial, trivial⟩ ?_
    refine AWP.cond (b := true) (by kernel_rfl) (fun _ => ?_) (fun h => nomatch h)
    refine AWP.seq ?_
    refine AWP.kill [0, 3, 4, 5] ⟨[.undef, .ptr 0 0, .sc (.int .i64 0), .undef, .undef, .undef, .undef, .undef], [⟨[.sc (.int .i64 (n)), .sl (tcs ks) (List.length ks) .any], 2, .fresh⟩]⟩ (by kernel_rfl) ?_
    refine AWP.reg ?_
    refine DerQ.run ((True) ∧ (True)) ⟨[U6, .ptr 0 0, (I6 0)] ++ UU 5, [⟨[(I6 n), tl ks], 2, .fresh⟩]⟩ (by kernel_rfl) ⟨trivial, trivial⟩ ?_
    refine AWP.ret ?_
    refine EvF.fin (.sc (.int .i64 0)) _ (by simp) (by kernel_rfl) ?_
    refine Shrink.all ?_ rfl
    (rw [endP, if_neg (by rw [hc]; simp)]; done)
  · rw [hc] at q1
    have q2 := e_min 1000000 n ks 16 1073741824 hN (checkE_rough hc) (by omega)
    refine EvD.body Try.func28 rfl rfl rfl ?_
    refine AWP.seq ?_
    refine AWP.reg ?_
    refine DerQ.run (TT 2) ⟨[.agg [(I6 n), tl ks], .ptr 0 0, (I6 0)] ++ UU 5, [⟨[(I6 n), tl ks], 2, .fresh⟩]⟩ (by kernel_rfl) (tt 2) ?_
    refine AWP.seq ?_
    refine AWP.seq ?_
    refine AWP.reg ?_
    refine DerQ.pre 1 (((2 : Nat) ≤ (2 : Nat)) ∧ (True)) ⟨[.agg [(I6 n), tl ks], .ptr 0 0, (I6 0), .agg [(I6 n), tl ks], U6, U6, U6, .undef], [⟨[(I6 n), tl ks], 2, .fresh⟩]⟩ (by kernel_rfl) ⟨(by omega), trivial⟩ ?_
    refine DerQ.callD (q1) ⟨[.agg [(I6 n), tl ks], .ptr 0 0, (I6 0), .agg [(I6 n), tl ks], (B6 true), U6, U6, .undef], [⟨[(I6 n), tl ks], 2, .fresh⟩]⟩ ⟨by kernel_rfl, by kernel_rfl, by kernel_rfl⟩ ?_
    refine DerQ.run ((True) ∧ (True)) ⟨[.agg [(I6 n), tl ks], .ptr 0 0, (I6 0), .agg [(I6 n), tl ks], (B6 true), (B6 false), U6, .undef], [⟨[(I6 n), tl ks], 2, .fresh⟩]⟩ (by kernel_rfl) ⟨trivial, trivial⟩ ?_
    refine AWP.cond (b := false) (by kernel_rfl) (fun h => nomatch h) (fun _ => ?_)
    refine AWP.kill [0, 3, 4, 5] ⟨[.undef, .ptr 0 0, .sc (.int .i64 0), .undef, .undef, .undef, .undef, .undef], [⟨[.sc (.int .i64 (n)), .sl (tcs ks) (List.length ks) .any], 2, .fresh⟩]⟩ (by kernel_rfl) ?_
    refine AWP.skip ?_
    refine AWP.seq ?_
    refine AWP.reg ?_
    refine DerQ.pre 1 (((2 : Nat) ≤ (2 : Nat)) ∧ (True)) ⟨[U6, .ptr 0 0, (I6 0), U6, U6, U6, .agg [(I6 n), tl ks], .undef], [⟨[(I6 n), tl ks], 2, .fresh⟩]⟩ (by kernel_rfl) ⟨(by omega), trivial⟩ ?_
    refine DerQ.callD (q2) ⟨[U6, .ptr 0 0, (I6 0), U6, U6, U6, .agg [(I6 n), tl ks], (I6 (endE false (T.mk n ks)))], [⟨[(I6 n), tl ks], 2, .fresh⟩]⟩ ⟨by kernel_rfl, by kernel_rfl, by kernel_rfl⟩ ?_
    refine DerQ.run ((True) ∧ (True)) ⟨[U6, .ptr 0 0, (I6 (endE false (T.mk n ks))), U6, U6, U6, .agg [(I6 n), tl ks], (I6 (endE false (T.mk n ks)))], [⟨[(I6 n), tl ks], 2, .fresh⟩]⟩ (by kernel_rfl) ⟨trivial, trivial⟩ ?_
    refine AWP.ret ?_
    refine EvF.fin (.sc (.int .i64 (endE false (T.mk n ks)))) _ (by simp) (by kernel_rfl) ?_
    refine Shrink.all ?_ rfl
    (rw [endP, if_pos hc]; done)
theorem e_Greatest (n : Int) (ks : List T) (hN : size (.mk n ks) ≤ 1000000) : EvD Try.prog 30 [.agg [.sc (.int .i64 n), .sl (tcs ks) ks.length .any]] (.sc (.int .i64 (endP true (.mk n ks)))) := by
  have q1 := e_check n ks hN
  cases hc : checkE (.mk n ks)
  · rw [hc] at q1
    refine EvD.body Try.func30 rfl rfl rfl ?_
    refine AWP.seq ?_
    refine AWP.reg ?_
    refine DerQ.run (TT 2) ⟨[.agg [(I6 n), tl ks], .ptr 0 0, (I6 0)] ++ UU 5, [⟨[(I6 n), tl ks], 2, .fresh⟩]⟩ (by kernel_rfl) (tt 2) ?_
    refine AWP.seq ?_
    refine AWP.seq ?_
    refine AWP.reg ?_
    refine DerQ.pre 1 (((2 : Nat) ≤ (2 : Nat)) ∧ (True)) ⟨[.agg [(I6 n), tl ks], .ptr 0 0, (I6 0), .agg [(I6 n), tl ks], U6, U6, U6, .undef], [⟨[(I6 n), tl ks], 2, .fresh⟩]⟩ (by kernel_rfl) ⟨(by omega), trivial⟩ ?_
    refine DerQ.callD (q1) ⟨[.agg [(I6 n), tl ks], .ptr 0 0, (I6 0), .agg [(I6 n), tl ks], (B6 false), U6, U6, .undef], [⟨[(I6 n), tl ks], 2, .fresh⟩]⟩ ⟨by kernel_rfl, by kernel_rfl, by kernel_rfl⟩ ?_
    refine DerQ.run ((True) ∧ (True)) ⟨[.agg [(I6 n), tl ks], .ptr 0 0, (I6 0), .agg [(I6 n), tl ks], (B6 false), (B6 true), U6, .undef], [⟨[(I6 n), tl ks], 2, .fresh⟩]⟩ (by kernel_rfl) ⟨trivial, trivial⟩ ?_
    refine AWP.cond (b := true) (by kernel_rfl) (fun _ => ?_) (fun h => nomatch h)
    refine AWP.seq ?_
    refine AWP.kill [0, 3, 4, 5] ⟨[.undef, .ptr 0 0, .sc (.int .i64 0), .undef, .undef, .undef, .undef, .undef], [⟨[.sc (.int .i64 (n)), .sl (tcs ks) (List.length ks) .any], 2, .fresh⟩]⟩ (by kernel_rfl) ?_
    refine AWP.reg ?_
    refine DerQ.run ((True) ∧ (True)) ⟨[U6, .ptr 0 0, (I6 0)] ++ UU 5, [⟨[(I6 n), tl ks], 2, .fresh⟩]⟩ (by kernel_rfl) ⟨trivial, trivial⟩ ?_
    refine AWP.ret ?_
    refine EvF.fin (.sc (.int .i64 0)) _ (by simp) (by kernel_rfl) ?_
    refine Shrink.all ?_ rfl
    (rw [endP, if_neg (by rw [hc]; simp)]; done)
  · rw [hc] at q1
    have q2 := e_max 1000000 n ks 16 1073741824 hN (checkE_rough hc) (by omega)
    refine EvD.body Try.func30 rfl rfl rfl ?_
    refine AWP.seq ?_
    refine AWP.reg ?_
    refine DerQ.run (TT 2) ⟨[.agg [(I6 n), tl ks], .ptr 0 0, (I6 0)] ++ UU 5, [⟨[(I6 n), tl ks], 2, .fresh⟩]⟩ (by kernel_rfl) (tt 2) ?_
    refine AWP.seq ?_
    refine AWP.seq ?_
    refine AWP.reg ?_
    refine DerQ.pre 1 (((2 : Nat) ≤ (2 : Nat)) ∧ (True)) ⟨[.agg [(I6 n), tl ks], .ptr 0 0, (I6 0), .agg [(I6 n), tl ks], U6, U6, U6, .undef], [⟨[(I6 n), tl ks], 2, .fresh⟩]⟩ (by kernel_rfl) ⟨(by omega), trivial⟩ ?_
    refine DerQ.callD (q1) ⟨[.agg [(I6 n), tl ks], .ptr 0 0, (I6 0), .agg [(I6 n), tl ks], (B6 true), U6, U6, .undef], [⟨[(I6 n), tl ks], 2, .fresh⟩]⟩ ⟨by kernel_rfl, by kernel_rfl, by kernel_rfl⟩ ?_
    refine DerQ.run ((True) ∧ (True)) ⟨[.agg [(I6 n), tl ks], .ptr 0 0, (I6 0), .agg [(I6 n), tl ks], (B6 true), (B6 false), U6, .undef], [⟨[(I6 n), tl ks], 2, .fresh⟩]⟩ (by kernel_rfl) ⟨trivial, trivial⟩ ?_
    refine AWP.cond (b := false) (by kernel_rfl) (fun h => nomatch h) (fun _ => ?_)
    refine AWP.kill [0, 3, 4, 5] ⟨[.undef, .ptr 0 0, .sc (.int .i64 0), .undef, .undef, .undef, .undef, .undef], [⟨[.sc (.int .i64 (n)), .sl (tcs ks) (List.length ks) .any], 2, .fresh⟩]⟩ (by kernel_rfl) ?_
    refine AWP.skip ?_
    refine AWP.seq ?_
    refine AWP.reg ?_
    refine DerQ.pre 1 (((2 : Nat) ≤ (2 : Nat)) ∧ (True)) ⟨[U6, .ptr 0 0, (I6 0), U6, U6, U6, .agg [(I6 n), tl ks], .undef], [⟨[(I6 n), tl ks], 2, .fresh⟩]⟩ (by kernel_rfl) ⟨(by omega), trivial⟩ ?_
    refine DerQ.callD (q2) ⟨[U6, .ptr 0 0, (I6 0), U6, U6, U6, .agg [(I6 n), tl ks], (I6 (endE true (T.mk n ks)))], [⟨[(I6 n), tl ks], 2, .fresh⟩]⟩ ⟨by kernel_rfl, by kernel_rfl, by kernel_rfl⟩ ?_
    refine DerQ.run ((True) ∧ (True)) ⟨[U6, .ptr 0 0, (I6 (endE true (T.mk n ks))), U6, U6, U6, .agg [(I6 n), tl ks], (I6 (endE true (T.mk n ks)))], [⟨[(I6 n), tl ks], 2, .fresh⟩]⟩ (by kernel_rfl) ⟨trivial, trivial⟩ ?_
    refine AWP.ret ?_
    refine EvF.fin (.sc (.int .i64 (endE true (T.mk n ks)))) _ (by simp) (by kernel_rfl) ?_
    refine Shrink.all ?_ rfl
    (rw [endP, if_pos hc]; done)
end Go.Tr
