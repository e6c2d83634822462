/- Walks and laws. -/
import Derived.Test.YtgpikfncinkjlaaEv3
import Derived.Test.YtgpikfncinkjlaaLibB
set_option maxRecDepth 100000
set_option maxHeartbeats 0
set_option linter.unusedSimpArgs false
set_option linter.unusedVariables false
namespace Go.Tr
open Go Go.Abs Go.Proofs
theorem leq1 (a b : Int) : EvD Try.prog 76 [.sc (.int .i64 a), .sc (.int .i64 b)] (.sc (.bool (decide (a ≤ b)))) := by
  refine EvD.body Try.func76 rfl rfl rfl ?_
  refine AWP.seq ?_
  refine TO ⟨[(I6 a), (I6 b)] ++ UU 6, []⟩ ?_
  refine AWP.reg (RT 1 ?_)
  refine AWP.seq ?_
  refine TO ⟨[(I6 a), (I6 b), U6, U6, (B6 false), U6, U6, .undef], []⟩ ?_
  refine AWP.reg (RT 4 ?_)
  refine AWP.ret FA
theorem leq2 (a b : Bool) : EvD Try.prog 77 [.sc (.bool a), .sc (.bool b)] (.sc (.bool (a && b))) := by
  refine EvD.body Try.func77 rfl rfl rfl ?_
  refine AWP.seq ?_
  refine TO ⟨[(B6 a), (B6 b)] ++ UU 7, []⟩ ?_
  refine AWP.reg (RT 1 ?_)
  refine AWP.seq ?_
  refine TO ⟨[(B6 a), (B6 b), U6, U6, (B6 false), U6, U6, U6, .undef], []⟩ ?_
  refine AWP.reg (PT 2 2 ?_)
  refine DerQ.to ⟨[(B6 a), (B6 b), U6, U6, (B6 false), (B6 a), (B6 a), U6, .undef], []⟩ (by kernel_rfl) ?_
  cases h1 : (a)
  · refine RT 2 ?_
    refine AWP.ret FA
  · refine RT 3 ?_
    refine AWP.ret FA
theorem join1 (a b : Int) : EvD Try.prog 70 [.sc (.int .i64 a), .sc (.int .i64 b)] (.agg [.sc (.int .i64 (max a b)), .sl [] 0 .any]) := by
  refine EvD.body Try.func70 rfl rfl rfl ?_
  refine AWP.seq ?_
  refine TO ⟨[(I6 a), (I6 b)] ++ UU 7, []⟩ ?_
  refine AWP.reg (RT 1 ?_)
  refine AWP.seq ?_
  refine TO ⟨[(I6 a), (I6 b), U6, U6, .ptr 0 0, U6, U6, U6, .undef], [⟨[(I6 0), .sl [] 0 .nil], 2, .fresh⟩]⟩ ?_
  refine AWP.reg ?_
  refine DerQ.run (True ∧ True ∧ True ∧ True ∧ 2 ≤ 2 ∧ True) ⟨[(I6 a), (I6 b), U6, U6, .ptr 0 0, (I6 a), (I6 b), (I6 (if b > a then b else a)), .agg [(I6 (if b > a then b else a)), .sl [] 0 .nil]], [⟨[(I6 (if b > a then b else a)), .sl [] 0 .nil], 2, .fresh⟩]⟩ (by kernel_rfl) ⟨trivial, trivial, trivial, trivial, (by omega), trivial⟩ ?_
  rw [Go.Tr.max_if (a) (b)]
  refine KL [0, 1, 5, 6, 7, 8] ⟨[U6, U6, U6, U6, .ptr 0 0, U6, U6, U6, .undef], [⟨[(I6 (max a b)), .sl [] 0 .nil], 2, .fresh⟩]⟩ ?_
  refine AWP.ret ?_
  refine FI (.agg [.sc (.int .i64 (max a b)), .sl [] 0 .nil]) ?_
  refine Shrink.dataK [] (True) (.agg [.sc (.int .i64 (max a b)), .sl [] 0 .nil]) (by kernel_rfl) trivial ?_ rfl
  kernel_rfl
theorem join2 (a b : Int) (c d : List T) (h : -2000000000 ≤ a ∧ a ≤ 2000000000 ∧ -2000000000 ≤ b ∧ b ≤ 2000000000) (hc : c.length ≤ 10 ∧ d.length ≤ 10) : EvD Try.prog 72 [.agg [.sc (.int .i64 a), .sl (tcs c) c.length .any], .agg [.sc (.int .i64 b), .sl (tcs d) d.length .any]] (ag (nodeE 0 (.mk a c) (.mk b d))) := by
  refine EvD.body Try.func72 rfl rfl rfl ?_
  refine AWP.seq ?_
  refine TO ⟨[.agg [(I6 a), tl c], .agg [(I6 b), tl d]] ++ UU 6, []⟩ ?_
  refine AWP.reg (RT 3 ?_)
  refine AWP.seq (KL [0, 1] ⟨[U6, U6, .ptr 0 0, .ptr 1 0, .ptr 2 0, U6, U6, .undef], [⟨[(I6 a), tl c], 2, .fresh⟩, ⟨[(I6 b), tl d], 2, .fresh⟩, ⟨[(I6 0), .sl [] 0 .nil], 2, .fresh⟩]⟩ ?_)
  refine AWP.reg (PI 2 (2 ≤ 2 ∧ 2 ≤ 2 ∧ True) ⟨(by omega), (by omega), trivial⟩ ?_)
  refine CD (node ((0 : Int)) a b c d ⟨(by omega), ⟨(by omega), ⟨(by omega), ⟨(by omega), ⟨(by omega), (by omega)⟩⟩⟩⟩⟩ ⟨(by omega), (by omega)⟩) ?_
  refine RI (2 ≤ 2 ∧ True) ⟨(by omega), trivial⟩ ?_
  refine AWP.ret FA
theorem e_leq (k : Nat) : ∀ (n m : Int) (ks ls : List T) (da db l : Int), roughE da l (.mk n ks) = true → roughE db l (.mk m ls) = true → l ≤ 2000000000 → depthT (.mk n ks) ≤ k → depthT (.mk m ls) ≤ k → EvD Try.prog 75 [.agg [.sc (.int .i64 n), .sl (tcs ks) ks.length .any], .agg [.sc (.int .i64 m), .sl (tcs ls) ls.length .any], .fn 76 [], .fn 77 []] (.sc (.bool (leqE k (.mk n ks) (.mk m ls)))) := by
  induction k with
  | zero =>
    intro n m ks ls da db l ha hb hl h1 h2
    have e1 := depth_leaf (roughE_bin _ _ _ ha) (by omega)
    have e2 := depth_leaf (roughE_bin _ _ _ hb) (by omega)
    obtain rfl := List.eq_nil_of_length_eq_zero e1
    obtain rfl := List.eq_nil_of_length_eq_zero e2
    refine EvD.body Try.func75 rfl rfl rfl ?_
    refine AWP.seq ?_
    refine TO ⟨[.agg [(I6 n), .sl [] 0 .any], .agg [(I6 m), .sl [] 0 .any], .fn 76 [], .fn 77 []] ++ UU 41, []⟩ ?_
    refine AWP.reg (RT 3 ?_)
    refine AWP.seq (AWP.seq (KL [0, 1] ⟨[U6, U6, .fn 76 [], .fn 77 [], .ptr 0 0, .ptr 1 0, U6, U6, (B6 false)] ++ UU 36, [⟨[(I6 n), .sl [] 0 .any], 2, .fresh⟩, ⟨[(I6 m), .sl [] 0 .any], 2, .fresh⟩]⟩ ?_))
    refine AWP.reg (RI (True ∧ 1 < 2 ∧ True ∧ True ∧ 1 < 2 ∧ True ∧ True ∧ True ∧ True) ⟨trivial, (by omega), trivial, trivial, (by omega), trivial, trivial, trivial, trivial⟩ ?_)
    refine KL (NN 11 7) ⟨[U6, U6, .fn 76 [], .fn 77 [], .ptr 0 0, .ptr 1 0, U6, U6, (B6 false)] ++ UU 9 ++ [(B6 true)] ++ UU 26, [⟨[(I6 n), .sl [] 0 .any], 2, .fresh⟩, ⟨[(I6 m), .sl [] 0 .any], 2, .fresh⟩]⟩ ?_
    refine CN true (fun _ => ?_) (fun h => nomatch h)
    refine SQ (PI 5 (True ∧ True ∧ 0 < 2 ∧ True ∧ 0 < 2 ∧ True) ⟨trivial, trivial, (by omega), trivial, (by omega), trivial⟩ ?_)
    refine CD (leq1 n m) ?_
    refine RT 1 ?_
    refine AWP.ret FA
  | succ k ih =>
    intro n m ks ls da db l ha hb hl h1 h2
    by_cases hc : ks.length = 0 ∧ ls.length = 0
    · obtain rfl := List.eq_nil_of_length_eq_zero hc.1
      obtain rfl := List.eq_nil_of_length_eq_zero hc.2
      refine EvD.body Try.func75 rfl rfl rfl ?_
      refine AWP.seq ?_
      refine TO ⟨[.agg [(I6 n), .sl [] 0 .any], .agg [(I6 m), .sl [] 0 .any], .fn 76 [], .fn 77 []] ++ UU 41, []⟩ ?_
      refine AWP.reg (RT 3 ?_)
      refine AWP.seq (AWP.seq (KL [0, 1] ⟨[U6, U6, .fn 76 [], .fn 77 [], .ptr 0 0, .ptr 1 0, U6, U6, (B6 false)] ++ UU 36, [⟨[(I6 n), .sl [] 0 .any], 2, .fresh⟩, ⟨[(I6 m), .sl [] 0 .any], 2, .fresh⟩]⟩ ?_))
      refine AWP.reg (RI (True ∧ 1 < 2 ∧ True ∧ True ∧ 1 < 2 ∧ True ∧ True ∧ True ∧ True) ⟨trivial, (by omega), trivial, trivial, (by omega), trivial, trivial, trivial, trivial⟩ ?_)
      refine KL (NN 11 7) ⟨[U6, U6, .fn 76 [], .fn 77 [], .ptr 0 0, .ptr 1 0, U6, U6, (B6 false)] ++ UU 9 ++ [(B6 true)] ++ UU 26, [⟨[(I6 n), .sl [] 0 .any], 2, .fresh⟩, ⟨[(I6 m), .sl [] 0 .any], 2, .fresh⟩]⟩ ?_
      refine CN true (fun _ => ?_) (fun h => nomatch h)
      refine SQ (PI 5 (True ∧ True ∧ 0 < 2 ∧ True ∧ 0 < 2 ∧ True) ⟨trivial, trivial, (by omega), trivial, (by omega), trivial⟩ ?_)
      refine CD (leq1 n m) ?_
      refine RT 1 ?_
      refine AWP.ret FA
    · have a0 := kid_facts ha 0 (by omega)
      have a1 := kid_facts ha 1 (by omega)
      have b0 := kid_facts hb 0 (by omega)
      have b1 := kid_facts hb 1 (by omega)
      have i0 := ih (kidE (.mk n ks) 0).n (kidE (.mk m ls) 0).n (kidE (.mk n ks) 0).ks (kidE (.mk m ls) 0).ks (da - 1) (db - 1) l (by rw [T.mk_eta]; exact a0.1) (by rw [T.mk_eta]; exact b0.1) hl (by rw [T.mk_eta]; omega) (by rw [T.mk_eta]; omega)
      have i1 := ih (kidE (.mk n ks) 1).n (kidE (.mk m ls) 1).n (kidE (.mk n ks) 1).ks (kidE (.mk m ls) 1).ks (da - 1) (db - 1) l (by rw [T.mk_eta]; exact a1.1) (by rw [T.mk_eta]; exact b1.1) hl (by rw [T.mk_eta]; omega) (by rw [T.mk_eta]; omega)
      simp only [T.mk_eta] at i0 i1
      have q1 := kids n ks da l ha hl
      have q2 := kids m ls db l hb hl
      have l1 := bin_len (roughE_bin _ _ _ ha)
      have l2 := bin_len (roughE_bin _ _ _ hb)
      simp only [T.ks_mk] at l1 l2
      refine EvD.body Try.func75 rfl rfl rfl ?_
      refine AWP.seq ?_
      refine TO ⟨[.agg [(I6 n), tl ks], .agg [(I6 m), tl ls], .fn 76 [], .fn 77 []] ++ UU 41, []⟩ ?_
      refine AWP.reg (RT 3 ?_)
      refine AWP.seq (AWP.seq (KL [0, 1] ⟨[U6, U6, .fn 76 [], .fn 77 [], .ptr 0 0, .ptr 1 0, U6, U6, (B6 false)] ++ UU 36, [⟨[(I6 n), tl ks], 2, .fresh⟩, ⟨[(I6 m), tl ls], 2, .fresh⟩]⟩ ?_))
      refine AWP.reg ?_
      refine DerQ.run (True ∧ 1 < 2 ∧ True ∧ True ∧ 1 < 2 ∧ True ∧ True ∧ True ∧ True) ⟨[U6, U6, .fn 76 [], .fn 77 [], .ptr 0 0, .ptr 1 0, U6, U6, (B6 false), U6, U6, .ptr 0 1, tl ks, (I6 (↑(List.length ks) : Int)), .ptr 1 1, tl ls, (I6 (↑(List.length ls) : Int)), (I6 (IntKind.wrap IntKind.i64 ((↑(List.length ks) : Int) + (↑(List.length ls) : Int)))), (B6 (IntKind.wrap IntKind.i64 ((↑(List.length ks) : Int) + (↑(List.length ls) : Int)) == 0))] ++ UU 26, [⟨[(I6 n), tl ks], 2, .fresh⟩, ⟨[(I6 m), tl ls], 2, .fresh⟩]⟩ (by kernel_rfl) ⟨trivial, (by omega), trivial, trivial, (by omega), trivial, trivial, trivial, trivial⟩ ?_
      rw [IntWalk.i64_in ((↑(List.length ks) : Int) + (↑(List.length ls) : Int)) (by omega)]
      refine KL (NN 11 7) ⟨[U6, U6, .fn 76 [], .fn 77 [], .ptr 0 0, .ptr 1 0, U6, U6, (B6 false)] ++ UU 9 ++ [(B6 ((↑(List.length ks) : Int) + (↑(List.length ls) : Int) == 0))] ++ UU 26, [⟨[(I6 n), tl ks], 2, .fresh⟩, ⟨[(I6 m), tl ls], 2, .fresh⟩]⟩ ?_
      refine CN ((↑(List.length ks) : Int) + (↑(List.length ls) : Int) == 0) (fun h3 => ?_) (fun h3 => ?_)
      · have h3' := eq_of_beq h3
        exfalso; omega
      · have h3' := ne_of_beq_false h3
        refine AWP.skip (AWP.seq ?_)
        refine AWP.drawB mixed (fun o => if [9, 10].contains (o.dst.getD 0) then 1 else if [].contains (o.dst.getD 0) then 2 else if [0, 0].contains (o.dst.getD 0) then 3 else 0) 2 2 (fun x => [⟨[(I6 n), tl ks], 2, .fresh⟩, ⟨[(I6 m), tl ls], 2, .fresh⟩]) ⟨[U6, U6, .fn 76 [], .fn 77 [], .ptr 0 0, .ptr 1 0, U6, U6, (B6 false)] ++ UU 9 ++ [(B6 ((↑(List.length ks) : Int) + (↑(List.length ls) : Int) == 0))] ++ UU 26, [⟨[(I6 n), tl ks], 2, .fresh⟩, ⟨[(I6 m), tl ls], 2, .fresh⟩, ⟨[], 0, .unborn⟩, ⟨[], 0, .unborn⟩]⟩ (by kernel_rfl) ⟨by kernel_rfl, by kernel_rfl⟩ (by kernel_rfl) ?_
        refine DerZ.quietI ((2 : Nat) ≤ (2 : Nat)) (by intro x ext; kernel_rfl) (by kernel_rfl) (by omega) ?_
        refine DerZ.callDI (q1) ⟨by kernel_rfl, by kernel_rfl⟩ ?_
        refine DerZ.quietI ((2 : Nat) ≤ (2 : Nat)) (by intro x ext; kernel_rfl) (by kernel_rfl) (by omega) ?_
        refine DerZ.callDI (q2) ⟨by kernel_rfl, by kernel_rfl⟩ ?_
        refine DerZ.birthI 2 ⟨by kernel_rfl, by kernel_rfl, by kernel_rfl, by kernel_rfl, (by intro x; kernel_rfl), by kernel_rfl⟩ ?_
        refine DerZ.birthI 3 ⟨by kernel_rfl, by kernel_rfl, by kernel_rfl, by kernel_rfl, (by intro x; kernel_rfl), by kernel_rfl⟩ ?_
        refine DerZ.effI 2 ((4 : Nat) ≤ (4 : Nat)) (by kernel_rfl) ⟨⟨by kernel_rfl, by kernel_rfl⟩, by kernel_rfl⟩ (by omega) ?_
        refine DerZ.effI 2 ((4 : Nat) ≤ (4 : Nat)) (by kernel_rfl) ⟨⟨by kernel_rfl, by kernel_rfl⟩, by kernel_rfl⟩ (by omega) ?_
        refine DerZ.nil ?_
        refine AWP.seq (KL [4, 5, 18, 25, 26, 27, 28] ⟨[U6, U6, .fn 76 [], .fn 77 [], U6, U6, U6, U6, (B6 false), .ptr 2 0, .ptr 3 0] ++ UU 34, [⟨[(I6 n), tl ks], 2, .fresh⟩, ⟨[(I6 m), tl ls], 2, .fresh⟩, ⟨[(I6 (T.n (kidE (T.mk n ks) 0))), tl (T.ks (kidE (T.mk n ks) 0)), (I6 (T.n (kidE (T.mk n ks) 1))), tl (T.ks (kidE (T.mk n ks) 1))], 2, .fresh⟩, ⟨[(I6 (T.n (kidE (T.mk m ls) 0))), tl (T.ks (kidE (T.mk m ls) 0)), (I6 (T.n (kidE (T.mk m ls) 1))), tl (T.ks (kidE (T.mk m ls) 1))], 2, .fresh⟩]⟩ ?_)
        refine AWP.drawX mixed (fun o => [44, 36, 43].contains (o.dst.getD 0)) (by kernel_rfl) ?_
        refine DerX.preI 7 ((True) ∧ ((((0 : Int) ≤ (0 : Int)) ∧ ((0 : Int) < (2 : Int))) ∧ (((2 : Nat) ≤ (4 : Nat)) ∧ ((((0 : Int) ≤ (0 : Int)) ∧ ((0 : Int) < (2 : Int))) ∧ (((2 : Nat) ≤ (4 : Nat)) ∧ ((True) ∧ ((True) ∧ (True)))))))) (by intro ext; kernel_rfl) ⟨trivial, ⟨⟨(by omega), (by omega)⟩, ⟨(by omega), ⟨⟨(by omega), (by omega)⟩, ⟨(by omega), ⟨trivial, ⟨trivial, trivial⟩⟩⟩⟩⟩⟩⟩ ?_
        refine DerX.callDI (i0) ⟨by kernel_rfl, by kernel_rfl⟩ ?_
        refine DerX.preI 6 ((((0 : Int) ≤ (1 : Int)) ∧ ((1 : Int) < (2 : Int))) ∧ (((4 : Nat) ≤ (4 : Nat)) ∧ ((((0 : Int) ≤ (1 : Int)) ∧ ((1 : Int) < (2 : Int))) ∧ (((4 : Nat) ≤ (4 : Nat)) ∧ ((True) ∧ ((True) ∧ (True))))))) (by intro ext; kernel_rfl) ⟨⟨(by omega), (by omega)⟩, ⟨(by omega), ⟨⟨(by omega), (by omega)⟩, ⟨(by omega), ⟨trivial, ⟨trivial, trivial⟩⟩⟩⟩⟩⟩ ?_
        refine DerX.callDI (i1) ⟨by kernel_rfl, by kernel_rfl⟩ ?_
        refine DerX.callDI (leq2 (leqE k (kidE (T.mk n ks) 0) (kidE (T.mk m ls) 0)) (leqE k (kidE (T.mk n ks) 1) (kidE (T.mk m ls) 1))) ⟨by kernel_rfl, by kernel_rfl⟩ ?_
        refine DerX.quietI (True) (by intro ext; kernel_rfl) (by kernel_rfl) trivial ?_
        refine DerX.nil ?_
        refine AWP.ret ?_
        refine FI (.sc (.bool (leqE k (kidE (T.mk n ks) 0) (kidE (T.mk m ls) 0) && leqE k (kidE (T.mk n ks) 1) (kidE (T.mk m ls) 1)))) ?_
        refine Shrink.all ?_ rfl
        (rw [leqE_in (by exact hc)]; done)
theorem e_both (k : Nat) : ∀ (n m : Int) (ks ls : List T) (da db l : Int), roughE da l (.mk n ks) = true → roughE db l (.mk m ls) = true → l ≤ 2000000000 → depthT (.mk n ks) ≤ k → depthT (.mk m ls) ≤ k → da = db → 0 ≤ da → (k : Int) ≤ da → EvD Try.prog 71 [.agg [.sc (.int .i64 n), .sl (tcs ks) ks.length .any], .agg [.sc (.int .i64 m), .sl (tcs ls) ls.length .any], .fn 70 [], .fn 72 []] (ag (bothE k (.mk n ks) (.mk m ls))) := by
  induction k with
  | zero =>
    intro n m ks ls da db l ha hb hl h1 h2 hd h0 hk
    have e1 := depth_leaf (roughE_bin _ _ _ ha) (by omega)
    have e2 := depth_leaf (roughE_bin _ _ _ hb) (by omega)
    obtain rfl := List.eq_nil_of_length_eq_zero e1
    obtain rfl := List.eq_nil_of_length_eq_zero e2
    refine EvD.body Try.func71 rfl rfl rfl ?_
    refine AWP.seq ?_
    refine TO ⟨[.agg [(I6 n), .sl [] 0 .any], .agg [(I6 m), .sl [] 0 .any], .fn 70 [], .fn 72 []] ++ UU 41, []⟩ ?_
    refine AWP.reg (RT 3 ?_)
    refine AWP.seq (AWP.seq (KL [0, 1] ⟨[U6, U6, .fn 70 [], .fn 72 [], .ptr 0 0, .ptr 1 0, U6, U6, .ptr 2 0] ++ UU 36, [⟨[(I6 n), .sl [] 0 .any], 2, .fresh⟩, ⟨[(I6 m), .sl [] 0 .any], 2, .fresh⟩, ⟨[(I6 0), .sl [] 0 .nil], 2, .fresh⟩]⟩ ?_))
    refine AWP.reg (RI (True ∧ 1 < 2 ∧ True ∧ True ∧ 1 < 2 ∧ True ∧ True ∧ True ∧ True) ⟨trivial, (by omega), trivial, trivial, (by omega), trivial, trivial, trivial, trivial⟩ ?_)
    refine KL (NN 11 7) ⟨[U6, U6, .fn 70 [], .fn 72 [], .ptr 0 0, .ptr 1 0, U6, U6, .ptr 2 0] ++ UU 9 ++ [(B6 true)] ++ UU 26, [⟨[(I6 n), .sl [] 0 .any], 2, .fresh⟩, ⟨[(I6 m), .sl [] 0 .any], 2, .fresh⟩, ⟨[(I6 0), .sl [] 0 .nil], 2, .fresh⟩]⟩ ?_
    refine CN true (fun _ => ?_) (fun h => nomatch h)
    refine SQ (PI 5 (True ∧ True ∧ 0 < 2 ∧ True ∧ 0 < 2 ∧ True) ⟨trivial, trivial, (by omega), trivial, (by omega), trivial⟩ ?_)
    refine CD (join1 n m) ?_
    refine RI (2 ≤ 2 ∧ True) ⟨(by omega), trivial⟩ ?_
    refine AWP.ret FA
  | succ k ih =>
    intro n m ks ls da db l ha hb hl h1 h2 hd h0 hk
    by_cases hc : ks.length = 0 ∧ ls.length = 0
    · obtain rfl := List.eq_nil_of_length_eq_zero hc.1
      obtain rfl := List.eq_nil_of_length_eq_zero hc.2
      refine EvD.body Try.func71 rfl rfl rfl ?_
      refine AWP.seq ?_
      refine TO ⟨[.agg [(I6 n), .sl [] 0 .any], .agg [(I6 m), .sl [] 0 .any], .fn 70 [], .fn 72 []] ++ UU 41, []⟩ ?_
      refine AWP.reg (RT 3 ?_)
      refine AWP.seq (AWP.seq (KL [0, 1] ⟨[U6, U6, .fn 70 [], .fn 72 [], .ptr 0 0, .ptr 1 0, U6, U6, .ptr 2 0] ++ UU 36, [⟨[(I6 n), .sl [] 0 .any], 2, .fresh⟩, ⟨[(I6 m), .sl [] 0 .any], 2, .fresh⟩, ⟨[(I6 0), .sl [] 0 .nil], 2, .fresh⟩]⟩ ?_))
      refine AWP.reg (RI (True ∧ 1 < 2 ∧ True ∧ True ∧ 1 < 2 ∧ True ∧ True ∧ True ∧ True) ⟨trivial, (by omega), trivial, trivial, (by omega), trivial, trivial, trivial, trivial⟩ ?_)
      refine KL (NN 11 7) ⟨[U6, U6, .fn 70 [], .fn 72 [], .ptr 0 0, .ptr 1 0, U6, U6, .ptr 2 0] ++ UU 9 ++ [(B6 true)] ++ UU 26, [⟨[(I6 n), .sl [] 0 .any], 2, .fresh⟩, ⟨[(I6 m), .sl [] 0 .any], 2, .fresh⟩, ⟨[(I6 0), .sl [] 0 .nil], 2, .fresh⟩]⟩ ?_
      refine CN true (fun _ => ?_) (fun h => nomatch h)
      refine SQ (PI 5 (True ∧ True ∧ 0 < 2 ∧ True ∧ 0 < 2 ∧ True) ⟨trivial, trivial, (by omega), trivial, (by omega), trivial⟩ ?_)
      refine CD (join1 n m) ?_
      refine RI (2 ≤ 2 ∧ True) ⟨(by omega), trivial⟩ ?_
      refine AWP.ret FA
    · have a0 := kid_facts ha 0 (by omega)
      have a1 := kid_facts ha 1 (by omega)
      have b0 := kid_facts hb 0 (by omega)
      have b1 := kid_facts hb 1 (by omega)
      have i0 := ih (kidE (.mk n ks) 0).n (kidE (.mk m ls) 0).n (kidE (.mk n ks) 0).ks (kidE (.mk m ls) 0).ks (da - 1) (db - 1) l (by rw [T.mk_eta]; exact a0.1) (by rw [T.mk_eta]; exact b0.1) hl (by rw [T.mk_eta]; omega) (by rw [T.mk_eta]; omega) (by omega) (by omega) (by omega)
      have i1 := ih (kidE (.mk n ks) 1).n (kidE (.mk m ls) 1).n (kidE (.mk n ks) 1).ks (kidE (.mk m ls) 1).ks (da - 1) (db - 1) l (by rw [T.mk_eta]; exact a1.1) (by rw [T.mk_eta]; exact b1.1) hl (by rw [T.mk_eta]; omega) (by rw [T.mk_eta]; omega) (by omega) (by omega) (by omega)
      simp only [T.mk_eta] at i0 i1
      have q1 := kids n ks da l ha hl
      have q2 := kids m ls db l hb hl
      have l1 := bin_len (roughE_bin _ _ _ ha)
      have l2 := bin_len (roughE_bin _ _ _ hb)
      simp only [T.ks_mk] at l1 l2
      subst hd
      have r0 := roughE_both k _ _ (da - 1) l (by omega) a0.1 b0.1 (by omega) (by omega) (by omega)
      have r1 := roughE_both k _ _ (da - 1) l (by omega) a1.1 b1.1 (by omega) (by omega) (by omega)
      have w0 := roughE_n r0
      have w1 := roughE_n r1
      have v0 := bin_len (roughE_bin _ _ _ r0)
      have v1 := bin_len (roughE_bin _ _ _ r1)
      refine EvD.body Try.func71 rfl rfl rfl ?_
      refine AWP.seq ?_
      refine TO ⟨[.agg [(I6 n), tl ks], .agg [(I6 m), tl ls], .fn 70 [], .fn 72 []] ++ UU 41, []⟩ ?_
      refine AWP.reg (RT 3 ?_)
      refine AWP.seq (AWP.seq (KL [0, 1] ⟨[U6, U6, .fn 70 [], .fn 72 [], .ptr 0 0, .ptr 1 0, U6, U6, .ptr 2 0] ++ UU 36, [⟨[(I6 n), tl ks], 2, .fresh⟩, ⟨[(I6 m), tl ls], 2, .fresh⟩, ⟨[(I6 0), .sl [] 0 .nil], 2, .fresh⟩]⟩ ?_))
      refine AWP.reg ?_
      refine DerQ.run (True ∧ 1 < 2 ∧ True ∧ True ∧ 1 < 2 ∧ True ∧ True ∧ True ∧ True) ⟨[U6, U6, .fn 70 [], .fn 72 [], .ptr 0 0, .ptr 1 0, U6, U6, .ptr 2 0, U6, U6, .ptr 0 1, tl ks, (I6 (↑(List.length ks) : Int)), .ptr 1 1, tl ls, (I6 (↑(List.length ls) : Int)), (I6 (IntKind.wrap IntKind.i64 ((↑(List.length ks) : Int) + (↑(List.length ls) : Int)))), (B6 (IntKind.wrap IntKind.i64 ((↑(List.length ks) : Int) + (↑(List.length ls) : Int)) == 0))] ++ UU 26, [⟨[(I6 n), tl ks], 2, .fresh⟩, ⟨[(I6 m), tl ls], 2, .fresh⟩, ⟨[(I6 0), .sl [] 0 .nil], 2, .fresh⟩]⟩ (by kernel_rfl) ⟨trivial, (by omega), trivial, trivial, (by omega), trivial, trivial, trivial, trivial⟩ ?_
      rw [IntWalk.i64_in ((↑(List.length ks) : Int) + (↑(List.length ls) : Int)) (by omega)]
      refine KL (NN 11 7) ⟨[U6, U6, .fn 70 [], .fn 72 [], .ptr 0 0, .ptr 1 0, U6, U6, .ptr 2 0] ++ UU 9 ++ [(B6 ((↑(List.length ks) : Int) + (↑(List.length ls) : Int) == 0))] ++ UU 26, [⟨[(I6 n), tl ks], 2, .fresh⟩, ⟨[(I6 m), tl ls], 2, .fresh⟩, ⟨[(I6 0), .sl [] 0 .nil], 2, .fresh⟩]⟩ ?_
      refine CN ((↑(List.length ks) : Int) + (↑(List.length ls) : Int) == 0) (fun h3 => ?_) (fun h3 => ?_)
      · have h3' := eq_of_beq h3
        exfalso; omega
      · have h3' := ne_of_beq_false h3
        refine AWP.skip (AWP.seq ?_)
        refine AWP.drawB mixed (fun o => if [9, 10].contains (o.dst.getD 0) then 1 else if [].contains (o.dst.getD 0) then 2 else if [0, 0].contains (o.dst.getD 0) then 3 else 0) 2 3 (fun x => [⟨[(I6 n), tl ks], 2, .fresh⟩, ⟨[(I6 m), tl ls], 2, .fresh⟩, ⟨[(I6 0), .sl [] 0 .nil], 2, .fresh⟩]) ⟨[U6, U6, .fn 70 [], .fn 72 [], .ptr 0 0, .ptr 1 0, U6, U6, .ptr 2 0] ++ UU 9 ++ [(B6 ((↑(List.length ks) : Int) + (↑(List.length ls) : Int) == 0))] ++ UU 26, [⟨[(I6 n), tl ks], 2, .fresh⟩, ⟨[(I6 m), tl ls], 2, .fresh⟩, ⟨[(I6 0), .sl [] 0 .nil], 2, .fresh⟩, ⟨[], 0, .unborn⟩, ⟨[], 0, .unborn⟩]⟩ (by kernel_rfl) ⟨by kernel_rfl, by kernel_rfl⟩ (by kernel_rfl) ?_
        refine DerZ.quietI ((2 : Nat) ≤ (2 : Nat)) (by intro x ext; kernel_rfl) (by kernel_rfl) (by omega) ?_
        refine DerZ.callDI (q1) ⟨by kernel_rfl, by kernel_rfl⟩ ?_
        refine DerZ.quietI ((2 : Nat) ≤ (2 : Nat)) (by intro x ext; kernel_rfl) (by kernel_rfl) (by omega) ?_
        refine DerZ.callDI (q2) ⟨by kernel_rfl, by kernel_rfl⟩ ?_
        refine DerZ.birthI 3 ⟨by kernel_rfl, by kernel_rfl, by kernel_rfl, by kernel_rfl, (by intro x; kernel_rfl), by kernel_rfl⟩ ?_
        refine DerZ.birthI 4 ⟨by kernel_rfl, by kernel_rfl, by kernel_rfl, by kernel_rfl, (by intro x; kernel_rfl), by kernel_rfl⟩ ?_
        refine DerZ.effI 3 ((4 : Nat) ≤ (4 : Nat)) (by kernel_rfl) ⟨⟨by kernel_rfl, by kernel_rfl⟩, by kernel_rfl⟩ (by omega) ?_
        refine DerZ.effI 3 ((4 : Nat) ≤ (4 : Nat)) (by kernel_rfl) ⟨⟨by kernel_rfl, by kernel_rfl⟩, by kernel_rfl⟩ (by omega) ?_
        refine DerZ.nil ?_
        refine AWP.seq (KL [4, 5, 18, 25, 26, 27, 28] ⟨[U6, U6, .fn 70 [], .fn 72 [], U6, U6, U6, U6, .ptr 2 0, .ptr 3 0, .ptr 4 0] ++ UU 34, [⟨[(I6 n), tl ks], 2, .fresh⟩, ⟨[(I6 m), tl ls], 2, .fresh⟩, ⟨[(I6 0), .sl [] 0 .nil], 2, .fresh⟩, ⟨[(I6 (T.n (kidE (T.mk n ks) 0))), tl (T.ks (kidE (T.mk n ks) 0)), (I6 (T.n (kidE (T.mk n ks) 1))), tl (T.ks (kidE (T.mk n ks) 1))], 2, .fresh⟩, ⟨[(I6 (T.n (kidE (T.mk m ls) 0))), tl (T.ks (kidE (T.mk m ls) 0)), (I6 (T.n (kidE (T.mk m ls) 1))), tl (T.ks (kidE (T.mk m ls) 1))], 2, .fresh⟩]⟩ ?_)
        refine AWP.drawB mixed (fun o => if [].contains (o.dst.getD 0) then 1 else if [44].contains (o.dst.getD 0) then 2 else if [0, 36, 43].contains (o.dst.getD 0) then 3 else 0) 0 5 (fun x => [⟨[(I6 n), tl ks], 2, .fresh⟩, ⟨[(I6 m), tl ls], 2, .fresh⟩, ⟨x 2, 2, .fresh⟩, ⟨[(I6 (T.n (kidE (T.mk n ks) 0))), tl (T.ks (kidE (T.mk n ks) 0)), (I6 (T.n (kidE (T.mk n ks) 1))), tl (T.ks (kidE (T.mk n ks) 1))], 2, .fresh⟩, ⟨[(I6 (T.n (kidE (T.mk m ls) 0))), tl (T.ks (kidE (T.mk m ls) 0)), (I6 (T.n (kidE (T.mk m ls) 1))), tl (T.ks (kidE (T.mk m ls) 1))], 2, .fresh⟩]) ⟨[U6, U6, .fn 70 [], .fn 72 [], U6, U6, U6, U6, .ptr 2 0, .ptr 3 0, .ptr 4 0] ++ UU 34, [⟨[(I6 n), tl ks], 2, .fresh⟩, ⟨[(I6 m), tl ls], 2, .fresh⟩, ⟨[(I6 0), .sl [] 0 .nil], 2, .fresh⟩, ⟨[(I6 (T.n (kidE (T.mk n ks) 0))), tl (T.ks (kidE (T.mk n ks) 0)), (I6 (T.n (kidE (T.mk n ks) 1))), tl (T.ks (kidE (T.mk n ks) 1))], 2, .fresh⟩, ⟨[(I6 (T.n (kidE (T.mk m ls) 0))), tl (T.ks (kidE (T.mk m ls) 0)), (I6 (T.n (kidE (T.mk m ls) 1))), tl (T.ks (kidE (T.mk m ls) 1))], 2, .fresh⟩]⟩ (by kernel_rfl) ⟨by kernel_rfl, by kernel_rfl⟩ (by kernel_rfl) ?_
        refine DerZ.preI 7 ((True) ∧ ((((0 : Int) ≤ (0 : Int)) ∧ ((0 : Int) < (2 : Int))) ∧ (((2 : Nat) ≤ (4 : Nat)) ∧ ((((0 : Int) ≤ (0 : Int)) ∧ ((0 : Int) < (2 : Int))) ∧ (((2 : Nat) ≤ (4 : Nat)) ∧ ((True) ∧ ((True) ∧ (True)))))))) (by intro x ext; kernel_rfl) ⟨trivial, ⟨⟨(by omega), (by omega)⟩, ⟨(by omega), ⟨⟨(by omega), (by omega)⟩, ⟨(by omega), ⟨trivial, ⟨trivial, trivial⟩⟩⟩⟩⟩⟩⟩ ?_
        refine DerZ.callDI (i0) ⟨by kernel_rfl, by kernel_rfl⟩ ?_
        refine DerZ.preI 6 ((((0 : Int) ≤ (1 : Int)) ∧ ((1 : Int) < (2 : Int))) ∧ (((4 : Nat) ≤ (4 : Nat)) ∧ ((((0 : Int) ≤ (1 : Int)) ∧ ((1 : Int) < (2 : Int))) ∧ (((4 : Nat) ≤ (4 : Nat)) ∧ ((True) ∧ ((True) ∧ (True))))))) (by intro x ext; kernel_rfl) ⟨⟨(by omega), (by omega)⟩, ⟨(by omega), ⟨⟨(by omega), (by omega)⟩, ⟨(by omega), ⟨trivial, ⟨trivial, trivial⟩⟩⟩⟩⟩⟩ ?_
        refine DerZ.callDI (i1) ⟨by kernel_rfl, by kernel_rfl⟩ ?_
        refine DerZ.callD (join2 (T.n (bothE k (kidE (T.mk n ks) 0) (kidE (T.mk m ls) 0))) (T.n (bothE k (kidE (T.mk n ks) 1) (kidE (T.mk m ls) 1))) (T.ks (bothE k (kidE (T.mk n ks) 0) (kidE (T.mk m ls) 0))) (T.ks (bothE k (kidE (T.mk n ks) 1) (kidE (T.mk m ls) 1))) ⟨(by omega), ⟨(by omega), ⟨(by omega), (by omega)⟩⟩⟩ ⟨(by omega), (by omega)⟩) ⟨[U6, U6, .fn 70 [], .fn 72 [], U6, U6, U6, U6, .ptr 2 0, .ptr 3 0, .ptr 4 0] ++ UU 18 ++ [.fn 72 [], .ptr 3 0, .agg [(I6 (T.n (kidE (T.mk n ks) 0))), tl (T.ks (kidE (T.mk n ks) 0))], .ptr 4 0, .agg [(I6 (T.n (kidE (T.mk m ls) 0))), tl (T.ks (kidE (T.mk m ls) 0))], .fn 70 [], .fn 72 [], .agg [(I6 (T.n (bothE k (kidE (T.mk n ks) 0) (kidE (T.mk m ls) 0)))), tl (T.ks (bothE k (kidE (T.mk n ks) 0) (kidE (T.mk m ls) 0)))], .ptr 3 2, .agg [(I6 (T.n (kidE (T.mk n ks) 1))), tl (T.ks (kidE (T.mk n ks) 1))], .ptr 4 2, .agg [(I6 (T.n (kidE (T.mk m ls) 1))), tl (T.ks (kidE (T.mk m ls) 1))], .fn 70 [], .fn 72 [], .agg [(I6 (T.n (bothE k (kidE (T.mk n ks) 1) (kidE (T.mk m ls) 1)))), tl (T.ks (bothE k (kidE (T.mk n ks) 1) (kidE (T.mk m ls) 1)))], .agg [(I6 (T.n (nodeE 0 (T.mk (T.n (bothE k (kidE (T.mk n ks) 0) (kidE (T.mk m ls) 0))) (T.ks (bothE k (kidE (T.mk n ks) 0) (kidE (T.mk m ls) 0)))) (T.mk (T.n (bothE k (kidE (T.mk n ks) 1) (kidE (T.mk m ls) 1))) (T.ks (bothE k (kidE (T.mk n ks) 1) (kidE (T.mk m ls) 1))))))), .sl (tcs (T.ks (nodeE 0 (T.mk (T.n (bothE k (kidE (T.mk n ks) 0) (kidE (T.mk m ls) 0))) (T.ks (bothE k (kidE (T.mk n ks) 0) (kidE (T.mk m ls) 0)))) (T.mk (T.n (bothE k (kidE (T.mk n ks) 1) (kidE (T.mk m ls) 1))) (T.ks (bothE k (kidE (T.mk n ks) 1) (kidE (T.mk m ls) 1))))))) (List.length (T.ks (nodeE 0 (T.mk (T.n (bothE k (kidE (T.mk n ks) 0) (kidE (T.mk m ls) 0))) (T.ks (bothE k (kidE (T.mk n ks) 0) (kidE (T.mk m ls) 0)))) (T.mk (T.n (bothE k (kidE (T.mk n ks) 1) (kidE (T.mk m ls) 1))) (T.ks (bothE k (kidE (T.mk n ks) 1) (kidE (T.mk m ls) 1))))))) .any]], [⟨[(I6 n), tl ks], 2, .fresh⟩, ⟨[(I6 m), tl ls], 2, .fresh⟩, ⟨[(I6 0), .sl [] 0 .nil], 2, .fresh⟩, ⟨[(I6 (T.n (kidE (T.mk n ks) 0))), tl (T.ks (kidE (T.mk n ks) 0)), (I6 (T.n (kidE (T.mk n ks) 1))), tl (T.ks (kidE (T.mk n ks) 1))], 2, .fresh⟩, ⟨[(I6 (T.n (kidE (T.mk m ls) 0))), tl (T.ks (kidE (T.mk m ls) 0)), (I6 (T.n (kidE (T.mk m ls) 1))), tl (T.ks (kidE (T.mk m ls) 1))], 2, .fresh⟩]⟩ ⟨by kernel_rfl, by kernel_rfl, by kernel_rfl⟩ ?_
        rw [Go.Tr.T.mk_eta (bothE k (kidE (T.mk n ks) 0) (kidE (T.mk m ls) 0))]
        rw [Go.Tr.T.mk_eta (bothE k (kidE (T.mk n ks) 1) (kidE (T.mk m ls) 1))]
        refine DerZ.effI 5 ((2 : Nat) ≤ (2 : Nat)) (by kernel_rfl) ⟨⟨by kernel_rfl, by kernel_rfl⟩, by kernel_rfl⟩ (by omega) ?_
        refine DerZ.nil ?_
        refine AWP.ret ?_
        refine FI (.agg [.sc (.int .i64 (T.n (nodeE 0 (bothE k (kidE (T.mk n ks) 0) (kidE (T.mk m ls) 0)) (bothE k (kidE (T.mk n ks) 1) (kidE (T.mk m ls) 1))))), .sl (tcs (T.ks (nodeE 0 (bothE k (kidE (T.mk n ks) 0) (kidE (T.mk m ls) 0)) (bothE k (kidE (T.mk n ks) 1) (kidE (T.mk m ls) 1))))) (List.length (T.ks (nodeE 0 (bothE k (kidE (T.mk n ks) 0) (kidE (T.mk m ls) 0)) (bothE k (kidE (T.mk n ks) 1) (kidE (T.mk m ls) 1))))) .any]) ?_
        refine Shrink.dataK [] (True) (.agg [.sc (.int .i64 (T.n (nodeE 0 (bothE k (kidE (T.mk n ks) 0) (kidE (T.mk m ls) 0)) (bothE k (kidE (T.mk n ks) 1) (kidE (T.mk m ls) 1))))), .sl (tcs (T.ks (nodeE 0 (bothE k (kidE (T.mk n ks) 0) (kidE (T.mk m ls) 0)) (bothE k (kidE (T.mk n ks) 1) (kidE (T.mk m ls) 1))))) (List.length (T.ks (nodeE 0 (bothE k (kidE (T.mk n ks) 0) (kidE (T.mk m ls) 0)) (bothE k (kidE (T.mk n ks) 1) (kidE (T.mk m ls) 1))))) .any]) (by kernel_rfl) trivial ?_ rfl
        (rw [bothE_in (by exact hc)]; rfl; done)
theorem e_Leq (n m : Int) (ks ls : List T) (hN : size (.mk n ks) ≤ 1000000) (hM : size (.mk m ls) ≤ 1000000) : EvD Try.prog 24 [.agg [.sc (.int .i64 n), .sl (tcs ks) ks.length .any], .agg [.sc (.int .i64 m), .sl (tcs ls) ls.length .any]] (.sc (.bool (leqP (.mk n ks) (.mk m ls)))) := by
  have q1 := e_check n ks hN
  have q2 := e_check m ls hM
  cases h1 : checkE (.mk n ks)
  · rw [h1] at q1
    refine EvD.body Try.func24 rfl rfl rfl ?_
    refine AWP.seq ?_
    refine TO ⟨[.agg [(I6 n), tl ks], .agg [(I6 m), tl ls]] ++ UU 14, []⟩ ?_
    refine AWP.reg (RT 3 ?_)
    refine AWP.seq (AWP.seq (KL [0, 1] ⟨[U6, U6, .ptr 0 0, .ptr 1 0, (B6 false)] ++ UU 11, [⟨[(I6 n), tl ks], 2, .fresh⟩, ⟨[(I6 m), tl ls], 2, .fresh⟩]⟩ ?_))
    refine AWP.reg (PI 1 (2 ≤ 2 ∧ True) ⟨(by omega), trivial⟩ ?_)
    refine CD (q1) ?_
    refine RT 3 ?_
    refine KL (NN 5 7) ⟨[U6, U6, .ptr 0 0, .ptr 1 0, (B6 false)] ++ UU 7 ++ [(B6 true), U6, U6, .undef], [⟨[(I6 n), tl ks], 2, .fresh⟩, ⟨[(I6 m), tl ls], 2, .fresh⟩]⟩ ?_
    refine CN true (fun _ => ?_) (fun h => nomatch h)
    refine SQ (RT 1 ?_)
    refine AWP.ret ?_
    refine FI (.sc (.bool false)) ?_
    refine Shrink.all ?_ rfl
    (simp [leqP, h1]; done)
  · rw [h1] at q1
    cases h2 : checkE (.mk m ls)
    · rw [h2] at q2
      refine EvD.body Try.func24 rfl rfl rfl ?_
      refine AWP.seq ?_
      refine TO ⟨[.agg [(I6 n), tl ks], .agg [(I6 m), tl ls]] ++ UU 14, []⟩ ?_
      refine AWP.reg (RT 3 ?_)
      refine AWP.seq (AWP.seq (KL [0, 1] ⟨[U6, U6, .ptr 0 0, .ptr 1 0, (B6 false)] ++ UU 11, [⟨[(I6 n), tl ks], 2, .fresh⟩, ⟨[(I6 m), tl ls], 2, .fresh⟩]⟩ ?_))
      refine AWP.reg (PI 1 (2 ≤ 2 ∧ True) ⟨(by omega), trivial⟩ ?_)
      refine CD (q1) ?_
      refine PI 3 (True ∧ True ∧ 2 ≤ 2 ∧ True) ⟨trivial, trivial, (by omega), trivial⟩ ?_
      refine CD (q2) ?_
      refine RT 2 ?_
      refine KL (NN 5 7) ⟨[U6, U6, .ptr 0 0, .ptr 1 0, (B6 false)] ++ UU 7 ++ [(B6 true), U6, U6, .undef], [⟨[(I6 n), tl ks], 2, .fresh⟩, ⟨[(I6 m), tl ls], 2, .fresh⟩]⟩ ?_
      refine CN true (fun _ => ?_) (fun h => nomatch h)
      refine SQ (RT 1 ?_)
      refine AWP.ret ?_
      refine FI (.sc (.bool false)) ?_
      refine Shrink.all ?_ rfl
      (simp [leqP, h1, h2]; done)
    · rw [h2] at q2
      have q3 := e_leq 16 n m ks ls 16 16 1073741824 (checkE_rough h1) (checkE_rough h2) (by omega) (checkE_depth h1) (checkE_depth h2)
      refine EvD.body Try.func24 rfl rfl rfl ?_
      refine AWP.seq ?_
      refine TO ⟨[.agg [(I6 n), tl ks], .agg [(I6 m), tl ls]] ++ UU 14, []⟩ ?_
      refine AWP.reg (RT 3 ?_)
      refine AWP.seq (AWP.seq (KL [0, 1] ⟨[U6, U6, .ptr 0 0, .ptr 1 0, (B6 false)] ++ UU 11, [⟨[(I6 n), tl ks], 2, .fresh⟩, ⟨[(I6 m), tl ls], 2, .fresh⟩]⟩ ?_))
      refine AWP.reg (PI 1 (2 ≤ 2 ∧ True) ⟨(by omega), trivial⟩ ?_)
      refine CD (q1) ?_
      refine PI 3 (True ∧ True ∧ 2 ≤ 2 ∧ True) ⟨trivial, trivial, (by omega), trivial⟩ ?_
      refine CD (q2) ?_
      refine RT 2 ?_
      refine KL (NN 5 7) ⟨[U6, U6, .ptr 0 0, .ptr 1 0, (B6 false)] ++ UU 7 ++ [(B6 false), U6, U6, .undef], [⟨[(I6 n), tl ks], 2, .fresh⟩, ⟨[(I6 m), tl ls], 2, .fresh⟩]⟩ ?_
      refine CN false (fun h => nomatch h) (fun _ => ?_)
      refine AWP.skip (SQ (PI 2 (2 ≤ 2 ∧ 2 ≤ 2 ∧ True) ⟨(by omega), (by omega), trivial⟩ ?_))
      refine CD (q3) ?_
      refine RT 1 ?_
      refine AWP.ret ?_
      refine FI (.sc (.bool (leqE 16 (T.mk n ks) (T.mk m ls)))) ?_
      refine Shrink.all ?_ rfl
      (simp [leqP, h1, h2]; done)
theorem e_Join (n m : Int) (ks ls : List T) (hN : size (.mk n ks) ≤ 1000000) (hM : size (.mk m ls) ≤ 1000000) : EvD Try.prog 21 [.agg [.sc (.int .i64 n), .sl (tcs ks) ks.length .any], .agg [.sc (.int .i64 m), .sl (tcs ls) ls.length .any]] (.tup [ag (joinP (.mk n ks) (.mk m ls)).1, .sc (.int .i64 (joinP (.mk n ks) (.mk m ls)).2)]) := by
  have q1 := e_check n ks hN
  have q2 := e_check m ls hM
  cases h1 : checkE (.mk n ks)
  · rw [h1] at q1
    refine EvD.body Try.func21 rfl rfl rfl ?_
    refine AWP.seq ?_
    refine TO ⟨[.agg [(I6 n), tl ks], .agg [(I6 m), tl ls]] ++ UU 18, []⟩ ?_
    refine AWP.reg (RT 4 ?_)
    refine AWP.seq (AWP.seq (KL [0, 1] ⟨[U6, U6, .ptr 0 0, .ptr 1 0, .ptr 2 0, (I6 0)] ++ UU 14, [⟨[(I6 n), tl ks], 2, .fresh⟩, ⟨[(I6 m), tl ls], 2, .fresh⟩, ⟨[(I6 0), .sl [] 0 .nil], 2, .fresh⟩]⟩ ?_))
    refine AWP.reg (PI 1 (2 ≤ 2 ∧ True) ⟨(by omega), trivial⟩ ?_)
    refine CD (q1) ?_
    refine RT 3 ?_
    refine KL (NN 7 7) ⟨[U6, U6, .ptr 0 0, .ptr 1 0, .ptr 2 0, (I6 0)] ++ UU 8 ++ [(B6 true)] ++ UU 5, [⟨[(I6 n), tl ks], 2, .fresh⟩, ⟨[(I6 m), tl ls], 2, .fresh⟩, ⟨[(I6 0), .sl [] 0 .nil], 2, .fresh⟩]⟩ ?_
    refine CN true (fun _ => ?_) (fun h => nomatch h)
    refine SQ (RI (True ∧ 2 ≤ 2 ∧ True ∧ True) ⟨trivial, (by omega), trivial, trivial⟩ ?_)
    refine AWP.ret ?_
    refine FI (.tup [.agg [.sc (.int .i64 0), .sl [] 0 .nil], .sc (.int .i64 3)]) ?_
    refine Shrink.dataK [] (True) (.tup [.agg [.sc (.int .i64 0), .sl [] 0 .nil], .sc (.int .i64 3)]) (by kernel_rfl) trivial ?_ rfl
    (rw [joinP, if_neg (by rw [h1]; simp)]; rfl; done)
  · rw [h1] at q1
    cases h2 : checkE (.mk m ls)
    · rw [h2] at q2
      refine EvD.body Try.func21 rfl rfl rfl ?_
      refine AWP.seq ?_
      refine TO ⟨[.agg [(I6 n), tl ks], .agg [(I6 m), tl ls]] ++ UU 18, []⟩ ?_
      refine AWP.reg (RT 4 ?_)
      refine AWP.seq (AWP.seq (KL [0, 1] ⟨[U6, U6, .ptr 0 0, .ptr 1 0, .ptr 2 0, (I6 0)] ++ UU 14, [⟨[(I6 n), tl ks], 2, .fresh⟩, ⟨[(I6 m), tl ls], 2, .fresh⟩, ⟨[(I6 0), .sl [] 0 .nil], 2, .fresh⟩]⟩ ?_))
      refine AWP.reg (PI 1 (2 ≤ 2 ∧ True) ⟨(by omega), trivial⟩ ?_)
      refine CD (q1) ?_
      refine PI 3 (True ∧ True ∧ 2 ≤ 2 ∧ True) ⟨trivial, trivial, (by omega), trivial⟩ ?_
      refine CD (q2) ?_
      refine RT 2 ?_
      refine KL (NN 7 7) ⟨[U6, U6, .ptr 0 0, .ptr 1 0, .ptr 2 0, (I6 0)] ++ UU 8 ++ [(B6 true)] ++ UU 5, [⟨[(I6 n), tl ks], 2, .fresh⟩, ⟨[(I6 m), tl ls], 2, .fresh⟩, ⟨[(I6 0), .sl [] 0 .nil], 2, .fresh⟩]⟩ ?_
      refine CN true (fun _ => ?_) (fun h => nomatch h)
      refine SQ (RI (True ∧ 2 ≤ 2 ∧ True ∧ True) ⟨trivial, (by omega), trivial, trivial⟩ ?_)
      refine AWP.ret ?_
      refine FI (.tup [.agg [.sc (.int .i64 0), .sl [] 0 .nil], .sc (.int .i64 3)]) ?_
      refine Shrink.dataK [] (True) (.tup [.agg [.sc (.int .i64 0), .sl [] 0 .nil], .sc (.int .i64 3)]) (by kernel_rfl) trivial ?_ rfl
      (rw [joinP, if_neg (by rw [h2]; simp)]; rfl; done)
    · rw [h2] at q2
      have q3 := e_both 16 n m ks ls 16 16 1073741824 (checkE_rough h1) (checkE_rough h2) (by omega) (checkE_depth h1) (checkE_depth h2) rfl (by omega) (by omega)
      rw [show bothE 16 (.mk n ks) (.mk m ls) = (joinP (.mk n ks) (.mk m ls)).1 by rw [joinP, if_pos ⟨h1, h2⟩]] at q3
      have e : (joinP (.mk n ks) (.mk m ls)).2 = 0 := by rw [joinP, if_pos ⟨h1, h2⟩]
      rw [e]
      refine EvD.body Try.func21 rfl rfl rfl ?_
      refine AWP.seq ?_
      refine TO ⟨[.agg [(I6 n), tl ks], .agg [(I6 m), tl ls]] ++ UU 18, []⟩ ?_
      refine AWP.reg (RT 4 ?_)
      refine AWP.seq (AWP.seq (KL [0, 1] ⟨[U6, U6, .ptr 0 0, .ptr 1 0, .ptr 2 0, (I6 0)] ++ UU 14, [⟨[(I6 n), tl ks], 2, .fresh⟩, ⟨[(I6 m), tl ls], 2, .fresh⟩, ⟨[(I6 0), .sl [] 0 .nil], 2, .fresh⟩]⟩ ?_))
      refine AWP.reg (PI 1 (2 ≤ 2 ∧ True) ⟨(by omega), trivial⟩ ?_)
      refine CD (q1) ?_
      refine PI 3 (True ∧ True ∧ 2 ≤ 2 ∧ True) ⟨trivial, trivial, (by omega), trivial⟩ ?_
      refine CD (q2) ?_
      refine RT 2 ?_
      refine KL (NN 7 7) ⟨[U6, U6, .ptr 0 0, .ptr 1 0, .ptr 2 0, (I6 0)] ++ UU 8 ++ [(B6 false)] ++ UU 5, [⟨[(I6 n), tl ks], 2, .fresh⟩, ⟨[(I6 m), tl ls], 2, .fresh⟩, ⟨[(I6 0), .sl [] 0 .nil], 2, .fresh⟩]⟩ ?_
      refine CN false (fun h => nomatch h) (fun _ => ?_)
      refine AWP.skip (SQ (RT 1 ?_))
      refine AWP.seq (KL [14] ⟨[U6, U6, .ptr 0 0, .ptr 1 0, .ptr 2 0, (I6 0), .fn 70 []] ++ UU 13, [⟨[(I6 n), tl ks], 2, .fresh⟩, ⟨[(I6 m), tl ls], 2, .fresh⟩, ⟨[(I6 0), .sl [] 0 .nil], 2, .fresh⟩]⟩ ?_)
      refine AWP.reg (PI 3 (2 ≤ 2 ∧ 2 ≤ 2 ∧ True ∧ True) ⟨(by omega), (by omega), trivial, trivial⟩ ?_)
      refine CD (q3) ?_
      refine RI (2 ≤ 2 ∧ True ∧ True) ⟨(by omega), trivial, trivial⟩ ?_
      refine AWP.ret FA
end Go.Tr
