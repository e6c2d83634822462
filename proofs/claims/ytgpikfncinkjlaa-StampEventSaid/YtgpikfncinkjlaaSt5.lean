/- Walks and laws. -/
import Derived.Test.YtgpikfncinkjlaaSt4
import Derived.Test.YtgpikfncinkjlaaStR
import Derived.Test.YtgpikfncinkjlaaLibB
set_option maxRecDepth 100000
set_option maxHeartbeats 0
set_option linter.unusedSimpArgs false
set_option linter.unusedVariables false
namespace Go.Tr
open Go Go.Abs Go.Proofs
theorem s_next (n m : Int) (ks ls : List T) (hN : size (.mk n ks) ≤ 1000) (hM : size (.mk m ls) ≤ 1000) (hv : validI (.mk n ks) = true) (hn : normI (.mk n ks) = (.mk n ks)) (h0 : ¬ isT (.mk n ks) 0) (hc : checkE (.mk m ls) = true) : EvD Try.prog 98 [.agg [.sc (.int .i64 n), .sl (tcs ks) ks.length .any, .sc (.int .i64 m), .sl (tcs ls) ls.length .any]] (ag (nextE (.mk n ks) (.mk m ls))) := by
  have q1 := s_fill _ n m ks ls 16 1073741824 (Nat.le_refl _) hv hn (checkE_rough hc) (by omega) (by omega)
  have z := fill_size (.mk n ks) (.mk m ls)
  have q2 := same118 1000 (by omega) (fillE (.mk n ks) (.mk m ls)).n m (fillE (.mk n ks) (.mk m ls)).ks ls (by rw [T.mk_eta]; omega)
  rw [T.mk_eta] at q2
  have q3 := s_grow _ n m ks ls 1000 1073741824 (Nat.le_refl _) (by omega) hv hn h0 (roughE_deep _ 16 1000 _ (by omega) (by omega) (checkE_rough hc)) (by omega) (by omega)
  cases hb : beqT (fillE (.mk n ks) (.mk m ls)) (.mk m ls)
  · rw [hb] at q2
    rw [nextE, if_neg (by rw [hb]; simp)]
    refine EvD.body Try.func98 rfl rfl rfl ?_
    refine AWP.seq ?_
    refine TO ⟨[.agg [(I6 n), tl ks, (I6 m), tl ls]] ++ UU 26, []⟩ ?_
    refine AWP.reg (RT 2 ?_)
    refine AWP.seq (KL [0] ⟨[U6, .ptr 0 0, .ptr 1 0] ++ UU 24, [⟨[(I6 n), tl ks, (I6 m), tl ls], 4, .fresh⟩, ⟨[(I6 0), .sl [] 0 .nil], 2, .fresh⟩]⟩ ?_)
    refine AWP.reg (PI 6 (True ∧ True ∧ 2 ≤ 4 ∧ True ∧ True ∧ 4 ≤ 4 ∧ True) ⟨trivial, trivial, (by omega), trivial, trivial, (by omega), trivial⟩ ?_)
    refine CD (q1) ?_
    refine RI (True ∧ 2 ≤ 2 ∧ True) ⟨trivial, (by omega), trivial⟩ ?_
    refine AWP.seq (AWP.seq (KL (NN 4 7) ⟨[U6, .ptr 0 0, .ptr 1 0, .ptr 2 0] ++ UU 23, [⟨[(I6 n), tl ks, (I6 m), tl ls], 4, .fresh⟩, ⟨[(I6 0), .sl [] 0 .nil], 2, .fresh⟩, ⟨[(I6 (T.n (fillE (T.mk n ks) (T.mk m ls)))), tl (T.ks (fillE (T.mk n ks) (T.mk m ls)))], 2, .fresh⟩]⟩ ?_))
    refine AWP.reg (PI 4 (2 ≤ 2 ∧ True ∧ True ∧ 4 ≤ 4 ∧ True) ⟨(by omega), trivial, trivial, (by omega), trivial⟩ ?_)
    refine CD (q2) ?_
    refine DerQ.nil ?_
    refine KL [11, 12, 13, 14] ⟨[U6, .ptr 0 0, .ptr 1 0, .ptr 2 0] ++ UU 11 ++ [(B6 false)] ++ UU 11, [⟨[(I6 n), tl ks, (I6 m), tl ls], 4, .fresh⟩, ⟨[(I6 0), .sl [] 0 .nil], 2, .fresh⟩, ⟨[(I6 (T.n (fillE (T.mk n ks) (T.mk m ls)))), tl (T.ks (fillE (T.mk n ks) (T.mk m ls)))], 2, .fresh⟩]⟩ ?_
    refine CN false (fun h => nomatch h) (fun _ => ?_)
    refine AWP.skip (SQ (RI (2 ≤ 2 ∧ 2 ≤ 2 ∧ True) ⟨(by omega), (by omega), trivial⟩ ?_))
    refine AWP.ret FA
  · rw [hb] at q2
    rw [nextE, if_pos hb]
    refine EvD.body Try.func98 rfl rfl rfl ?_
    refine AWP.seq ?_
    refine TO ⟨[.agg [(I6 n), tl ks, (I6 m), tl ls]] ++ UU 26, []⟩ ?_
    refine AWP.reg (RT 2 ?_)
    refine AWP.seq (KL [0] ⟨[U6, .ptr 0 0, .ptr 1 0] ++ UU 24, [⟨[(I6 n), tl ks, (I6 m), tl ls], 4, .fresh⟩, ⟨[(I6 0), .sl [] 0 .nil], 2, .fresh⟩]⟩ ?_)
    refine AWP.reg (PI 6 (True ∧ True ∧ 2 ≤ 4 ∧ True ∧ True ∧ 4 ≤ 4 ∧ True) ⟨trivial, trivial, (by omega), trivial, trivial, (by omega), trivial⟩ ?_)
    refine CD (q1) ?_
    refine RI (True ∧ 2 ≤ 2 ∧ True) ⟨trivial, (by omega), trivial⟩ ?_
    refine AWP.seq (AWP.seq (KL (NN 4 7) ⟨[U6, .ptr 0 0, .ptr 1 0, .ptr 2 0] ++ UU 23, [⟨[(I6 n), tl ks, (I6 m), tl ls], 4, .fresh⟩, ⟨[(I6 0), .sl [] 0 .nil], 2, .fresh⟩, ⟨[(I6 (T.n (fillE (T.mk n ks) (T.mk m ls)))), tl (T.ks (fillE (T.mk n ks) (T.mk m ls)))], 2, .fresh⟩]⟩ ?_))
    refine AWP.reg (PI 4 (2 ≤ 2 ∧ True ∧ True ∧ 4 ≤ 4 ∧ True) ⟨(by omega), trivial, trivial, (by omega), trivial⟩ ?_)
    refine CD (q2) ?_
    refine DerQ.nil ?_
    refine KL [11, 12, 13, 14] ⟨[U6, .ptr 0 0, .ptr 1 0, .ptr 2 0] ++ UU 11 ++ [(B6 true)] ++ UU 11, [⟨[(I6 n), tl ks, (I6 m), tl ls], 4, .fresh⟩, ⟨[(I6 0), .sl [] 0 .nil], 2, .fresh⟩, ⟨[(I6 (T.n (fillE (T.mk n ks) (T.mk m ls)))), tl (T.ks (fillE (T.mk n ks) (T.mk m ls)))], 2, .fresh⟩]⟩ ?_
    refine CN true (fun _ => ?_) (fun h => nomatch h)
    refine AWP.reg (PI 6 (True ∧ True ∧ 2 ≤ 4 ∧ True ∧ True ∧ 4 ≤ 4 ∧ True) ⟨trivial, trivial, (by omega), trivial, trivial, (by omega), trivial⟩ ?_)
    refine CD (q3) ?_
    refine RI (True ∧ True ∧ True ∧ 2 ≤ 2 ∧ True) ⟨trivial, trivial, trivial, (by omega), trivial⟩ ?_
    refine AWP.seq (KL ([1] ++ NN 15 11) ⟨[U6, U6, .ptr 1 0, .ptr 2 0] ++ UU 23, [⟨[(I6 n), tl ks, (I6 m), tl ls], 4, .fresh⟩, ⟨[(I6 0), .sl [] 0 .nil], 2, .fresh⟩, ⟨[(I6 (T.n (growE (T.mk n ks) (T.mk m ls)).1)), tl (T.ks (growE (T.mk n ks) (T.mk m ls)).1)], 2, .fresh⟩]⟩ ?_)
    refine AWP.reg (RI (2 ≤ 2 ∧ 2 ≤ 2 ∧ True) ⟨(by omega), (by omega), trivial⟩ ?_)
    refine AWP.ret FA
theorem s_Event (n m : Int) (ks ls : List T) (hN : size (.mk n ks) ≤ 1000) (hM : size (.mk m ls) ≤ 1000) : EvD Try.prog 53 [.agg [.sc (.int .i64 n), .sl (tcs ks) ks.length .any, .sc (.int .i64 m), .sl (tcs ls) ls.length .any]] (.tup [sg (eventP (.mk n ks) (.mk m ls)).1.1 (eventP (.mk n ks) (.mk m ls)).1.2, .sc (.int .i64 (eventP (.mk n ks) (.mk m ls)).2)]) := by
  have q1 := s_check n m ks ls (by omega) (by omega)
  cases hc : checkS (.mk n ks) (.mk m ls)
  · rw [hc] at q1
    refine EvD.body Try.func53 rfl rfl rfl ?_
    refine AWP.seq ?_
    refine TO ⟨[.agg [(I6 n), tl ks, (I6 m), tl ls]] ++ UU 33, []⟩ ?_
    refine AWP.reg (RT 3 ?_)
    refine AWP.seq (AWP.block (AWP.seq (KL [0] ⟨[U6, .ptr 0 0, .ptr 1 0, (I6 0)] ++ UU 30, [⟨[(I6 n), tl ks, (I6 m), tl ls], 4, .fresh⟩, ⟨[(I6 0), .sl [] 0 .nil, (I6 0), .sl [] 0 .nil], 4, .fresh⟩]⟩ ?_)))
    refine AWP.reg (PI 1 (4 ≤ 4 ∧ True) ⟨(by omega), trivial⟩ ?_)
    refine CD (q1) ?_
    refine RT 2 ?_
    refine KL [7, 8, 9] ⟨[U6, .ptr 0 0, .ptr 1 0, (I6 0), U6, U6, (B6 true)] ++ UU 27, [⟨[(I6 n), tl ks, (I6 m), tl ls], 4, .fresh⟩, ⟨[(I6 0), .sl [] 0 .nil, (I6 0), .sl [] 0 .nil], 4, .fresh⟩]⟩ ?_
    refine CN true (fun _ => ?_) (fun h => nomatch h)
    refine SQ (RI (True ∧ 4 ≤ 4 ∧ True ∧ True) ⟨trivial, (by omega), trivial, trivial⟩ ?_)
    refine AWP.ret ?_
    refine FI (.tup [.agg [.sc (.int .i64 0), .sl [] 0 .nil, .sc (.int .i64 0), .sl [] 0 .nil], .sc (.int .i64 3)]) ?_
    refine Shrink.dataK [] (True) (.tup [.agg [.sc (.int .i64 0), .sl [] 0 .nil, .sc (.int .i64 0), .sl [] 0 .nil], .sc (.int .i64 3)]) (by kernel_rfl) trivial ?_ rfl
    (rw [eventP, if_neg (by rw [hc]; simp)]; rfl; done)
  · rw [hc] at q1
    have hc' := hc
    simp only [checkS, Bool.and_eq_true] at hc'
    obtain ⟨hi, he⟩ := hc'
    by_cases h0 : isT (.mk n ks) 0
    · have q2 := dec_t (s_is n 0 (tcs ks) ks.length) (by exact h0)
      refine EvD.body Try.func53 rfl rfl rfl ?_
      refine AWP.seq ?_
      refine TO ⟨[.agg [(I6 n), tl ks, (I6 m), tl ls]] ++ UU 33, []⟩ ?_
      refine AWP.reg (RT 3 ?_)
      refine AWP.seq (AWP.block (AWP.seq (KL [0] ⟨[U6, .ptr 0 0, .ptr 1 0, (I6 0)] ++ UU 30, [⟨[(I6 n), tl ks, (I6 m), tl ls], 4, .fresh⟩, ⟨[(I6 0), .sl [] 0 .nil, (I6 0), .sl [] 0 .nil], 4, .fresh⟩]⟩ ?_)))
      refine AWP.reg (PI 1 (4 ≤ 4 ∧ True) ⟨(by omega), trivial⟩ ?_)
      refine CD (q1) ?_
      refine RT 2 ?_
      refine KL [7, 8, 9] ⟨[U6, .ptr 0 0, .ptr 1 0, (I6 0), U6, U6, (B6 false)] ++ UU 27, [⟨[(I6 n), tl ks, (I6 m), tl ls], 4, .fresh⟩, ⟨[(I6 0), .sl [] 0 .nil, (I6 0), .sl [] 0 .nil], 4, .fresh⟩]⟩ ?_
      refine CN false (fun h => nomatch h) (fun _ => ?_)
      refine SQ (PI 2 (True ∧ 2 ≤ 4 ∧ True) ⟨trivial, (by omega), trivial⟩ ?_)
      refine CD (q2) ?_
      refine RT 1 ?_
      refine KL [6, 12, 13, 14] ⟨[U6, .ptr 0 0, .ptr 1 0, (I6 0)] ++ UU 7 ++ [(B6 true)] ++ UU 22, [⟨[(I6 n), tl ks, (I6 m), tl ls], 4, .fresh⟩, ⟨[(I6 0), .sl [] 0 .nil, (I6 0), .sl [] 0 .nil], 4, .fresh⟩]⟩ ?_
      refine CN true (fun _ => ?_) (fun h => nomatch h)
      refine SQ (RI (True ∧ 4 ≤ 4 ∧ True ∧ True) ⟨trivial, (by omega), trivial, trivial⟩ ?_)
      refine AWP.ret ?_
      refine FI (.tup [.agg [.sc (.int .i64 0), .sl [] 0 .nil, .sc (.int .i64 0), .sl [] 0 .nil], .sc (.int .i64 7)]) ?_
      refine Shrink.dataK [] (True) (.tup [.agg [.sc (.int .i64 0), .sl [] 0 .nil, .sc (.int .i64 0), .sl [] 0 .nil], .sc (.int .i64 7)]) (by kernel_rfl) trivial ?_ rfl
      (rw [eventP, if_pos hc, if_pos h0]; rfl; done)
    · have q2 := dec_f (s_is n 0 (tcs ks) ks.length) (by exact h0)
      have hv := ((rough_iff _ 16 (by omega)).1 (check_rough hi)).1
      have hn := check_norm hi
      have nr := next_rough (i := (.mk n ks)) (e := (.mk m ls)) hN he
      have ns := next_size (.mk n ks) (.mk m ls)
      have er := end_rng true _ _ _ nr
      have dd := depth_size (nextE (.mk n ks) (.mk m ls))
      have q3 := s_next n m ks ls hN hM hv hn h0 he
      have q4 := s_top 4000 (nextE (.mk n ks) (.mk m ls)).n (nextE (.mk n ks) (.mk m ls)).ks 1000 1073741825 (by rw [T.mk_eta]; omega) (by rw [T.mk_eta]; exact nr) (by omega)
      rw [T.mk_eta] at q4
      have q5 := s_deep 4000 (nextE (.mk n ks) (.mk m ls)).n (nextE (.mk n ks) (.mk m ls)).ks (by rw [T.mk_eta]; omega) (by omega) (by rw [T.mk_eta]; exact roughE_bin _ _ _ nr)
      rw [T.mk_eta] at q5
      refine EvD.body Try.func53 rfl rfl rfl ?_
      refine AWP.seq ?_
      refine TO ⟨[.agg [(I6 n), tl ks, (I6 m), tl ls]] ++ UU 33, []⟩ ?_
      refine AWP.reg (RT 3 ?_)
      refine AWP.seq (AWP.block (AWP.seq (KL [0] ⟨[U6, .ptr 0 0, .ptr 1 0, (I6 0)] ++ UU 30, [⟨[(I6 n), tl ks, (I6 m), tl ls], 4, .fresh⟩, ⟨[(I6 0), .sl [] 0 .nil, (I6 0), .sl [] 0 .nil], 4, .fresh⟩]⟩ ?_)))
      refine AWP.reg (PI 1 (4 ≤ 4 ∧ True) ⟨(by omega), trivial⟩ ?_)
      refine CD (q1) ?_
      refine RT 2 ?_
      refine KL [7, 8, 9] ⟨[U6, .ptr 0 0, .ptr 1 0, (I6 0), U6, U6, (B6 false)] ++ UU 27, [⟨[(I6 n), tl ks, (I6 m), tl ls], 4, .fresh⟩, ⟨[(I6 0), .sl [] 0 .nil, (I6 0), .sl [] 0 .nil], 4, .fresh⟩]⟩ ?_
      refine CN false (fun h => nomatch h) (fun _ => ?_)
      refine SQ (PI 2 (True ∧ 2 ≤ 4 ∧ True) ⟨trivial, (by omega), trivial⟩ ?_)
      refine CD (q2) ?_
      refine RT 1 ?_
      refine KL [6, 12, 13, 14] ⟨[U6, .ptr 0 0, .ptr 1 0, (I6 0)] ++ UU 7 ++ [(B6 false)] ++ UU 22, [⟨[(I6 n), tl ks, (I6 m), tl ls], 4, .fresh⟩, ⟨[(I6 0), .sl [] 0 .nil, (I6 0), .sl [] 0 .nil], 4, .fresh⟩]⟩ ?_
      refine CN false (fun h => nomatch h) (fun _ => ?_)
      refine AWP.skip (SQ (RI (4 ≤ 4 ∧ True ∧ True ∧ 4 ≤ 4 ∧ True) ⟨(by omega), trivial, trivial, (by omega), trivial⟩ ?_))
      refine AWP.seq (KL [11, 16, 17] ⟨[U6, .ptr 0 0, .ptr 1 0, (I6 0), .ptr 2 0] ++ UU 29, [⟨[(I6 n), tl ks, (I6 m), tl ls], 4, .fresh⟩, ⟨[(I6 0), .sl [] 0 .nil, (I6 0), .sl [] 0 .nil], 4, .fresh⟩, ⟨[(I6 n), tl ks, (I6 m), tl ls], 4, .fresh⟩]⟩ ?_)
      refine AWP.reg (PI 1 (4 ≤ 4 ∧ True) ⟨(by omega), trivial⟩ ?_)
      refine CD (q3) ?_
      refine RI (True ∧ 2 ≤ 2 ∧ True) ⟨trivial, (by omega), trivial⟩ ?_
      refine AWP.seq (AWP.block (AWP.seq (KL [4, 18, 19] ⟨[U6, .ptr 0 0, .ptr 1 0, (I6 0), U6, .ptr 3 0] ++ UU 28, [⟨[(I6 n), tl ks, (I6 m), tl ls], 4, .fresh⟩, ⟨[(I6 0), .sl [] 0 .nil, (I6 0), .sl [] 0 .nil], 4, .fresh⟩, ⟨[(I6 n), tl ks, (I6 m), tl ls], 4, .fresh⟩, ⟨[(I6 (T.n (nextE (T.mk n ks) (T.mk m ls)))), tl (T.ks (nextE (T.mk n ks) (T.mk m ls)))], 2, .fresh⟩]⟩ ?_)))
      refine AWP.reg (PI 1 (2 ≤ 2 ∧ True) ⟨(by omega), trivial⟩ ?_)
      refine CD (q4) ?_
      refine RT 2 ?_
      refine KL [21, 22, 23] ⟨[U6, .ptr 0 0, .ptr 1 0, (I6 0), U6, .ptr 3 0] ++ UU 14 ++ [(B6 (decide (endE true (nextE (T.mk n ks) (T.mk m ls)) > 1073741824)))] ++ UU 13, [⟨[(I6 n), tl ks, (I6 m), tl ls], 4, .fresh⟩, ⟨[(I6 0), .sl [] 0 .nil, (I6 0), .sl [] 0 .nil], 4, .fresh⟩, ⟨[(I6 n), tl ks, (I6 m), tl ls], 4, .fresh⟩, ⟨[(I6 (T.n (nextE (T.mk n ks) (T.mk m ls)))), tl (T.ks (nextE (T.mk n ks) (T.mk m ls)))], 2, .fresh⟩]⟩ ?_
      refine CN (decide (endE true (nextE (T.mk n ks) (T.mk m ls)) > 1073741824)) (fun h1 => ?_) (fun h1 => ?_)
      · have h1' := of_decide_eq_true h1
        refine SQ (RI (True ∧ 4 ≤ 4 ∧ True ∧ True) ⟨trivial, (by omega), trivial, trivial⟩ ?_)
        refine AWP.ret ?_
        refine FI (.tup [.agg [.sc (.int .i64 0), .sl [] 0 .nil, .sc (.int .i64 0), .sl [] 0 .nil], .sc (.int .i64 41)]) ?_
        refine Shrink.dataK [] (True) (.tup [.agg [.sc (.int .i64 0), .sl [] 0 .nil, .sc (.int .i64 0), .sl [] 0 .nil], .sc (.int .i64 41)]) (by kernel_rfl) trivial ?_ rfl
        (rw [eventP, if_pos hc, if_neg h0, if_pos (by omega)]; rfl; done)
      · have h1' := of_decide_eq_false h1
        refine SQ (PI 1 (2 ≤ 2 ∧ True) ⟨(by omega), trivial⟩ ?_)
        refine CD (q5) ?_
        refine RT 2 ?_
        refine KL [20, 26, 27, 28] ⟨[U6, .ptr 0 0, .ptr 1 0, (I6 0), U6, .ptr 3 0] ++ UU 19 ++ [(B6 (decide ((↑(depthT (nextE (T.mk n ks) (T.mk m ls))) : Int) > 16)))] ++ UU 8, [⟨[(I6 n), tl ks, (I6 m), tl ls], 4, .fresh⟩, ⟨[(I6 0), .sl [] 0 .nil, (I6 0), .sl [] 0 .nil], 4, .fresh⟩, ⟨[(I6 n), tl ks, (I6 m), tl ls], 4, .fresh⟩, ⟨[(I6 (T.n (nextE (T.mk n ks) (T.mk m ls)))), tl (T.ks (nextE (T.mk n ks) (T.mk m ls)))], 2, .fresh⟩]⟩ ?_
        refine CN (decide ((↑(depthT (nextE (T.mk n ks) (T.mk m ls))) : Int) > 16)) (fun h2 => ?_) (fun h2 => ?_)
        · have h2' := of_decide_eq_true h2
          refine SQ (RI (True ∧ 4 ≤ 4 ∧ True ∧ True) ⟨trivial, (by omega), trivial, trivial⟩ ?_)
          refine AWP.ret ?_
          refine FI (.tup [.agg [.sc (.int .i64 0), .sl [] 0 .nil, .sc (.int .i64 0), .sl [] 0 .nil], .sc (.int .i64 40)]) ?_
          refine Shrink.dataK [] (True) (.tup [.agg [.sc (.int .i64 0), .sl [] 0 .nil, .sc (.int .i64 0), .sl [] 0 .nil], .sc (.int .i64 40)]) (by kernel_rfl) trivial ?_ rfl
          (rw [eventP, if_pos hc, if_neg h0, if_neg (by omega), if_pos (by omega)]; rfl; done)
        · have h2' := of_decide_eq_false h2
          refine AWP.skip (SQ (RI (True ∧ 2 ≤ 4 ∧ 2 ≤ 2 ∧ True ∧ 4 ≤ 4 ∧ True ∧ True) ⟨trivial, (by omega), (by omega), trivial, (by omega), trivial, trivial⟩ ?_))
          refine AWP.ret ?_
          refine FI (.tup [.agg [.sc (.int .i64 (n)), .sl (tcs ks) (List.length ks) .any, .sc (.int .i64 (T.n (nextE (T.mk n ks) (T.mk m ls)))), .sl (tcs (T.ks (nextE (T.mk n ks) (T.mk m ls)))) (List.length (T.ks (nextE (T.mk n ks) (T.mk m ls)))) .any], .sc (.int .i64 0)]) ?_
          refine Shrink.dataK [] (True) (.tup [.agg [.sc (.int .i64 (n)), .sl (tcs ks) (List.length ks) .any, .sc (.int .i64 (T.n (nextE (T.mk n ks) (T.mk m ls)))), .sl (tcs (T.ks (nextE (T.mk n ks) (T.mk m ls)))) (List.length (T.ks (nextE (T.mk n ks) (T.mk m ls)))) .any], .sc (.int .i64 0)]) (by kernel_rfl) trivial ?_ rfl
          (rw [eventP, if_pos hc, if_neg h0, if_neg (by omega), if_neg (by omega)]; rfl; done)
end Go.Tr
