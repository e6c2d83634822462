/- Walks and laws. -/
import Derived.Test.YtgpikfncinkjlaaSt0
import Derived.Test.YtgpikfncinkjlaaEv5
import Derived.Test.YtgpikfncinkjlaaId5
import Derived.Test.YtgpikfncinkjlaaLibB
set_option maxRecDepth 100000
set_option maxHeartbeats 0
set_option linter.unusedSimpArgs false
set_option linter.unusedVariables false
namespace Go.Tr
open Go Go.Abs Go.Proofs
theorem s_check (n m : Int) (ks ls : List T) (hN : size (.mk n ks) ≤ 1000000) (hM : size (.mk m ls) ≤ 1000000) : EvD Try.prog 55 [.agg [.sc (.int .i64 n), .sl (tcs ks) ks.length .any, .sc (.int .i64 m), .sl (tcs ls) ls.length .any]] (.sc (.bool (checkS (.mk n ks) (.mk m ls)))) := by
  have q1 := check n ks hN
  have q2 := e_check m ls hM
  refine EvD.body Try.func55 rfl rfl rfl ?_
  refine AWP.seq ?_
  refine TO ⟨[.agg [(I6 n), tl ks, (I6 m), tl ls]] ++ UU 10, []⟩ ?_
  refine AWP.reg (RT 2 ?_)
  refine AWP.seq (KL [0] ⟨[U6, .ptr 0 0, (B6 false)] ++ UU 8, [⟨[(I6 n), tl ks, (I6 m), tl ls], 4, .fresh⟩]⟩ ?_)
  refine AWP.reg (PI 2 (True ∧ 2 ≤ 4 ∧ True) ⟨trivial, (by omega), trivial⟩ ?_)
  refine CD (q1) ?_
  refine PT 1 1 ?_
  refine DerQ.to ⟨[U6, .ptr 0 0, (B6 false), .ptr 0 0, .agg [(I6 n), tl ks], (B6 (checkI (T.mk n ks))), (B6 (checkI (T.mk n ks))), U6, U6, U6, .undef], [⟨[(I6 n), tl ks, (I6 m), tl ls], 4, .fresh⟩]⟩ (by kernel_rfl) ?_
  cases h1 : (checkI (T.mk n ks))
  · refine RT 2 ?_
    refine AWP.ret ?_
    refine FI (.sc (.bool false)) ?_
    refine Shrink.all ?_ rfl
    (simp [checkS, *]; done)
  · refine PI 2 (True ∧ 4 ≤ 4 ∧ True) ⟨trivial, (by omega), trivial⟩ ?_
    refine CD (q2) ?_
    refine RT 2 ?_
    refine AWP.ret ?_
    refine FI (.sc (.bool (checkE (T.mk m ls)))) ?_
    refine Shrink.all ?_ rfl
    (simp [checkS, *]; done)
theorem sr_check (n m : Int) (ks ls : List T) (hN : size (.mk n ks) ≤ 1000000) (hM : size (.mk m ls) ≤ 1000000) : EvD Try.prog 56 [.agg [.sc (.int .i64 n), .sl (tcs ks) ks.length .any, .sc (.int .i64 m), .sl (tcs ls) ls.length .any]] (.sc (.bool (checkS (.mk n ks) (.mk m ls)))) := by
  have q1 := r_check n ks hN
  have q2 := er_check m ls hM
  refine EvD.body Try.func56 rfl rfl rfl ?_
  refine AWP.seq ?_
  refine TO ⟨[.agg [(I6 n), tl ks, (I6 m), tl ls]] ++ UU 10, []⟩ ?_
  refine AWP.reg (RT 2 ?_)
  refine AWP.seq (KL [0] ⟨[U6, .ptr 0 0, (B6 false)] ++ UU 8, [⟨[(I6 n), tl ks, (I6 m), tl ls], 4, .fresh⟩]⟩ ?_)
  refine AWP.reg (PI 2 (True ∧ 2 ≤ 4 ∧ True) ⟨trivial, (by omega), trivial⟩ ?_)
  refine CD (q1) ?_
  refine PT 1 1 ?_
  refine DerQ.to ⟨[U6, .ptr 0 0, (B6 false), .ptr 0 0, .agg [(I6 n), tl ks], (B6 (checkI (T.mk n ks))), (B6 (checkI (T.mk n ks))), U6, U6, U6, .undef], [⟨[(I6 n), tl ks, (I6 m), tl ls], 4, .fresh⟩]⟩ (by kernel_rfl) ?_
  cases h1 : (checkI (T.mk n ks))
  · refine RT 2 ?_
    refine AWP.ret ?_
    refine FI (.sc (.bool false)) ?_
    refine Shrink.all ?_ rfl
    (simp [checkS, *]; done)
  · refine PI 2 (True ∧ 4 ≤ 4 ∧ True) ⟨trivial, (by omega), trivial⟩ ?_
    refine CD (q2) ?_
    refine RT 2 ?_
    refine AWP.ret ?_
    refine FI (.sc (.bool (checkE (T.mk m ls)))) ?_
    refine Shrink.all ?_ rfl
    (simp [checkS, *]; done)
theorem sr_few (n m : Int) (ks ls : List T) : EvD Try.prog 47 [.agg [.sc (.int .i64 n), .sl (tcs ks) ks.length .any, .sc (.int .i64 m), .sl (tcs ls) ls.length .any]] (.sc (.bool (decide (size (.mk n ks) ≤ 120 ∧ size (.mk m ls) ≤ 120)))) := by
  refine EvD.body Try.func47 rfl rfl rfl ?_
  refine AWP.seq ?_
  refine TO ⟨[.agg [(I6 n), tl ks, (I6 m), tl ls]] ++ UU 10, []⟩ ?_
  refine AWP.reg (RT 2 ?_)
  refine AWP.seq (KL [0] ⟨[U6, .ptr 0 0, (B6 false)] ++ UU 8, [⟨[(I6 n), tl ks, (I6 m), tl ls], 4, .fresh⟩]⟩ ?_)
  refine AWP.reg (PI 2 (True ∧ 2 ≤ 4 ∧ True) ⟨trivial, (by omega), trivial⟩ ?_)
  refine CD (few n ks) ?_
  refine PT 1 1 ?_
  refine DerQ.to ⟨[U6, .ptr 0 0, (B6 false), .ptr 0 0, .agg [(I6 n), tl ks], (B6 (decide (size (T.mk n ks) ≤ 120))), (B6 (decide (size (T.mk n ks) ≤ 120))), U6, U6, U6, .undef], [⟨[(I6 n), tl ks, (I6 m), tl ls], 4, .fresh⟩]⟩ (by kernel_rfl) ?_
  cases h1 : (decide (size (T.mk n ks) ≤ 120))
  · have h1' := of_decide_eq_false h1
    refine RT 2 ?_
    refine AWP.ret ?_
    refine FI (.sc (.bool false)) ?_
    refine Shrink.all ?_ rfl
    (congr 2; rw [Bool.eq_iff_iff]; simp only [decide_eq_true_eq, Bool.false_eq_true, false_iff, true_iff, Bool.and_eq_true, Bool.or_eq_true, Bool.not_eq_true', Bool.not_eq_true, Bool.not_eq_false', decide_eq_false_iff_not, iff_true, iff_false, beq_iff_eq, beq_eq_false_iff_ne, ge_iff_le, gt_iff_lt, ne_eq, bne_iff_ne, not_true_eq_false, not_false_eq_true] at *; omega; done)
  · have h1' := of_decide_eq_true h1
    refine PI 2 (True ∧ 4 ≤ 4 ∧ True) ⟨trivial, (by omega), trivial⟩ ?_
    refine CD (few m ls) ?_
    refine RT 2 ?_
    refine AWP.ret ?_
    refine FI (.sc (.bool (decide (size (T.mk m ls) ≤ 120)))) ?_
    refine Shrink.all ?_ rfl
    (congr 2; rw [Bool.eq_iff_iff]; simp only [decide_eq_true_eq, Bool.false_eq_true, false_iff, true_iff, Bool.and_eq_true, Bool.or_eq_true, Bool.not_eq_true', Bool.not_eq_true, Bool.not_eq_false', decide_eq_false_iff_not, iff_true, iff_false, beq_iff_eq, beq_eq_false_iff_ne, ge_iff_le, gt_iff_lt, ne_eq, bne_iff_ne, not_true_eq_false, not_false_eq_true] at *; omega; done)
theorem s_seed : EvD Try.prog 62 [] (sg (.mk 1 []) (.mk 0 [])) := by
  refine EvD.body Try.func62 rfl rfl rfl ?_
  refine AWP.seq ?_
  refine TO ⟨[U6, U6, .undef], []⟩ ?_
  refine AWP.reg (RT 1 ?_)
  refine AWP.seq ?_
  refine TO ⟨[.ptr 0 0, U6, .undef], [⟨[(I6 0), .sl [] 0 .nil, (I6 0), .sl [] 0 .nil], 4, .fresh⟩]⟩ ?_
  refine AWP.reg (RI (True ∧ True ∧ 4 ≤ 4 ∧ True) ⟨trivial, trivial, (by omega), trivial⟩ ?_)
  refine AWP.ret ?_
  refine FI (.agg [.sc (.int .i64 1), .sl [] 0 .nil, .sc (.int .i64 0), .sl [] 0 .nil]) ?_
  refine Shrink.dataK [] (True) (.agg [.sc (.int .i64 1), .sl [] 0 .nil, .sc (.int .i64 0), .sl [] 0 .nil]) (by kernel_rfl) trivial ?_ rfl
  kernel_rfl
theorem s_peek (n m : Int) (ks ls : List T) : EvD Try.prog 58 [.agg [.sc (.int .i64 n), .sl (tcs ks) ks.length .any, .sc (.int .i64 m), .sl (tcs ls) ls.length .any]] (sg (.mk 0 []) (.mk m ls)) := by
  refine EvD.body Try.func58 rfl rfl rfl ?_
  refine AWP.seq ?_
  refine TO ⟨[.agg [(I6 n), tl ks, (I6 m), tl ls]] ++ UU 5, []⟩ ?_
  refine AWP.reg (RT 2 ?_)
  refine AWP.seq (KL [0] ⟨[U6, .ptr 0 0, .ptr 1 0, U6, U6, .undef], [⟨[(I6 n), tl ks, (I6 m), tl ls], 4, .fresh⟩, ⟨[(I6 0), .sl [] 0 .nil, (I6 0), .sl [] 0 .nil], 4, .fresh⟩]⟩ ?_)
  refine AWP.reg (RI (True ∧ 4 ≤ 4 ∧ True ∧ 4 ≤ 4 ∧ True) ⟨trivial, (by omega), trivial, (by omega), trivial⟩ ?_)
  refine AWP.ret ?_
  refine FI (.agg [.sc (.int .i64 0), .sl [] 0 .nil, .sc (.int .i64 (m)), .sl (tcs ls) (List.length ls) .any]) ?_
  refine Shrink.dataK [] (True) (.agg [.sc (.int .i64 0), .sl [] 0 .nil, .sc (.int .i64 (m)), .sl (tcs ls) (List.length ls) .any]) (by kernel_rfl) trivial ?_ rfl
  kernel_rfl
theorem s_Leq (n m : Int) (ks ls : List T) (o p : Int) (os ps : List T) (hN : size (.mk n ks) ≤ 1000000) (hM : size (.mk m ls) ≤ 1000000) (hO : size (.mk o os) ≤ 1000000) (hP : size (.mk p ps) ≤ 1000000) : EvD Try.prog 60 [.agg [.sc (.int .i64 n), .sl (tcs ks) ks.length .any, .sc (.int .i64 m), .sl (tcs ls) ls.length .any], .agg [.sc (.int .i64 o), .sl (tcs os) os.length .any, .sc (.int .i64 p), .sl (tcs ps) ps.length .any]] (.sc (.bool (leqSP (.mk n ks) (.mk m ls) (.mk o os) (.mk p ps)))) := by
  have q1 := s_check n m ks ls hN hM
  have q2 := s_check o p os ps hO hP
  have q3 := e_Leq m p ls ps hM hP
  refine EvD.body Try.func60 rfl rfl rfl ?_
  refine AWP.seq ?_
  refine TO ⟨[.agg [(I6 n), tl ks, (I6 m), tl ls], .agg [(I6 o), tl os, (I6 p), tl ps]] ++ UU 16, []⟩ ?_
  refine AWP.reg (RT 3 ?_)
  refine AWP.seq (KL [0, 1] ⟨[U6, U6, .ptr 0 0, .ptr 1 0, (B6 false)] ++ UU 13, [⟨[(I6 n), tl ks, (I6 m), tl ls], 4, .fresh⟩, ⟨[(I6 o), tl os, (I6 p), tl ps], 4, .fresh⟩]⟩ ?_)
  refine AWP.reg (PI 1 (4 ≤ 4 ∧ True) ⟨(by omega), trivial⟩ ?_)
  refine CD (q1) ?_
  refine PT 1 1 ?_
  refine DerQ.to ⟨[U6, U6, .ptr 0 0, .ptr 1 0, (B6 false), .agg [(I6 n), tl ks, (I6 m), tl ls], (B6 (checkS (T.mk n ks) (T.mk m ls))), (B6 (checkS (T.mk n ks) (T.mk m ls)))] ++ UU 10, [⟨[(I6 n), tl ks, (I6 m), tl ls], 4, .fresh⟩, ⟨[(I6 o), tl os, (I6 p), tl ps], 4, .fresh⟩]⟩ (by kernel_rfl) ?_
  cases h1 : (checkS (T.mk n ks) (T.mk m ls))
  · refine RT 4 ?_
    refine AWP.ret ?_
    refine FI (.sc (.bool false)) ?_
    refine Shrink.all ?_ rfl
    (simp [leqSP, *]; done)
  · refine PI 1 (4 ≤ 4 ∧ True) ⟨(by omega), trivial⟩ ?_
    refine CD (q2) ?_
    refine PT 2 2 ?_
    refine DerQ.to ⟨[U6, U6, .ptr 0 0, .ptr 1 0, (B6 false), .agg [(I6 n), tl ks, (I6 m), tl ls], (B6 true), (B6 true), .agg [(I6 o), tl os, (I6 p), tl ps], (B6 (checkS (T.mk o os) (T.mk p ps))), (B6 (checkS (T.mk o os) (T.mk p ps))), (B6 (checkS (T.mk o os) (T.mk p ps)))] ++ UU 6, [⟨[(I6 n), tl ks, (I6 m), tl ls], 4, .fresh⟩, ⟨[(I6 o), tl os, (I6 p), tl ps], 4, .fresh⟩]⟩ (by kernel_rfl) ?_
    cases h2 : (checkS (T.mk o os) (T.mk p ps))
    · refine RT 2 ?_
      refine AWP.ret ?_
      refine FI (.sc (.bool false)) ?_
      refine Shrink.all ?_ rfl
      (simp [leqSP, *]; done)
    · refine PI 4 (True ∧ 4 ≤ 4 ∧ True ∧ 4 ≤ 4 ∧ True) ⟨trivial, (by omega), trivial, (by omega), trivial⟩ ?_
      refine CD (q3) ?_
      refine RT 2 ?_
      refine AWP.ret ?_
      refine FI (.sc (.bool (leqP (T.mk m ls) (T.mk p ps)))) ?_
      refine Shrink.all ?_ rfl
      (simp [leqSP, *]; done)
theorem s_Fork (n m : Int) (ks ls : List T) (hN : size (.mk n ks) ≤ 1000) (hM : size (.mk m ls) ≤ 1000) : EvD Try.prog 49 [.agg [.sc (.int .i64 n), .sl (tcs ks) ks.length .any, .sc (.int .i64 m), .sl (tcs ls) ls.length .any]] (.tup [sg (forkP (.mk n ks) (.mk m ls)).1.1 (forkP (.mk n ks) (.mk m ls)).1.2, sg (forkP (.mk n ks) (.mk m ls)).2.1.1 (forkP (.mk n ks) (.mk m ls)).2.1.2, .sc (.int .i64 (forkP (.mk n ks) (.mk m ls)).2.2)]) := by
  have q1 := s_check n m ks ls (by omega) (by omega)
  have q2 := Split n ks hN
  cases hc : checkS (.mk n ks) (.mk m ls)
  · rw [hc] at q1
    refine EvD.body Try.func49 rfl rfl rfl ?_
    refine AWP.seq ?_
    refine TO ⟨[.agg [(I6 n), tl ks, (I6 m), tl ls]] ++ UU 32, []⟩ ?_
    refine AWP.reg (RT 4 ?_)
    refine AWP.seq (AWP.seq (KL [0] ⟨[U6, .ptr 0 0, .ptr 1 0, .ptr 2 0, (I6 0)] ++ UU 28, [⟨[(I6 n), tl ks, (I6 m), tl ls], 4, .fresh⟩, ⟨[(I6 0), .sl [] 0 .nil, (I6 0), .sl [] 0 .nil], 4, .fresh⟩, ⟨[(I6 0), .sl [] 0 .nil, (I6 0), .sl [] 0 .nil], 4, .fresh⟩]⟩ ?_))
    refine AWP.reg (PI 1 (4 ≤ 4 ∧ True) ⟨(by omega), trivial⟩ ?_)
    refine CD (q1) ?_
    refine RT 1 ?_
    refine KL [8, 9] ⟨[U6, .ptr 0 0, .ptr 1 0, .ptr 2 0, (I6 0)] ++ UU 5 ++ [(B6 true)] ++ UU 22, [⟨[(I6 n), tl ks, (I6 m), tl ls], 4, .fresh⟩, ⟨[(I6 0), .sl [] 0 .nil, (I6 0), .sl [] 0 .nil], 4, .fresh⟩, ⟨[(I6 0), .sl [] 0 .nil, (I6 0), .sl [] 0 .nil], 4, .fresh⟩]⟩ ?_
    refine CN true (fun _ => ?_) (fun h => nomatch h)
    refine SQ (RI (True ∧ True ∧ 4 ≤ 4 ∧ 4 ≤ 4 ∧ True ∧ True) ⟨trivial, trivial, (by omega), (by omega), trivial, trivial⟩ ?_)
    refine AWP.ret ?_
    refine FI (.tup [.agg [.sc (.int .i64 0), .sl [] 0 .nil, .sc (.int .i64 0), .sl [] 0 .nil], .agg [.sc (.int .i64 0), .sl [] 0 .nil, .sc (.int .i64 0), .sl [] 0 .nil], .sc (.int .i64 3)]) ?_
    refine Shrink.dataK [] (True) (.tup [.agg [.sc (.int .i64 0), .sl [] 0 .nil, .sc (.int .i64 0), .sl [] 0 .nil], .agg [.sc (.int .i64 0), .sl [] 0 .nil, .sc (.int .i64 0), .sl [] 0 .nil], .sc (.int .i64 3)]) (by kernel_rfl) trivial ?_ rfl
    (rw [forkP, if_neg (by rw [hc]; simp)]; rfl; done)
  · rw [hc] at q1
    by_cases h0 : (splitP (.mk n ks)).2.2 = 0
    · rw [h0] at q2
      refine EvD.body Try.func49 rfl rfl rfl ?_
      refine AWP.seq ?_
      refine TO ⟨[.agg [(I6 n), tl ks, (I6 m), tl ls]] ++ UU 32, []⟩ ?_
      refine AWP.reg (RT 4 ?_)
      refine AWP.seq (AWP.seq (KL [0] ⟨[U6, .ptr 0 0, .ptr 1 0, .ptr 2 0, (I6 0)] ++ UU 28, [⟨[(I6 n), tl ks, (I6 m), tl ls], 4, .fresh⟩, ⟨[(I6 0), .sl [] 0 .nil, (I6 0), .sl [] 0 .nil], 4, .fresh⟩, ⟨[(I6 0), .sl [] 0 .nil, (I6 0), .sl [] 0 .nil], 4, .fresh⟩]⟩ ?_))
      refine AWP.reg (PI 1 (4 ≤ 4 ∧ True) ⟨(by omega), trivial⟩ ?_)
      refine CD (q1) ?_
      refine RT 1 ?_
      refine KL [8, 9] ⟨[U6, .ptr 0 0, .ptr 1 0, .ptr 2 0, (I6 0)] ++ UU 5 ++ [(B6 false)] ++ UU 22, [⟨[(I6 n), tl ks, (I6 m), tl ls], 4, .fresh⟩, ⟨[(I6 0), .sl [] 0 .nil, (I6 0), .sl [] 0 .nil], 4, .fresh⟩, ⟨[(I6 0), .sl [] 0 .nil, (I6 0), .sl [] 0 .nil], 4, .fresh⟩]⟩ ?_
      refine CN false (fun h => nomatch h) (fun _ => ?_)
      refine AWP.skip (SQ (PI 2 (True ∧ 2 ≤ 4 ∧ True) ⟨trivial, (by omega), trivial⟩ ?_))
      refine CD (q2) ?_
      refine RI (True ∧ True ∧ True ∧ True ∧ True ∧ True ∧ 2 ≤ 2 ∧ 2 ≤ 2 ∧ True ∧ True) ⟨trivial, trivial, trivial, trivial, trivial, trivial, (by omega), (by omega), trivial, trivial⟩ ?_
      refine AWP.seq (AWP.seq (KL ([10] ++ NN 13 7) ⟨[U6, .ptr 0 0, .ptr 1 0, .ptr 2 0, (I6 0), .ptr 3 0, .ptr 4 0, (I6 0)] ++ UU 25, [⟨[(I6 n), tl ks, (I6 m), tl ls], 4, .fresh⟩, ⟨[(I6 0), .sl [] 0 .nil, (I6 0), .sl [] 0 .nil], 4, .fresh⟩, ⟨[(I6 0), .sl [] 0 .nil, (I6 0), .sl [] 0 .nil], 4, .fresh⟩, ⟨[(I6 (T.n (splitP (T.mk n ks)).1)), tl (T.ks (splitP (T.mk n ks)).1)], 2, .fresh⟩, ⟨[(I6 (T.n (splitP (T.mk n ks)).2.1)), tl (T.ks (splitP (T.mk n ks)).2.1)], 2, .fresh⟩]⟩ ?_))
      refine AWP.reg (RT 2 ?_)
      refine KL [20] ⟨[U6, .ptr 0 0, .ptr 1 0, .ptr 2 0, (I6 0), .ptr 3 0, .ptr 4 0, (I6 0)] ++ UU 13 ++ [(B6 false)] ++ UU 11, [⟨[(I6 n), tl ks, (I6 m), tl ls], 4, .fresh⟩, ⟨[(I6 0), .sl [] 0 .nil, (I6 0), .sl [] 0 .nil], 4, .fresh⟩, ⟨[(I6 0), .sl [] 0 .nil, (I6 0), .sl [] 0 .nil], 4, .fresh⟩, ⟨[(I6 (T.n (splitP (T.mk n ks)).1)), tl (T.ks (splitP (T.mk n ks)).1)], 2, .fresh⟩, ⟨[(I6 (T.n (splitP (T.mk n ks)).2.1)), tl (T.ks (splitP (T.mk n ks)).2.1)], 2, .fresh⟩]⟩ ?_
      refine CN false (fun h => nomatch h) (fun _ => ?_)
      refine AWP.skip (AWP.seq ?_)
      refine AWP.drawB mixed (fun o => if [].contains (o.dst.getD 0) then 1 else if [].contains (o.dst.getD 0) then 2 else if [0, 0].contains (o.dst.getD 0) then 3 else 0) 0 5 (fun x => [⟨[(I6 n), tl ks, (I6 m), tl ls], 4, .fresh⟩, ⟨x 1, 4, .fresh⟩, ⟨x 2, 4, .fresh⟩, ⟨[(I6 (T.n (splitP (T.mk n ks)).1)), tl (T.ks (splitP (T.mk n ks)).1)], 2, .fresh⟩, ⟨[(I6 (T.n (splitP (T.mk n ks)).2.1)), tl (T.ks (splitP (T.mk n ks)).2.1)], 2, .fresh⟩]) ⟨[U6, .ptr 0 0, .ptr 1 0, .ptr 2 0, (I6 0), .ptr 3 0, .ptr 4 0, (I6 0)] ++ UU 13 ++ [(B6 false)] ++ UU 11, [⟨[(I6 n), tl ks, (I6 m), tl ls], 4, .fresh⟩, ⟨[(I6 0), .sl [] 0 .nil, (I6 0), .sl [] 0 .nil], 4, .fresh⟩, ⟨[(I6 0), .sl [] 0 .nil, (I6 0), .sl [] 0 .nil], 4, .fresh⟩, ⟨[(I6 (T.n (splitP (T.mk n ks)).1)), tl (T.ks (splitP (T.mk n ks)).1)], 2, .fresh⟩, ⟨[(I6 (T.n (splitP (T.mk n ks)).2.1)), tl (T.ks (splitP (T.mk n ks)).2.1)], 2, .fresh⟩]⟩ (by kernel_rfl) ⟨by kernel_rfl, by kernel_rfl⟩ (by kernel_rfl) ?_
      refine DerZ.preI 8 (((2 : Nat) ≤ (2 : Nat)) ∧ ((True) ∧ (((4 : Nat) ≤ (4 : Nat)) ∧ ((True) ∧ (((2 : Nat) ≤ (2 : Nat)) ∧ ((True) ∧ (((4 : Nat) ≤ (4 : Nat)) ∧ ((True) ∧ (True))))))))) (by intro x ext; kernel_rfl) ⟨(by omega), ⟨trivial, ⟨(by omega), ⟨trivial, ⟨(by omega), ⟨trivial, ⟨(by omega), ⟨trivial, trivial⟩⟩⟩⟩⟩⟩⟩⟩ ?_
      refine DerZ.effI 5 ((4 : Nat) ≤ (4 : Nat)) (by kernel_rfl) ⟨⟨by kernel_rfl, by kernel_rfl⟩, by kernel_rfl⟩ (by omega) ?_
      refine DerZ.effI 5 ((4 : Nat) ≤ (4 : Nat)) (by kernel_rfl) ⟨⟨by kernel_rfl, by kernel_rfl⟩, by kernel_rfl⟩ (by omega) ?_
      refine DerZ.quietI (True) (by intro x ext; kernel_rfl) (by kernel_rfl) trivial ?_
      refine DerZ.nil ?_
      refine AWP.ret ?_
      refine FI (.tup [.agg [.sc (.int .i64 (T.n (splitP (T.mk n ks)).1)), .sl (tcs (T.ks (splitP (T.mk n ks)).1)) (List.length (T.ks (splitP (T.mk n ks)).1)) .any, .sc (.int .i64 (m)), .sl (tcs ls) (List.length ls) .any], .agg [.sc (.int .i64 (T.n (splitP (T.mk n ks)).2.1)), .sl (tcs (T.ks (splitP (T.mk n ks)).2.1)) (List.length (T.ks (splitP (T.mk n ks)).2.1)) .any, .sc (.int .i64 (m)), .sl (tcs ls) (List.length ls) .any], .sc (.int .i64 0)]) ?_
      refine Shrink.dataK [] (True) (.tup [.agg [.sc (.int .i64 (T.n (splitP (T.mk n ks)).1)), .sl (tcs (T.ks (splitP (T.mk n ks)).1)) (List.length (T.ks (splitP (T.mk n ks)).1)) .any, .sc (.int .i64 (m)), .sl (tcs ls) (List.length ls) .any], .agg [.sc (.int .i64 (T.n (splitP (T.mk n ks)).2.1)), .sl (tcs (T.ks (splitP (T.mk n ks)).2.1)) (List.length (T.ks (splitP (T.mk n ks)).2.1)) .any, .sc (.int .i64 (m)), .sl (tcs ls) (List.length ls) .any], .sc (.int .i64 0)]) (by kernel_rfl) trivial ?_ rfl
      (rw [forkP, if_pos hc, if_pos h0]; rfl; done)
    · refine EvD.body Try.func49 rfl rfl rfl ?_
      refine AWP.seq ?_
      refine TO ⟨[.agg [(I6 n), tl ks, (I6 m), tl ls]] ++ UU 32, []⟩ ?_
      refine AWP.reg (RT 4 ?_)
      refine AWP.seq (AWP.seq (KL [0] ⟨[U6, .ptr 0 0, .ptr 1 0, .ptr 2 0, (I6 0)] ++ UU 28, [⟨[(I6 n), tl ks, (I6 m), tl ls], 4, .fresh⟩, ⟨[(I6 0), .sl [] 0 .nil, (I6 0), .sl [] 0 .nil], 4, .fresh⟩, ⟨[(I6 0), .sl [] 0 .nil, (I6 0), .sl [] 0 .nil], 4, .fresh⟩]⟩ ?_))
      refine AWP.reg (PI 1 (4 ≤ 4 ∧ True) ⟨(by omega), trivial⟩ ?_)
      refine CD (q1) ?_
      refine RT 1 ?_
      refine KL [8, 9] ⟨[U6, .ptr 0 0, .ptr 1 0, .ptr 2 0, (I6 0)] ++ UU 5 ++ [(B6 false)] ++ UU 22, [⟨[(I6 n), tl ks, (I6 m), tl ls], 4, .fresh⟩, ⟨[(I6 0), .sl [] 0 .nil, (I6 0), .sl [] 0 .nil], 4, .fresh⟩, ⟨[(I6 0), .sl [] 0 .nil, (I6 0), .sl [] 0 .nil], 4, .fresh⟩]⟩ ?_
      refine CN false (fun h => nomatch h) (fun _ => ?_)
      refine AWP.skip (SQ (PI 2 (True ∧ 2 ≤ 4 ∧ True) ⟨trivial, (by omega), trivial⟩ ?_))
      refine CD (q2) ?_
      refine RI (True ∧ True ∧ True ∧ True ∧ True ∧ True ∧ 2 ≤ 2 ∧ 2 ≤ 2 ∧ True ∧ True) ⟨trivial, trivial, trivial, trivial, trivial, trivial, (by omega), (by omega), trivial, trivial⟩ ?_
      refine AWP.seq (AWP.seq (KL ([10] ++ NN 13 7) ⟨[U6, .ptr 0 0, .ptr 1 0, .ptr 2 0, (I6 0), .ptr 3 0, .ptr 4 0, (I6 ((splitP (T.mk n ks)).2.2))] ++ UU 25, [⟨[(I6 n), tl ks, (I6 m), tl ls], 4, .fresh⟩, ⟨[(I6 0), .sl [] 0 .nil, (I6 0), .sl [] 0 .nil], 4, .fresh⟩, ⟨[(I6 0), .sl [] 0 .nil, (I6 0), .sl [] 0 .nil], 4, .fresh⟩, ⟨[(I6 (T.n (splitP (T.mk n ks)).1)), tl (T.ks (splitP (T.mk n ks)).1)], 2, .fresh⟩, ⟨[(I6 (T.n (splitP (T.mk n ks)).2.1)), tl (T.ks (splitP (T.mk n ks)).2.1)], 2, .fresh⟩]⟩ ?_))
      refine AWP.reg (RT 2 ?_)
      refine KL [20] ⟨[U6, .ptr 0 0, .ptr 1 0, .ptr 2 0, (I6 0), .ptr 3 0, .ptr 4 0, (I6 ((splitP (T.mk n ks)).2.2))] ++ UU 13 ++ [(B6 ((splitP (T.mk n ks)).2.2 != 0))] ++ UU 11, [⟨[(I6 n), tl ks, (I6 m), tl ls], 4, .fresh⟩, ⟨[(I6 0), .sl [] 0 .nil, (I6 0), .sl [] 0 .nil], 4, .fresh⟩, ⟨[(I6 0), .sl [] 0 .nil, (I6 0), .sl [] 0 .nil], 4, .fresh⟩, ⟨[(I6 (T.n (splitP (T.mk n ks)).1)), tl (T.ks (splitP (T.mk n ks)).1)], 2, .fresh⟩, ⟨[(I6 (T.n (splitP (T.mk n ks)).2.1)), tl (T.ks (splitP (T.mk n ks)).2.1)], 2, .fresh⟩]⟩ ?_
      refine CN ((splitP (T.mk n ks)).2.2 != 0) (fun h1 => ?_) (fun h1 => ?_)
      · have h1' := bne_iff_ne.1 h1
        refine SQ (RI (True ∧ True ∧ True ∧ 4 ≤ 4 ∧ 4 ≤ 4 ∧ True ∧ True) ⟨trivial, trivial, trivial, (by omega), (by omega), trivial, trivial⟩ ?_)
        refine AWP.ret ?_
        refine FI (.tup [.agg [.sc (.int .i64 0), .sl [] 0 .nil, .sc (.int .i64 0), .sl [] 0 .nil], .agg [.sc (.int .i64 0), .sl [] 0 .nil, .sc (.int .i64 0), .sl [] 0 .nil], .sc (.int .i64 ((splitP (T.mk n ks)).2.2))]) ?_
        refine Shrink.dataK [] (True) (.tup [.agg [.sc (.int .i64 0), .sl [] 0 .nil, .sc (.int .i64 0), .sl [] 0 .nil], .agg [.sc (.int .i64 0), .sl [] 0 .nil, .sc (.int .i64 0), .sl [] 0 .nil], .sc (.int .i64 ((splitP (T.mk n ks)).2.2))]) (by kernel_rfl) trivial ?_ rfl
        (rw [forkP, if_pos hc, if_neg h0]; rfl; done)
      · have h1' := bne_eq_false_iff_eq.1 h1
        exfalso; omega
theorem s_Join (n m : Int) (ks ls : List T) (o p : Int) (os ps : List T) (hN : size (.mk n ks) ≤ 1000) (hM : size (.mk m ls) ≤ 1000) (hO : size (.mk o os) ≤ 1000) (hP : size (.mk p ps) ≤ 1000) : EvD Try.prog 51 [.agg [.sc (.int .i64 n), .sl (tcs ks) ks.length .any, .sc (.int .i64 m), .sl (tcs ls) ls.length .any], .agg [.sc (.int .i64 o), .sl (tcs os) os.length .any, .sc (.int .i64 p), .sl (tcs ps) ps.length .any]] (.tup [sg (joinSP (.mk n ks) (.mk m ls) (.mk o os) (.mk p ps)).1.1 (joinSP (.mk n ks) (.mk m ls) (.mk o os) (.mk p ps)).1.2, .sc (.int .i64 (joinSP (.mk n ks) (.mk m ls) (.mk o os) (.mk p ps)).2)]) := by
  have q1 := s_check n m ks ls (by omega) (by omega)
  have q2 := s_check o p os ps (by omega) (by omega)
  have q3 := Sum n o ks os hN hO
  have q4 := e_Join m p ls ps (by omega) (by omega)
  cases hc : checkS (.mk n ks) (.mk m ls)
  · rw [hc] at q1
    refine EvD.body Try.func51 rfl rfl rfl ?_
    refine AWP.seq ?_
    refine TO ⟨[.agg [(I6 n), tl ks, (I6 m), tl ls], .agg [(I6 o), tl os, (I6 p), tl ps]] ++ UU 40, []⟩ ?_
    refine AWP.reg (RT 4 ?_)
    refine AWP.seq (AWP.seq (KL [0, 1] ⟨[U6, U6, .ptr 0 0, .ptr 1 0, .ptr 2 0, (I6 0)] ++ UU 36, [⟨[(I6 n), tl ks, (I6 m), tl ls], 4, .fresh⟩, ⟨[(I6 o), tl os, (I6 p), tl ps], 4, .fresh⟩, ⟨[(I6 0), .sl [] 0 .nil, (I6 0), .sl [] 0 .nil], 4, .fresh⟩]⟩ ?_))
    refine AWP.reg (PI 1 (4 ≤ 4 ∧ True) ⟨(by omega), trivial⟩ ?_)
    refine CD (q1) ?_
    refine RT 3 ?_
    refine KL (NN 10 7) ⟨[U6, U6, .ptr 0 0, .ptr 1 0, .ptr 2 0, (I6 0)] ++ UU 11 ++ [(B6 true)] ++ UU 24, [⟨[(I6 n), tl ks, (I6 m), tl ls], 4, .fresh⟩, ⟨[(I6 o), tl os, (I6 p), tl ps], 4, .fresh⟩, ⟨[(I6 0), .sl [] 0 .nil, (I6 0), .sl [] 0 .nil], 4, .fresh⟩]⟩ ?_
    refine CN true (fun _ => ?_) (fun h => nomatch h)
    refine SQ (RI (True ∧ 4 ≤ 4 ∧ True ∧ True) ⟨trivial, (by omega), trivial, trivial⟩ ?_)
    refine AWP.ret ?_
    refine FI (.tup [.agg [.sc (.int .i64 0), .sl [] 0 .nil, .sc (.int .i64 0), .sl [] 0 .nil], .sc (.int .i64 3)]) ?_
    refine Shrink.dataK [] (True) (.tup [.agg [.sc (.int .i64 0), .sl [] 0 .nil, .sc (.int .i64 0), .sl [] 0 .nil], .sc (.int .i64 3)]) (by kernel_rfl) trivial ?_ rfl
    (rw [joinSP, if_neg (by rw [hc]; simp)]; rfl; done)
  · rw [hc] at q1
    cases hd : checkS (.mk o os) (.mk p ps)
    · rw [hd] at q2
      refine EvD.body Try.func51 rfl rfl rfl ?_
      refine AWP.seq ?_
      refine TO ⟨[.agg [(I6 n), tl ks, (I6 m), tl ls], .agg [(I6 o), tl os, (I6 p), tl ps]] ++ UU 40, []⟩ ?_
      refine AWP.reg (RT 4 ?_)
      refine AWP.seq (AWP.seq (KL [0, 1] ⟨[U6, U6, .ptr 0 0, .ptr 1 0, .ptr 2 0, (I6 0)] ++ UU 36, [⟨[(I6 n), tl ks, (I6 m), tl ls], 4, .fresh⟩, ⟨[(I6 o), tl os, (I6 p), tl ps], 4, .fresh⟩, ⟨[(I6 0), .sl [] 0 .nil, (I6 0), .sl [] 0 .nil], 4, .fresh⟩]⟩ ?_))
      refine AWP.reg (PI 1 (4 ≤ 4 ∧ True) ⟨(by omega), trivial⟩ ?_)
      refine CD (q1) ?_
      refine PI 3 (True ∧ True ∧ 4 ≤ 4 ∧ True) ⟨trivial, trivial, (by omega), trivial⟩ ?_
      refine CD (q2) ?_
      refine RT 2 ?_
      refine KL (NN 10 7) ⟨[U6, U6, .ptr 0 0, .ptr 1 0, .ptr 2 0, (I6 0)] ++ UU 11 ++ [(B6 true)] ++ UU 24, [⟨[(I6 n), tl ks, (I6 m), tl ls], 4, .fresh⟩, ⟨[(I6 o), tl os, (I6 p), tl ps], 4, .fresh⟩, ⟨[(I6 0), .sl [] 0 .nil, (I6 0), .sl [] 0 .nil], 4, .fresh⟩]⟩ ?_
      refine CN true (fun _ => ?_) (fun h => nomatch h)
      refine SQ (RI (True ∧ 4 ≤ 4 ∧ True ∧ True) ⟨trivial, (by omega), trivial, trivial⟩ ?_)
      refine AWP.ret ?_
      refine FI (.tup [.agg [.sc (.int .i64 0), .sl [] 0 .nil, .sc (.int .i64 0), .sl [] 0 .nil], .sc (.int .i64 3)]) ?_
      refine Shrink.dataK [] (True) (.tup [.agg [.sc (.int .i64 0), .sl [] 0 .nil, .sc (.int .i64 0), .sl [] 0 .nil], .sc (.int .i64 3)]) (by kernel_rfl) trivial ?_ rfl
      (rw [joinSP, if_neg (by rw [hd]; simp)]; rfl; done)
    · rw [hd] at q2
      by_cases h0 : (sumP (.mk n ks) (.mk o os)).2 = 0
      · rw [h0] at q3
        refine EvD.body Try.func51 rfl rfl rfl ?_
        refine AWP.seq ?_
        refine TO ⟨[.agg [(I6 n), tl ks, (I6 m), tl ls], .agg [(I6 o), tl os, (I6 p), tl ps]] ++ UU 40, []⟩ ?_
        refine AWP.reg (RT 4 ?_)
        refine AWP.seq (AWP.seq (KL [0, 1] ⟨[U6, U6, .ptr 0 0, .ptr 1 0, .ptr 2 0, (I6 0)] ++ UU 36, [⟨[(I6 n), tl ks, (I6 m), tl ls], 4, .fresh⟩, ⟨[(I6 o), tl os, (I6 p), tl ps], 4, .fresh⟩, ⟨[(I6 0), .sl [] 0 .nil, (I6 0), .sl [] 0 .nil], 4, .fresh⟩]⟩ ?_))
        refine AWP.reg (PI 1 (4 ≤ 4 ∧ True) ⟨(by omega), trivial⟩ ?_)
        refine CD (q1) ?_
        refine PI 3 (True ∧ True ∧ 4 ≤ 4 ∧ True) ⟨trivial, trivial, (by omega), trivial⟩ ?_
        refine CD (q2) ?_
        refine RT 2 ?_
        refine KL (NN 10 7) ⟨[U6, U6, .ptr 0 0, .ptr 1 0, .ptr 2 0, (I6 0)] ++ UU 11 ++ [(B6 false)] ++ UU 24, [⟨[(I6 n), tl ks, (I6 m), tl ls], 4, .fresh⟩, ⟨[(I6 o), tl os, (I6 p), tl ps], 4, .fresh⟩, ⟨[(I6 0), .sl [] 0 .nil, (I6 0), .sl [] 0 .nil], 4, .fresh⟩]⟩ ?_
        refine CN false (fun h => nomatch h) (fun _ => ?_)
        refine AWP.skip (SQ (PI 4 (True ∧ 2 ≤ 4 ∧ True ∧ 2 ≤ 4 ∧ True) ⟨trivial, (by omega), trivial, (by omega), trivial⟩ ?_))
        refine CD (q3) ?_
        refine RI (True ∧ True ∧ True ∧ True ∧ 2 ≤ 2 ∧ True ∧ True) ⟨trivial, trivial, trivial, trivial, (by omega), trivial, trivial⟩ ?_
        refine AWP.seq (AWP.seq (KL ([17] ++ NN 19 8) ⟨[U6, U6, .ptr 0 0, .ptr 1 0, .ptr 2 0, (I6 0), .ptr 3 0, (I6 0)] ++ UU 34, [⟨[(I6 n), tl ks, (I6 m), tl ls], 4, .fresh⟩, ⟨[(I6 o), tl os, (I6 p), tl ps], 4, .fresh⟩, ⟨[(I6 0), .sl [] 0 .nil, (I6 0), .sl [] 0 .nil], 4, .fresh⟩, ⟨[(I6 (T.n (sumP (T.mk n ks) (T.mk o os)).1)), tl (T.ks (sumP (T.mk n ks) (T.mk o os)).1)], 2, .fresh⟩]⟩ ?_))
        refine AWP.reg (RT 2 ?_)
        refine KL [27] ⟨[U6, U6, .ptr 0 0, .ptr 1 0, .ptr 2 0, (I6 0), .ptr 3 0, (I6 0)] ++ UU 20 ++ [(B6 false)] ++ UU 13, [⟨[(I6 n), tl ks, (I6 m), tl ls], 4, .fresh⟩, ⟨[(I6 o), tl os, (I6 p), tl ps], 4, .fresh⟩, ⟨[(I6 0), .sl [] 0 .nil, (I6 0), .sl [] 0 .nil], 4, .fresh⟩, ⟨[(I6 (T.n (sumP (T.mk n ks) (T.mk o os)).1)), tl (T.ks (sumP (T.mk n ks) (T.mk o os)).1)], 2, .fresh⟩]⟩ ?_
        refine CN false (fun h => nomatch h) (fun _ => ?_)
        refine AWP.skip (SQ (PI 4 (True ∧ 4 ≤ 4 ∧ True ∧ 4 ≤ 4 ∧ True) ⟨trivial, (by omega), trivial, (by omega), trivial⟩ ?_))
        refine CD (q4) ?_
        refine RI (True ∧ True ∧ True ∧ True ∧ 2 ≤ 2 ∧ True ∧ True) ⟨trivial, trivial, trivial, trivial, (by omega), trivial, trivial⟩ ?_
        refine AWP.seq (KL ([2, 3, 7, 9, 28] ++ NN 31 8) ⟨[U6, U6, U6, U6, .ptr 2 0, (I6 0), .ptr 3 0, U6, .ptr 4 0] ++ UU 33, [⟨[(I6 n), tl ks, (I6 m), tl ls], 4, .fresh⟩, ⟨[(I6 o), tl os, (I6 p), tl ps], 4, .fresh⟩, ⟨[(I6 0), .sl [] 0 .nil, (I6 0), .sl [] 0 .nil], 4, .fresh⟩, ⟨[(I6 (T.n (sumP (T.mk n ks) (T.mk o os)).1)), tl (T.ks (sumP (T.mk n ks) (T.mk o os)).1)], 2, .fresh⟩, ⟨[(I6 (T.n (joinP (T.mk m ls) (T.mk p ps)).1)), tl (T.ks (joinP (T.mk m ls) (T.mk p ps)).1)], 2, .fresh⟩]⟩ ?_)
        refine AWP.reg (RI (2 ≤ 2 ∧ 2 ≤ 2 ∧ True ∧ 4 ≤ 4 ∧ True ∧ True) ⟨(by omega), (by omega), trivial, (by omega), trivial, trivial⟩ ?_)
        refine AWP.ret ?_
        refine FI (.tup [.agg [.sc (.int .i64 (T.n (sumP (T.mk n ks) (T.mk o os)).1)), .sl (tcs (T.ks (sumP (T.mk n ks) (T.mk o os)).1)) (List.length (T.ks (sumP (T.mk n ks) (T.mk o os)).1)) .any, .sc (.int .i64 (T.n (joinP (T.mk m ls) (T.mk p ps)).1)), .sl (tcs (T.ks (joinP (T.mk m ls) (T.mk p ps)).1)) (List.length (T.ks (joinP (T.mk m ls) (T.mk p ps)).1)) .any], .sc (.int .i64 0)]) ?_
        refine Shrink.dataK [] (True) (.tup [.agg [.sc (.int .i64 (T.n (sumP (T.mk n ks) (T.mk o os)).1)), .sl (tcs (T.ks (sumP (T.mk n ks) (T.mk o os)).1)) (List.length (T.ks (sumP (T.mk n ks) (T.mk o os)).1)) .any, .sc (.int .i64 (T.n (joinP (T.mk m ls) (T.mk p ps)).1)), .sl (tcs (T.ks (joinP (T.mk m ls) (T.mk p ps)).1)) (List.length (T.ks (joinP (T.mk m ls) (T.mk p ps)).1)) .any], .sc (.int .i64 0)]) (by kernel_rfl) trivial ?_ rfl
        (rw [joinSP, if_pos ⟨hc, hd⟩, if_pos h0]; rfl; done)
      · refine EvD.body Try.func51 rfl rfl rfl ?_
        refine AWP.seq ?_
        refine TO ⟨[.agg [(I6 n), tl ks, (I6 m), tl ls], .agg [(I6 o), tl os, (I6 p), tl ps]] ++ UU 40, []⟩ ?_
        refine AWP.reg (RT 4 ?_)
        refine AWP.seq (AWP.seq (KL [0, 1] ⟨[U6, U6, .ptr 0 0, .ptr 1 0, .ptr 2 0, (I6 0)] ++ UU 36, [⟨[(I6 n), tl ks, (I6 m), tl ls], 4, .fresh⟩, ⟨[(I6 o), tl os, (I6 p), tl ps], 4, .fresh⟩, ⟨[(I6 0), .sl [] 0 .nil, (I6 0), .sl [] 0 .nil], 4, .fresh⟩]⟩ ?_))
        refine AWP.reg (PI 1 (4 ≤ 4 ∧ True) ⟨(by omega), trivial⟩ ?_)
        refine CD (q1) ?_
        refine PI 3 (True ∧ True ∧ 4 ≤ 4 ∧ True) ⟨trivial, trivial, (by omega), trivial⟩ ?_
        refine CD (q2) ?_
        refine RT 2 ?_
        refine KL (NN 10 7) ⟨[U6, U6, .ptr 0 0, .ptr 1 0, .ptr 2 0, (I6 0)] ++ UU 11 ++ [(B6 false)] ++ UU 24, [⟨[(I6 n), tl ks, (I6 m), tl ls], 4, .fresh⟩, ⟨[(I6 o), tl os, (I6 p), tl ps], 4, .fresh⟩, ⟨[(I6 0), .sl [] 0 .nil, (I6 0), .sl [] 0 .nil], 4, .fresh⟩]⟩ ?_
        refine CN false (fun h => nomatch h) (fun _ => ?_)
        refine AWP.skip (SQ (PI 4 (True ∧ 2 ≤ 4 ∧ True ∧ 2 ≤ 4 ∧ True) ⟨trivial, (by omega), trivial, (by omega), trivial⟩ ?_))
        refine CD (q3) ?_
        refine RI (True ∧ True ∧ True ∧ True ∧ 2 ≤ 2 ∧ True ∧ True) ⟨trivial, trivial, trivial, trivial, (by omega), trivial, trivial⟩ ?_
        refine AWP.seq (AWP.seq (KL ([17] ++ NN 19 8) ⟨[U6, U6, .ptr 0 0, .ptr 1 0, .ptr 2 0, (I6 0), .ptr 3 0, (I6 ((sumP (T.mk n ks) (T.mk o os)).2))] ++ UU 34, [⟨[(I6 n), tl ks, (I6 m), tl ls], 4, .fresh⟩, ⟨[(I6 o), tl os, (I6 p), tl ps], 4, .fresh⟩, ⟨[(I6 0), .sl [] 0 .nil, (I6 0), .sl [] 0 .nil], 4, .fresh⟩, ⟨[(I6 (T.n (sumP (T.mk n ks) (T.mk o os)).1)), tl (T.ks (sumP (T.mk n ks) (T.mk o os)).1)], 2, .fresh⟩]⟩ ?_))
        refine AWP.reg (RT 2 ?_)
        refine KL [27] ⟨[U6, U6, .ptr 0 0, .ptr 1 0, .ptr 2 0, (I6 0), .ptr 3 0, (I6 ((sumP (T.mk n ks) (T.mk o os)).2))] ++ UU 20 ++ [(B6 ((sumP (T.mk n ks) (T.mk o os)).2 != 0))] ++ UU 13, [⟨[(I6 n), tl ks, (I6 m), tl ls], 4, .fresh⟩, ⟨[(I6 o), tl os, (I6 p), tl ps], 4, .fresh⟩, ⟨[(I6 0), .sl [] 0 .nil, (I6 0), .sl [] 0 .nil], 4, .fresh⟩, ⟨[(I6 (T.n (sumP (T.mk n ks) (T.mk o os)).1)), tl (T.ks (sumP (T.mk n ks) (T.mk o os)).1)], 2, .fresh⟩]⟩ ?_
        refine CN ((sumP (T.mk n ks) (T.mk o os)).2 != 0) (fun h1 => ?_) (fun h1 => ?_)
        · have h1' := bne_iff_ne.1 h1
          refine SQ (RI (True ∧ True ∧ 4 ≤ 4 ∧ True ∧ True) ⟨trivial, trivial, (by omega), trivial, trivial⟩ ?_)
          refine AWP.ret ?_
          refine FI (.tup [.agg [.sc (.int .i64 0), .sl [] 0 .nil, .sc (.int .i64 0), .sl [] 0 .nil], .sc (.int .i64 ((sumP (T.mk n ks) (T.mk o os)).2))]) ?_
          refine Shrink.dataK [] (True) (.tup [.agg [.sc (.int .i64 0), .sl [] 0 .nil, .sc (.int .i64 0), .sl [] 0 .nil], .sc (.int .i64 ((sumP (T.mk n ks) (T.mk o os)).2))]) (by kernel_rfl) trivial ?_ rfl
          (rw [joinSP, if_pos ⟨hc, hd⟩, if_neg h0]; rfl; done)
        · have h1' := bne_eq_false_iff_eq.1 h1
          exfalso; omega
end Go.Tr
