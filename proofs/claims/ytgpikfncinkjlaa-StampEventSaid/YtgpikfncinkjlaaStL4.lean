/- Walks and laws. -/
import Derived.Test.YtgpikfncinkjlaaStH
import Derived.Test.YtgpikfncinkjlaaStV
import Derived.Test.YtgpikfncinkjlaaIdD
import Derived.Test.YtgpikfncinkjlaaLibB
set_option maxRecDepth 100000
set_option maxHeartbeats 0
set_option linter.unusedSimpArgs false
set_option linter.unusedVariables false
namespace Go.Tr
open Go Go.Abs Go.Proofs
theorem stampEvent (n m : Int) (ks ls : List T) (p : Int) : EvD Try.prog 14 [.agg [.sc (.int .i64 n), .sl (tcs ks) ks.length .any, .sc (.int .i64 m), .sl (tcs ls) ls.length .any], .sc (.int .i64 p)] (.sc (.bool true)) := by
  by_cases hall : (size (.mk n ks) ≤ 120 ∧ size (.mk m ls) ≤ 120) ∧ checkS (.mk n ks) (.mk m ls) = true
  · obtain ⟨⟨h1, h2⟩, k⟩ := hall
    have f1 := dec_t (sr_few n m ks ls) ⟨h1, h2⟩
    have g1 := sr_check n m ks ls (by omega) (by omega)
    rw [k] at g1
    have c1 := s_Event n m ks ls (by omega) (by omega)
    have k' := k
    simp only [checkS, Bool.and_eq_true] at k'
    obtain ⟨ki, ke⟩ := k'
    by_cases h0 : isT (.mk n ks) 0
    · have e1 : eventP (.mk n ks) (.mk m ls) = ((.mk 0 [], .mk 0 []), 7) := by rw [eventP, if_pos k, if_pos h0]
      rw [e1] at c1
      have c2 := Share n ks (by omega)
      have e2 : shareP (.mk n ks) = 0 := by rw [shareP, if_pos ki, share_zero h0]
      rw [e2] at c2
      refine EvD.body Try.func14 rfl rfl rfl ?_
      refine AWP.seq ?_
      refine TO ⟨[.agg [(I6 n), tl ks, (I6 m), tl ls], (I6 p)] ++ UU 89, []⟩ ?_
      refine AWP.reg (RT 2 ?_)
      refine AWP.seq (AWP.seq (KL [0] ⟨[U6, (I6 p), .ptr 0 0, U6, (B6 false)] ++ UU 86, [⟨[(I6 n), tl ks, (I6 m), tl ls], 4, .fresh⟩]⟩ ?_))
      refine AWP.reg (PI 1 (4 ≤ 4 ∧ True) ⟨(by omega), trivial⟩ ?_)
      refine CD (f1) ?_
      refine PI 3 (True ∧ True ∧ 4 ≤ 4 ∧ True) ⟨trivial, trivial, (by omega), trivial⟩ ?_
      refine CD (g1) ?_
      refine RT 2 ?_
      refine KL (NN 9 7) ⟨[U6, (I6 p), .ptr 0 0, U6, (B6 false)] ++ UU 11 ++ [(B6 false)] ++ UU 74, [⟨[(I6 n), tl ks, (I6 m), tl ls], 4, .fresh⟩]⟩ ?_
      refine CN false (fun h => nomatch h) (fun _ => ?_)
      refine AWP.skip (SQ (PI 1 (4 ≤ 4 ∧ True) ⟨(by omega), trivial⟩ ?_))
      refine CD (c1) ?_
      refine RI (True ∧ True ∧ True ∧ True ∧ 4 ≤ 4 ∧ True ∧ True) ⟨trivial, trivial, trivial, trivial, (by omega), trivial, trivial⟩ ?_
      refine AWP.seq (AWP.seq (KL ([16] ++ NN 18 5) ⟨[U6, (I6 p), .ptr 0 0, U6, (B6 false), .ptr 1 0, (I6 7)] ++ UU 84, [⟨[(I6 n), tl ks, (I6 m), tl ls], 4, .fresh⟩, ⟨[(I6 0), .sl [] 0 .any, (I6 0), .sl [] 0 .any], 4, .fresh⟩]⟩ ?_))
      refine AWP.reg (RT 2 ?_)
      refine KL [23] ⟨[U6, (I6 p), .ptr 0 0, U6, (B6 false), .ptr 1 0, (I6 7)] ++ UU 17 ++ [(B6 true)] ++ UU 66, [⟨[(I6 n), tl ks, (I6 m), tl ls], 4, .fresh⟩, ⟨[(I6 0), .sl [] 0 .any, (I6 0), .sl [] 0 .any], 4, .fresh⟩]⟩ ?_
      refine CN true (fun _ => ?_) (fun h => nomatch h)
      refine SQ (PI 5 (True ∧ True ∧ True ∧ True ∧ 2 ≤ 4 ∧ True) ⟨trivial, trivial, trivial, trivial, (by omega), trivial⟩ ?_)
      refine CD (c2) ?_
      refine PT 11 7 ?_
      refine CD (heads06) ?_
      refine RT 2 ?_
      refine AWP.ret FA
    · rcases event_cases (by omega) ki h0 ke with e1 | e1 | ⟨e1, hk⟩
      · rw [e1] at c1
        refine EvD.body Try.func14 rfl rfl rfl ?_
        refine AWP.seq ?_
        refine TO ⟨[.agg [(I6 n), tl ks, (I6 m), tl ls], (I6 p)] ++ UU 89, []⟩ ?_
        refine AWP.reg (RT 2 ?_)
        refine AWP.seq (AWP.seq (KL [0] ⟨[U6, (I6 p), .ptr 0 0, U6, (B6 false)] ++ UU 86, [⟨[(I6 n), tl ks, (I6 m), tl ls], 4, .fresh⟩]⟩ ?_))
        refine AWP.reg (PI 1 (4 ≤ 4 ∧ True) ⟨(by omega), trivial⟩ ?_)
        refine CD (f1) ?_
        refine PI 3 (True ∧ True ∧ 4 ≤ 4 ∧ True) ⟨trivial, trivial, (by omega), trivial⟩ ?_
        refine CD (g1) ?_
        refine RT 2 ?_
        refine KL (NN 9 7) ⟨[U6, (I6 p), .ptr 0 0, U6, (B6 false)] ++ UU 11 ++ [(B6 false)] ++ UU 74, [⟨[(I6 n), tl ks, (I6 m), tl ls], 4, .fresh⟩]⟩ ?_
        refine CN false (fun h => nomatch h) (fun _ => ?_)
        refine AWP.skip (SQ (PI 1 (4 ≤ 4 ∧ True) ⟨(by omega), trivial⟩ ?_))
        refine CD (c1) ?_
        refine RI (True ∧ True ∧ True ∧ True ∧ 4 ≤ 4 ∧ True ∧ True) ⟨trivial, trivial, trivial, trivial, (by omega), trivial, trivial⟩ ?_
        refine AWP.seq (AWP.seq (KL ([16] ++ NN 18 5) ⟨[U6, (I6 p), .ptr 0 0, U6, (B6 false), .ptr 1 0, (I6 41)] ++ UU 84, [⟨[(I6 n), tl ks, (I6 m), tl ls], 4, .fresh⟩, ⟨[(I6 0), .sl [] 0 .any, (I6 0), .sl [] 0 .any], 4, .fresh⟩]⟩ ?_))
        refine AWP.reg (RT 2 ?_)
        refine KL [23] ⟨[U6, (I6 p), .ptr 0 0, U6, (B6 false), .ptr 1 0, (I6 41)] ++ UU 17 ++ [(B6 true)] ++ UU 66, [⟨[(I6 n), tl ks, (I6 m), tl ls], 4, .fresh⟩, ⟨[(I6 0), .sl [] 0 .any, (I6 0), .sl [] 0 .any], 4, .fresh⟩]⟩ ?_
        refine CN true (fun _ => ?_) (fun h => nomatch h)
        refine SQ (PT 17 11 ?_)
        refine CD (heads06) ?_
        refine RT 2 ?_
        refine AWP.ret FA
      · rw [e1] at c1
        refine EvD.body Try.func14 rfl rfl rfl ?_
        refine AWP.seq ?_
        refine TO ⟨[.agg [(I6 n), tl ks, (I6 m), tl ls], (I6 p)] ++ UU 89, []⟩ ?_
        refine AWP.reg (RT 2 ?_)
        refine AWP.seq (AWP.seq (KL [0] ⟨[U6, (I6 p), .ptr 0 0, U6, (B6 false)] ++ UU 86, [⟨[(I6 n), tl ks, (I6 m), tl ls], 4, .fresh⟩]⟩ ?_))
        refine AWP.reg (PI 1 (4 ≤ 4 ∧ True) ⟨(by omega), trivial⟩ ?_)
        refine CD (f1) ?_
        refine PI 3 (True ∧ True ∧ 4 ≤ 4 ∧ True) ⟨trivial, trivial, (by omega), trivial⟩ ?_
        refine CD (g1) ?_
        refine RT 2 ?_
        refine KL (NN 9 7) ⟨[U6, (I6 p), .ptr 0 0, U6, (B6 false)] ++ UU 11 ++ [(B6 false)] ++ UU 74, [⟨[(I6 n), tl ks, (I6 m), tl ls], 4, .fresh⟩]⟩ ?_
        refine CN false (fun h => nomatch h) (fun _ => ?_)
        refine AWP.skip (SQ (PI 1 (4 ≤ 4 ∧ True) ⟨(by omega), trivial⟩ ?_))
        refine CD (c1) ?_
        refine RI (True ∧ True ∧ True ∧ True ∧ 4 ≤ 4 ∧ True ∧ True) ⟨trivial, trivial, trivial, trivial, (by omega), trivial, trivial⟩ ?_
        refine AWP.seq (AWP.seq (KL ([16] ++ NN 18 5) ⟨[U6, (I6 p), .ptr 0 0, U6, (B6 false), .ptr 1 0, (I6 40)] ++ UU 84, [⟨[(I6 n), tl ks, (I6 m), tl ls], 4, .fresh⟩, ⟨[(I6 0), .sl [] 0 .any, (I6 0), .sl [] 0 .any], 4, .fresh⟩]⟩ ?_))
        refine AWP.reg (RT 2 ?_)
        refine KL [23] ⟨[U6, (I6 p), .ptr 0 0, U6, (B6 false), .ptr 1 0, (I6 40)] ++ UU 17 ++ [(B6 true)] ++ UU 66, [⟨[(I6 n), tl ks, (I6 m), tl ls], 4, .fresh⟩, ⟨[(I6 0), .sl [] 0 .any, (I6 0), .sl [] 0 .any], 4, .fresh⟩]⟩ ?_
        refine CN true (fun _ => ?_) (fun h => nomatch h)
        refine SQ (PT 17 13 ?_)
        refine CD (heads06) ?_
        refine RT 2 ?_
        refine AWP.ret FA
      · rw [e1] at c1
        have hat := next_at (i := (.mk n ks)) (e := (.mk m ls)) (by omega) ki h0 ke hk p
        obtain ⟨q1, q2⟩ := next_leq (i := (.mk n ks)) (e := (.mk m ls)) (by omega) ki h0 ke hk
        have hz := next_size (.mk n ks) (.mk m ls)
        clear e1
        generalize nextE (.mk n ks) (.mk m ls) = E at *
        obtain ⟨t, ts⟩ := E
        simp only at c1
        have k2 : checkS (.mk n ks) (.mk t ts) = true := by simp [checkS, ki, hk]
        have c2 := s_check n t ks ts (by omega) (by omega)
        rw [k2] at c2
        have c3 := r_same 1000 (by decide) n n ks ks (by omega)
        rw [beqT_self] at c3
        have c4 := s_Leq n m ks ls n t ks ts (by omega) (by omega) (by omega) (by omega)
        rw [show leqSP (.mk n ks) (.mk m ls) (.mk n ks) (.mk t ts) = true by simp [leqSP, k, k2, q1]] at c4
        have c5 := s_Leq n t ks ts n m ks ls (by omega) (by omega) (by omega) (by omega)
        rw [show leqSP (.mk n ks) (.mk t ts) (.mk n ks) (.mk m ls) = false by simp [leqSP, q2]] at c5
        have c6 := e_At m ls p (by omega)
        have c7 := e_At t ts p (by omega)
        have c8 := Owns n ks p (by omega)
        refine EvD.body Try.func14 rfl rfl rfl ?_
        refine AWP.seq ?_
        refine TO ⟨[.agg [(I6 n), tl ks, (I6 m), tl ls], (I6 p)] ++ UU 89, []⟩ ?_
        refine AWP.reg (RT 2 ?_)
        refine AWP.seq (AWP.seq (KL [0] ⟨[U6, (I6 p), .ptr 0 0, U6, (B6 false)] ++ UU 86, [⟨[(I6 n), tl ks, (I6 m), tl ls], 4, .fresh⟩]⟩ ?_))
        refine AWP.reg (PI 1 (4 ≤ 4 ∧ True) ⟨(by omega), trivial⟩ ?_)
        refine CD (f1) ?_
        refine PI 3 (True ∧ True ∧ 4 ≤ 4 ∧ True) ⟨trivial, trivial, (by omega), trivial⟩ ?_
        refine CD (g1) ?_
        refine RT 2 ?_
        refine KL (NN 9 7) ⟨[U6, (I6 p), .ptr 0 0, U6, (B6 false)] ++ UU 11 ++ [(B6 false)] ++ UU 74, [⟨[(I6 n), tl ks, (I6 m), tl ls], 4, .fresh⟩]⟩ ?_
        refine CN false (fun h => nomatch h) (fun _ => ?_)
        refine AWP.skip (SQ (PI 1 (4 ≤ 4 ∧ True) ⟨(by omega), trivial⟩ ?_))
        refine CD (c1) ?_
        refine RI (True ∧ True ∧ True ∧ True ∧ 4 ≤ 4 ∧ True ∧ True) ⟨trivial, trivial, trivial, trivial, (by omega), trivial, trivial⟩ ?_
        refine AWP.seq (AWP.seq (KL ([16] ++ NN 18 5) ⟨[U6, (I6 p), .ptr 0 0, U6, (B6 false), .ptr 1 0, (I6 0)] ++ UU 84, [⟨[(I6 n), tl ks, (I6 m), tl ls], 4, .fresh⟩, ⟨[(I6 (T.n (T.mk n ks))), tl (T.ks (T.mk n ks)), (I6 (T.n (T.mk t ts))), tl (T.ks (T.mk t ts))], 4, .fresh⟩]⟩ ?_))
        refine AWP.reg (RT 2 ?_)
        refine KL [23] ⟨[U6, (I6 p), .ptr 0 0, U6, (B6 false), .ptr 1 0, (I6 0)] ++ UU 17 ++ [(B6 false)] ++ UU 66, [⟨[(I6 n), tl ks, (I6 m), tl ls], 4, .fresh⟩, ⟨[(I6 (T.n (T.mk n ks))), tl (T.ks (T.mk n ks)), (I6 (T.n (T.mk t ts))), tl (T.ks (T.mk t ts))], 4, .fresh⟩]⟩ ?_
        refine CN false (fun h => nomatch h) (fun _ => ?_)
        refine AWP.skip (AWP.seq (SQ (PI 1 (4 ≤ 4 ∧ True) ⟨(by omega), trivial⟩ ?_)))
        refine CD (c2) ?_
        refine PI 6 (True ∧ True ∧ True ∧ 2 ≤ 4 ∧ True ∧ 2 ≤ 4 ∧ True) ⟨trivial, trivial, trivial, (by omega), trivial, (by omega), trivial⟩ ?_
        refine CD (c3) ?_
        refine PI 5 (True ∧ True ∧ True ∧ 4 ≤ 4 ∧ 4 ≤ 4 ∧ True) ⟨trivial, trivial, trivial, (by omega), (by omega), trivial⟩ ?_
        refine CD (c4) ?_
        refine PI 5 (True ∧ True ∧ True ∧ 4 ≤ 4 ∧ 4 ≤ 4 ∧ True) ⟨trivial, trivial, trivial, (by omega), (by omega), trivial⟩ ?_
        refine CD (c5) ?_
        refine RT 1 ?_
        refine KL ([6, 24] ++ NN 44 21) ⟨[U6, (I6 p), .ptr 0 0, U6, (B6 false), .ptr 1 0] ++ UU 59 ++ [(B6 false)] ++ UU 25, [⟨[(I6 n), tl ks, (I6 m), tl ls], 4, .fresh⟩, ⟨[(I6 (T.n (T.mk n ks))), tl (T.ks (T.mk n ks)), (I6 (T.n (T.mk t ts))), tl (T.ks (T.mk t ts))], 4, .fresh⟩]⟩ ?_
        refine CN false (fun h => nomatch h) (fun _ => ?_)
        refine AWP.skip (AWP.seq ?_)
        refine AWP.drawX mixed (fun o => [69, 73].contains (o.dst.getD 0)) (by kernel_rfl) ?_
        refine DerX.preI 3 ((True) ∧ (((4 : Nat) ≤ (4 : Nat)) ∧ ((True) ∧ (True)))) (by intro ext; kernel_rfl) ⟨trivial, ⟨(by omega), ⟨trivial, trivial⟩⟩⟩ ?_
        refine DerX.callDI (c6) ⟨by kernel_rfl, by kernel_rfl⟩ ?_
        refine DerX.preI 3 ((True) ∧ (((4 : Nat) ≤ (4 : Nat)) ∧ ((True) ∧ (True)))) (by intro ext; kernel_rfl) ⟨trivial, ⟨(by omega), ⟨trivial, trivial⟩⟩⟩ ?_
        refine DerX.callDI (c7) ⟨by kernel_rfl, by kernel_rfl⟩ ?_
        refine DerX.preI 2 ((True) ∧ ((True) ∧ (True))) (by intro ext; kernel_rfl) ⟨trivial, ⟨trivial, trivial⟩⟩ ?_
        refine DerX.nil ?_
        refine AWP.seq (KL ([5] ++ NN 65 9) ⟨[U6, (I6 p), .ptr 0 0, U6, (B6 false), U6, U6, (I6 (atP (T.mk m ls) p)), (I6 (atP (T.mk t ts) p))] ++ UU 82, [⟨[(I6 n), tl ks, (I6 m), tl ls], 4, .fresh⟩, ⟨[(I6 (T.n (T.mk n ks))), tl (T.ks (T.mk n ks)), (I6 (T.n (T.mk t ts))), tl (T.ks (T.mk t ts))], 4, .fresh⟩]⟩ ?_)
        refine AWP.reg (PT 4 4 ?_)
        refine DerQ.to ⟨[U6, (I6 p), .ptr 0 0, U6, (B6 false), U6, U6, (I6 (atP (T.mk m ls) p)), (I6 (atP (T.mk t ts) p))] ++ UU 65 ++ [(I6 (atP (T.mk m ls) p)), (I6 (atP (T.mk t ts) p)), (B6 (atP (T.mk m ls) p == atP (T.mk t ts) p)), (B6 (atP (T.mk m ls) p == atP (T.mk t ts) p))] ++ UU 13, [⟨[(I6 n), tl ks, (I6 m), tl ls], 4, .fresh⟩, ⟨[(I6 (T.n (T.mk n ks))), tl (T.ks (T.mk n ks)), (I6 (T.n (T.mk t ts))), tl (T.ks (T.mk t ts))], 4, .fresh⟩]⟩ (by kernel_rfl) ?_
        cases h3 : (atP (T.mk m ls) p == atP (T.mk t ts) p)
        · have h3' := ne_of_beq_false h3
          refine PT 4 4 ?_
          refine DerQ.to ⟨[U6, (I6 p), .ptr 0 0, U6, (B6 false), U6, U6, (I6 (atP (T.mk m ls) p)), (I6 (atP (T.mk t ts) p))] ++ UU 65 ++ [(I6 (atP (T.mk m ls) p)), (I6 (atP (T.mk t ts) p)), (B6 false), (B6 false), (I6 (atP (T.mk m ls) p)), (I6 (atP (T.mk t ts) p)), (B6 (decide (atP (T.mk m ls) p < atP (T.mk t ts) p))), (B6 (decide (atP (T.mk m ls) p < atP (T.mk t ts) p)))] ++ UU 9, [⟨[(I6 n), tl ks, (I6 m), tl ls], 4, .fresh⟩, ⟨[(I6 (T.n (T.mk n ks))), tl (T.ks (T.mk n ks)), (I6 (T.n (T.mk t ts))), tl (T.ks (T.mk t ts))], 4, .fresh⟩]⟩ (by kernel_rfl) ?_
          cases h4 : (decide (atP (T.mk m ls) p < atP (T.mk t ts) p))
          · have h4' := of_decide_eq_false h4
            exfalso; omega
          · have h4' := of_decide_eq_true h4
            refine PI 3 (True ∧ 2 ≤ 4 ∧ True ∧ True) ⟨trivial, (by omega), trivial, trivial⟩ ?_
            refine CD (c8) ?_
            refine PT 3 3 ?_
            refine DerQ.to ⟨[U6, (I6 p), .ptr 0 0, U6, (B6 false), U6, U6, (I6 (atP (T.mk m ls) p)), (I6 (atP (T.mk t ts) p))] ++ UU 65 ++ [(I6 (atP (T.mk m ls) p)), (I6 (atP (T.mk t ts) p)), (B6 false), (B6 false), (I6 (atP (T.mk m ls) p)), (I6 (atP (T.mk t ts) p)), (B6 true), (B6 true), .ptr 0 0, .agg [(I6 n), tl ks], (I6 p), (B6 (decide (ownsP (T.mk n ks) p))), (B6 (decide (ownsP (T.mk n ks) p))), (B6 (decide (ownsP (T.mk n ks) p))), (B6 (decide (ownsP (T.mk n ks) p))), U6, .undef], [⟨[(I6 n), tl ks, (I6 m), tl ls], 4, .fresh⟩, ⟨[(I6 (T.n (T.mk n ks))), tl (T.ks (T.mk n ks)), (I6 (T.n (T.mk t ts))), tl (T.ks (T.mk t ts))], 4, .fresh⟩]⟩ (by kernel_rfl) ?_
            cases h5 : (decide (ownsP (T.mk n ks) p))
            · have h5' := of_decide_eq_false h5
              (exfalso; simp_all; done)
            · have h5' := of_decide_eq_true h5
              refine CD (heads06) ?_
              refine RT 2 ?_
              refine AWP.ret FA
        · have h3' := eq_of_beq h3
          refine PT 11 2 ?_
          refine CD (heads06) ?_
          refine RT 2 ?_
          refine AWP.ret FA
  · refine EvD.body Try.func14 rfl rfl rfl ?_
    refine AWP.seq ?_
    refine TO ⟨[.agg [(I6 n), tl ks, (I6 m), tl ls], (I6 p)] ++ UU 89, []⟩ ?_
    refine AWP.reg (RT 2 ?_)
    refine AWP.seq (AWP.seq (KL [0] ⟨[U6, (I6 p), .ptr 0 0, U6, (B6 false)] ++ UU 86, [⟨[(I6 n), tl ks, (I6 m), tl ls], 4, .fresh⟩]⟩ ?_))
    refine AWP.reg (PI 1 (4 ≤ 4 ∧ True) ⟨(by omega), trivial⟩ ?_)
    refine CD (sr_few n m ks ls) ?_
    refine PT 2 2 ?_
    refine DerQ.to ⟨[U6, (I6 p), .ptr 0 0, U6, (B6 false), U6, U6, U6, U6, .agg [(I6 n), tl ks, (I6 m), tl ls], (B6 (decide (size (T.mk n ks) ≤ 120 ∧ size (T.mk m ls) ≤ 120))), (B6 (!decide (size (T.mk n ks) ≤ 120 ∧ size (T.mk m ls) ≤ 120))), (B6 (!decide (size (T.mk n ks) ≤ 120 ∧ size (T.mk m ls) ≤ 120)))] ++ UU 78, [⟨[(I6 n), tl ks, (I6 m), tl ls], 4, .fresh⟩]⟩ (by kernel_rfl) ?_
    cases h1 : (!decide (size (T.mk n ks) ≤ 120 ∧ size (T.mk m ls) ≤ 120))
    · have h1' := h1
      simp only [Bool.and_eq_true, Bool.and_eq_false_iff, Bool.or_eq_true, Bool.or_eq_false_iff, Bool.not_eq_true', Bool.not_eq_false', beq_iff_eq, beq_eq_false_iff_ne, decide_eq_true_eq, decide_eq_false_iff_not, ne_eq] at h1'
      refine PI 1 (4 ≤ 4 ∧ True) ⟨(by omega), trivial⟩ ?_
      refine CD (sr_check n m ks ls (by omega) (by omega)) ?_
      refine RT 2 ?_
      refine KL (NN 9 7) ⟨[U6, (I6 p), .ptr 0 0, U6, (B6 false)] ++ UU 11 ++ [(B6 (!checkS (T.mk n ks) (T.mk m ls)))] ++ UU 74, [⟨[(I6 n), tl ks, (I6 m), tl ls], 4, .fresh⟩]⟩ ?_
      refine CN (!checkS (T.mk n ks) (T.mk m ls)) (fun h2 => ?_) (fun h2 => ?_)
      · have h2' := h2
        simp only [Bool.and_eq_true, Bool.and_eq_false_iff, Bool.or_eq_true, Bool.or_eq_false_iff, Bool.not_eq_true', Bool.not_eq_false', beq_iff_eq, beq_eq_false_iff_ne, decide_eq_true_eq, decide_eq_false_iff_not, ne_eq] at h2'
        refine SQ (CD (heads06) ?_)
        refine RT 1 ?_
        refine AWP.ret FA
      · have h2' := h2
        simp only [Bool.and_eq_true, Bool.and_eq_false_iff, Bool.or_eq_true, Bool.or_eq_false_iff, Bool.not_eq_true', Bool.not_eq_false', beq_iff_eq, beq_eq_false_iff_ne, decide_eq_true_eq, decide_eq_false_iff_not, ne_eq] at h2'
        (exfalso; simp_all; done)
    · have h1' := h1
      simp only [Bool.and_eq_true, Bool.and_eq_false_iff, Bool.or_eq_true, Bool.or_eq_false_iff, Bool.not_eq_true', Bool.not_eq_false', beq_iff_eq, beq_eq_false_iff_ne, decide_eq_true_eq, decide_eq_false_iff_not, ne_eq] at h1'
      refine RT 1 ?_
      refine KL (NN 9 7) ⟨[U6, (I6 p), .ptr 0 0, U6, (B6 false)] ++ UU 11 ++ [(B6 true)] ++ UU 74, [⟨[(I6 n), tl ks, (I6 m), tl ls], 4, .fresh⟩]⟩ ?_
      refine CN true (fun _ => ?_) (fun h => nomatch h)
      refine SQ (CD (heads06) ?_)
      refine RT 1 ?_
      refine AWP.ret FA
end Go.Tr
