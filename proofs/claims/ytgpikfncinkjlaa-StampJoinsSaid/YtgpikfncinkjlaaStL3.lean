/- Walks and laws. -/
import Derived.Test.YtgpikfncinkjlaaStH
import Derived.Test.YtgpikfncinkjlaaStV
import Derived.Test.YtgpikfncinkjlaaIdD
import Derived.Test.YtgpikfncinkjlaaLibB
set_option maxRecDepth 100000
set_option maxHeartbeats 0
set_option linter.unusedSimpArgs false
set_option linter.unusedVariables false
namespace Go.Tr
open Go Go.Abs Go.Proofs
theorem stampJoins (n m : Int) (ks ls : List T) (o p : Int) (os ps : List T) : EvD Try.prog 13 [.agg [.sc (.int .i64 n), .sl (tcs ks) ks.length .any, .sc (.int .i64 m), .sl (tcs ls) ls.length .any], .agg [.sc (.int .i64 o), .sl (tcs os) os.length .any, .sc (.int .i64 p), .sl (tcs ps) ps.length .any]] (.sc (.bool true)) := by
  by_cases hall : ((size (.mk n ks) ≤ 120 ∧ size (.mk m ls) ≤ 120) ∧ (size (.mk o os) ≤ 120 ∧ size (.mk p ps) ≤ 120)) ∧ checkS (.mk n ks) (.mk m ls) = true ∧ checkS (.mk o os) (.mk p ps) = true
  · obtain ⟨⟨⟨h1, h2⟩, h3, h4⟩, k1, k2⟩ := hall
    have f1 := dec_t (sr_few n m ks ls) ⟨h1, h2⟩
    have f2 := dec_t (sr_few o p os ps) ⟨h3, h4⟩
    have g1 := sr_check n m ks ls (by omega) (by omega)
    rw [k1] at g1
    have g2 := sr_check o p os ps (by omega) (by omega)
    rw [k2] at g2
    have k1' := k1
    have k2' := k2
    simp only [checkS, Bool.and_eq_true] at k1' k2'
    obtain ⟨ki, ke⟩ := k1'
    obtain ⟨li, le⟩ := k2'
    have c1 := s_Join n m ks ls o p os ps (by omega) (by omega) (by omega) (by omega)
    have c2 := s_peek n m ks ls
    have e0 : sumP (.mk n ks) (.mk o os) = if (sumI (.mk n ks) (.mk o os)).2 = true then ((sumI (.mk n ks) (.mk o os)).1, 0) else (.mk 0 [], 42) := by rw [sumP, if_pos ⟨ki, li⟩]
    by_cases hs : (sumI (.mk n ks) (.mk o os)).2 = true
    · rw [if_pos hs] at e0
      have e1 : joinSP (.mk n ks) (.mk m ls) (.mk o os) (.mk p ps) = (((sumI (.mk n ks) (.mk o os)).1, bothE 16 (.mk m ls) (.mk p ps)), 0) := by
        rw [joinSP, if_pos ⟨k1, k2⟩, e0, if_pos rfl, joinP, if_pos ⟨ke, le⟩]
      rw [e1] at c1
      have k4 := check_sum ki li hs
      have hz := sum_size (.mk n ks) (.mk o os)
      have d1 := ((rough_iff _ 16 (by omega)).1 (check_rough ki)).2
      have d2 := ((rough_iff _ 16 (by omega)).1 (check_rough li)).2
      have hsh := share_sum _ _ 65536 16 (check_bin ki) (check_bin li) (by decide) (by omega) (by omega) hs
      have b1 := share_bd _ _ 65536 (check_rough ki) (by omega)
      have b2 := share_bd _ _ 65536 (check_rough li) (by omega)
      obtain ⟨j1, j2, j3, j4, j5⟩ := join_facts ke le ke 0
      have hz2 := size_joinP (.mk m ls) (.mk p ps)
      rw [joinP, if_pos ⟨ke, le⟩] at hz2
      clear e1 e0
      generalize bothE 16 (.mk m ls) (.mk p ps) = J at *
      obtain ⟨j, js⟩ := J
      generalize sumI (.mk n ks) (.mk o os) = S at *
      obtain ⟨⟨s, ss⟩, sb⟩ := S
      simp only at c1 k4 hz hz2 hsh hs
      have kj : checkS (.mk s ss) (.mk j js) = true := by simp [checkS, k4, j1]
      have kp : checkS (.mk 0 []) (.mk m ls) = true := by simp only [checkS, ke, Bool.and_true]; decide
      have c3 := s_Leq n m ks ls s j ss js (by omega) (by omega) (by omega) (by omega)
      rw [show leqSP (.mk n ks) (.mk m ls) (.mk s ss) (.mk j js) = true by simp [leqSP, k1, kj, j2]] at c3
      have c4 := s_Leq o p os ps s j ss js (by omega) (by omega) (by omega) (by omega)
      rw [show leqSP (.mk o os) (.mk p ps) (.mk s ss) (.mk j js) = true by simp [leqSP, k2, kj, j3]] at c4
      have c5 := Share s ss (by omega)
      rw [show shareP (.mk s ss) = shareI (.mk n ks) 65536 + shareI (.mk o os) 65536 by rw [shareP, if_pos k4]; exact hsh] at c5
      have c6 := Share n ks (by omega)
      rw [show shareP (.mk n ks) = shareI (.mk n ks) 65536 by rw [shareP, if_pos ki]] at c6
      have c7 := Share o os (by omega)
      rw [show shareP (.mk o os) = shareI (.mk o os) 65536 by rw [shareP, if_pos li]] at c7
      have c8 := s_Leq 0 m [] ls n m ks ls (by decide) (by omega) (by omega) (by omega)
      rw [show leqSP (.mk 0 []) (.mk m ls) (.mk n ks) (.mk m ls) = true by simp [leqSP, kp, k1, leqP_refl ke]] at c8
      have c9 := s_Leq n m ks ls 0 m [] ls (by omega) (by omega) (by decide) (by omega)
      rw [show leqSP (.mk n ks) (.mk m ls) (.mk 0 []) (.mk m ls) = true by simp [leqSP, kp, k1, leqP_refl ke]] at c9
      have c10 := Share 0 [] (by decide)
      rw [show shareP (.mk 0 []) = 0 by decide] at c10
      generalize shareI (.mk n ks) 65536 = u at *
      generalize shareI (.mk o os) 65536 = v at *
      refine EvD.body Try.func13 rfl rfl rfl ?_
      refine AWP.seq ?_
      refine TO ⟨[.agg [(I6 n), tl ks, (I6 m), tl ls], .agg [(I6 o), tl os, (I6 p), tl ps]] ++ UU 88, []⟩ ?_
      refine AWP.reg (RT 3 ?_)
      refine AWP.seq (AWP.seq (KL [0, 1] ⟨[U6, U6, .ptr 0 0, .ptr 1 0, (B6 false)] ++ UU 85, [⟨[(I6 n), tl ks, (I6 m), tl ls], 4, .fresh⟩, ⟨[(I6 o), tl os, (I6 p), tl ps], 4, .fresh⟩]⟩ ?_))
      refine AWP.reg (PI 1 (4 ≤ 4 ∧ True) ⟨(by omega), trivial⟩ ?_)
      refine CD (f1) ?_
      refine PI 3 (True ∧ True ∧ 4 ≤ 4 ∧ True) ⟨trivial, trivial, (by omega), trivial⟩ ?_
      refine CD (f2) ?_
      refine PI 4 (True ∧ True ∧ True ∧ 4 ≤ 4 ∧ True) ⟨trivial, trivial, trivial, (by omega), trivial⟩ ?_
      refine CD (g1) ?_
      refine PI 4 (True ∧ True ∧ True ∧ 4 ≤ 4 ∧ True) ⟨trivial, trivial, trivial, (by omega), trivial⟩ ?_
      refine CD (g2) ?_
      refine RT 2 ?_
      refine KL (NN 8 17) ⟨[U6, U6, .ptr 0 0, .ptr 1 0, (B6 false)] ++ UU 20 ++ [(B6 false)] ++ UU 64, [⟨[(I6 n), tl ks, (I6 m), tl ls], 4, .fresh⟩, ⟨[(I6 o), tl os, (I6 p), tl ps], 4, .fresh⟩]⟩ ?_
      refine CN false (fun h => nomatch h) (fun _ => ?_)
      refine AWP.skip (SQ (PI 1 (4 ≤ 4 ∧ True) ⟨(by omega), trivial⟩ ?_))
      refine CD (c2) ?_
      refine RI (True ∧ 4 ≤ 4 ∧ True) ⟨trivial, (by omega), trivial⟩ ?_
      refine AWP.seq (KL [25, 27, 28] ⟨[U6, U6, .ptr 0 0, .ptr 1 0, (B6 false), .ptr 2 0] ++ UU 84, [⟨[(I6 n), tl ks, (I6 m), tl ls], 4, .fresh⟩, ⟨[(I6 o), tl os, (I6 p), tl ps], 4, .fresh⟩, ⟨[(I6 0), .sl [] 0 .any, (I6 (T.n (T.mk m ls))), tl (T.ks (T.mk m ls))], 4, .fresh⟩]⟩ ?_)
      refine AWP.reg (PI 2 (4 ≤ 4 ∧ 4 ≤ 4 ∧ True) ⟨(by omega), (by omega), trivial⟩ ?_)
      refine CD (c1) ?_
      refine RI (True ∧ True ∧ True ∧ True ∧ 4 ≤ 4 ∧ True ∧ True) ⟨trivial, trivial, trivial, trivial, (by omega), trivial, trivial⟩ ?_
      refine AWP.seq (AWP.seq (KL (NN 29 6) ⟨[U6, U6, .ptr 0 0, .ptr 1 0, (B6 false), .ptr 2 0, .ptr 3 0, (I6 0)] ++ UU 82, [⟨[(I6 n), tl ks, (I6 m), tl ls], 4, .fresh⟩, ⟨[(I6 o), tl os, (I6 p), tl ps], 4, .fresh⟩, ⟨[(I6 0), .sl [] 0 .any, (I6 (T.n (T.mk m ls))), tl (T.ks (T.mk m ls))], 4, .fresh⟩, ⟨[(I6 (T.n (T.mk s ss))), tl (T.ks (T.mk s ss)), (I6 (T.n (T.mk j js))), tl (T.ks (T.mk j js))], 4, .fresh⟩]⟩ ?_))
      refine AWP.reg (RT 2 ?_)
      refine KL [35] ⟨[U6, U6, .ptr 0 0, .ptr 1 0, (B6 false), .ptr 2 0, .ptr 3 0, (I6 0)] ++ UU 28 ++ [(B6 false)] ++ UU 53, [⟨[(I6 n), tl ks, (I6 m), tl ls], 4, .fresh⟩, ⟨[(I6 o), tl os, (I6 p), tl ps], 4, .fresh⟩, ⟨[(I6 0), .sl [] 0 .any, (I6 (T.n (T.mk m ls))), tl (T.ks (T.mk m ls))], 4, .fresh⟩, ⟨[(I6 (T.n (T.mk s ss))), tl (T.ks (T.mk s ss)), (I6 (T.n (T.mk j js))), tl (T.ks (T.mk j js))], 4, .fresh⟩]⟩ ?_
      refine CN false (fun h => nomatch h) (fun _ => ?_)
      refine AWP.skip (AWP.seq ?_)
      refine AWP.drawX mixed (fun o => [52, 56, 61, 64, 67, 74, 79, 84, 88].contains (o.dst.getD 0)) (by kernel_rfl) ?_
      refine DerX.preI 2 (((4 : Nat) ≤ (4 : Nat)) ∧ (((4 : Nat) ≤ (4 : Nat)) ∧ (True))) (by intro ext; kernel_rfl) ⟨(by omega), ⟨(by omega), trivial⟩⟩ ?_
      refine DerX.callDI (c3) ⟨by kernel_rfl, by kernel_rfl⟩ ?_
      refine DerX.preI 3 ((True) ∧ (((4 : Nat) ≤ (4 : Nat)) ∧ (((4 : Nat) ≤ (4 : Nat)) ∧ (True)))) (by intro ext; kernel_rfl) ⟨trivial, ⟨(by omega), ⟨(by omega), trivial⟩⟩⟩ ?_
      refine DerX.callDI (c4) ⟨by kernel_rfl, by kernel_rfl⟩ ?_
      refine DerX.preI 4 ((True) ∧ ((True) ∧ ((True) ∧ (((2 : Nat) ≤ (4 : Nat)) ∧ (True))))) (by intro ext; kernel_rfl) ⟨trivial, ⟨trivial, ⟨trivial, ⟨(by omega), trivial⟩⟩⟩⟩ ?_
      refine DerX.callDI (c5) ⟨by kernel_rfl, by kernel_rfl⟩ ?_
      refine DerX.preI 2 ((True) ∧ (((2 : Nat) ≤ (4 : Nat)) ∧ (True))) (by intro ext; kernel_rfl) ⟨trivial, ⟨(by omega), trivial⟩⟩ ?_
      refine DerX.callDI (c6) ⟨by kernel_rfl, by kernel_rfl⟩ ?_
      refine DerX.preI 2 ((True) ∧ (((2 : Nat) ≤ (4 : Nat)) ∧ (True))) (by intro ext; kernel_rfl) ⟨trivial, ⟨(by omega), trivial⟩⟩ ?_
      refine DerX.callDI (c7) ⟨by kernel_rfl, by kernel_rfl⟩ ?_
      refine DerX.pre 4 (TT 4) [(I6 (IntKind.wrap IntKind.i64 (u + v))), (B6 (u + v == IntKind.wrap IntKind.i64 (u + v))), (B6 (u + v == IntKind.wrap IntKind.i64 (u + v))), (B6 (u + v == IntKind.wrap IntKind.i64 (u + v)))] ⟨[U6, U6, .ptr 0 0, .ptr 1 0, (B6 false), .ptr 2 0, .ptr 3 0, (I6 0)] ++ UU 28 ++ [(B6 false)] ++ UU 13 ++ [.agg [(I6 n), tl ks, (I6 m), tl ls], .agg [(I6 (T.n (T.mk s ss))), tl (T.ks (T.mk s ss)), (I6 (T.n (T.mk j js))), tl (T.ks (T.mk j js))], (B6 true), (B6 true), .agg [(I6 o), tl os, (I6 p), tl ps], .agg [(I6 (T.n (T.mk s ss))), tl (T.ks (T.mk s ss)), (I6 (T.n (T.mk j js))), tl (T.ks (T.mk j js))], (B6 true), (B6 true), (B6 true), .ptr 3 0, .agg [(I6 (T.n (T.mk s ss))), tl (T.ks (T.mk s ss))], (I6 (u + v)), .ptr 0 0, .agg [(I6 n), tl ks], (I6 u), .ptr 1 0, .agg [(I6 o), tl os], (I6 v), (I6 (IntKind.wrap IntKind.i64 (u + v))), (B6 (u + v == IntKind.wrap IntKind.i64 (u + v))), (B6 (u + v == IntKind.wrap IntKind.i64 (u + v))), (B6 (u + v == IntKind.wrap IntKind.i64 (u + v)))] ++ UU 18, [⟨[(I6 n), tl ks, (I6 m), tl ls], 4, .fresh⟩, ⟨[(I6 o), tl os, (I6 p), tl ps], 4, .fresh⟩, ⟨[(I6 0), .sl [] 0 .any, (I6 (T.n (T.mk m ls))), tl (T.ks (T.mk m ls))], 4, .fresh⟩, ⟨[(I6 (T.n (T.mk s ss))), tl (T.ks (T.mk s ss)), (I6 (T.n (T.mk j js))), tl (T.ks (T.mk j js))], 4, .fresh⟩]⟩ (by intro ext; kernel_rfl) (by kernel_rfl) (tt 4) ?_
      rw [IntWalk.i64_in (u + v) (by omega)]
      cases h5 : (u + v == u + v)
      · have h5' := ne_of_beq_false h5
        exfalso; omega
      · have h5' := eq_of_beq h5
        refine DerX.preI 2 (((4 : Nat) ≤ (4 : Nat)) ∧ (((4 : Nat) ≤ (4 : Nat)) ∧ (True))) (by intro ext; kernel_rfl) ⟨(by omega), ⟨(by omega), trivial⟩⟩ ?_
        refine DerX.callDI (c8) ⟨by kernel_rfl, by kernel_rfl⟩ ?_
        refine DerX.preI 4 ((True) ∧ ((True) ∧ (((4 : Nat) ≤ (4 : Nat)) ∧ (((4 : Nat) ≤ (4 : Nat)) ∧ (True))))) (by intro ext; kernel_rfl) ⟨trivial, ⟨trivial, ⟨(by omega), ⟨(by omega), trivial⟩⟩⟩⟩ ?_
        refine DerX.callDI (c9) ⟨by kernel_rfl, by kernel_rfl⟩ ?_
        refine DerX.preI 4 ((True) ∧ ((True) ∧ ((True) ∧ (((2 : Nat) ≤ (4 : Nat)) ∧ (True))))) (by intro ext; kernel_rfl) ⟨trivial, ⟨trivial, ⟨trivial, ⟨(by omega), trivial⟩⟩⟩⟩ ?_
        refine DerX.callDI (c10) ⟨by kernel_rfl, by kernel_rfl⟩ ?_
        refine DerX.preI 3 ((True) ∧ ((True) ∧ ((True) ∧ (True)))) (by intro ext; kernel_rfl) ⟨trivial, ⟨trivial, ⟨trivial, trivial⟩⟩⟩ ?_
        refine DerX.callDI (heads06) ⟨by kernel_rfl, by kernel_rfl⟩ ?_
        refine DerX.preI 2 ((True) ∧ ((True) ∧ (True))) (by intro ext; kernel_rfl) ⟨trivial, ⟨trivial, trivial⟩⟩ ?_
        refine DerX.nil ?_
        refine AWP.ret FA
    · rw [if_neg hs] at e0
      have e1 : joinSP (.mk n ks) (.mk m ls) (.mk o os) (.mk p ps) = ((.mk 0 [], .mk 0 []), 42) := by
        rw [joinSP, if_pos ⟨k1, k2⟩, e0, if_neg (by decide)]
      rw [e1] at c1
      have c3 := dec_f (Apart n o ks os (by omega) (by omega)) (by rw [e0]; decide)
      refine EvD.body Try.func13 rfl rfl rfl ?_
      refine AWP.seq ?_
      refine TO ⟨[.agg [(I6 n), tl ks, (I6 m), tl ls], .agg [(I6 o), tl os, (I6 p), tl ps]] ++ UU 88, []⟩ ?_
      refine AWP.reg (RT 3 ?_)
      refine AWP.seq (AWP.seq (KL [0, 1] ⟨[U6, U6, .ptr 0 0, .ptr 1 0, (B6 false)] ++ UU 85, [⟨[(I6 n), tl ks, (I6 m), tl ls], 4, .fresh⟩, ⟨[(I6 o), tl os, (I6 p), tl ps], 4, .fresh⟩]⟩ ?_))
      refine AWP.reg (PI 1 (4 ≤ 4 ∧ True) ⟨(by omega), trivial⟩ ?_)
      refine CD (f1) ?_
      refine PI 3 (True ∧ True ∧ 4 ≤ 4 ∧ True) ⟨trivial, trivial, (by omega), trivial⟩ ?_
      refine CD (f2) ?_
      refine PI 4 (True ∧ True ∧ True ∧ 4 ≤ 4 ∧ True) ⟨trivial, trivial, trivial, (by omega), trivial⟩ ?_
      refine CD (g1) ?_
      refine PI 4 (True ∧ True ∧ True ∧ 4 ≤ 4 ∧ True) ⟨trivial, trivial, trivial, (by omega), trivial⟩ ?_
      refine CD (g2) ?_
      refine RT 2 ?_
      refine KL (NN 8 17) ⟨[U6, U6, .ptr 0 0, .ptr 1 0, (B6 false)] ++ UU 20 ++ [(B6 false)] ++ UU 64, [⟨[(I6 n), tl ks, (I6 m), tl ls], 4, .fresh⟩, ⟨[(I6 o), tl os, (I6 p), tl ps], 4, .fresh⟩]⟩ ?_
      refine CN false (fun h => nomatch h) (fun _ => ?_)
      refine AWP.skip (SQ (PI 1 (4 ≤ 4 ∧ True) ⟨(by omega), trivial⟩ ?_))
      refine CD (c2) ?_
      refine RI (True ∧ 4 ≤ 4 ∧ True) ⟨trivial, (by omega), trivial⟩ ?_
      refine AWP.seq (KL [25, 27, 28] ⟨[U6, U6, .ptr 0 0, .ptr 1 0, (B6 false), .ptr 2 0] ++ UU 84, [⟨[(I6 n), tl ks, (I6 m), tl ls], 4, .fresh⟩, ⟨[(I6 o), tl os, (I6 p), tl ps], 4, .fresh⟩, ⟨[(I6 0), .sl [] 0 .any, (I6 (T.n (T.mk m ls))), tl (T.ks (T.mk m ls))], 4, .fresh⟩]⟩ ?_)
      refine AWP.reg (PI 2 (4 ≤ 4 ∧ 4 ≤ 4 ∧ True) ⟨(by omega), (by omega), trivial⟩ ?_)
      refine CD (c1) ?_
      refine RI (True ∧ True ∧ True ∧ True ∧ 4 ≤ 4 ∧ True ∧ True) ⟨trivial, trivial, trivial, trivial, (by omega), trivial, trivial⟩ ?_
      refine AWP.seq (AWP.seq (KL (NN 29 6) ⟨[U6, U6, .ptr 0 0, .ptr 1 0, (B6 false), .ptr 2 0, .ptr 3 0, (I6 42)] ++ UU 82, [⟨[(I6 n), tl ks, (I6 m), tl ls], 4, .fresh⟩, ⟨[(I6 o), tl os, (I6 p), tl ps], 4, .fresh⟩, ⟨[(I6 0), .sl [] 0 .any, (I6 (T.n (T.mk m ls))), tl (T.ks (T.mk m ls))], 4, .fresh⟩, ⟨[(I6 0), .sl [] 0 .any, (I6 0), .sl [] 0 .any], 4, .fresh⟩]⟩ ?_))
      refine AWP.reg (RT 2 ?_)
      refine KL [35] ⟨[U6, U6, .ptr 0 0, .ptr 1 0, (B6 false), .ptr 2 0, .ptr 3 0, (I6 42)] ++ UU 28 ++ [(B6 true)] ++ UU 53, [⟨[(I6 n), tl ks, (I6 m), tl ls], 4, .fresh⟩, ⟨[(I6 o), tl os, (I6 p), tl ps], 4, .fresh⟩, ⟨[(I6 0), .sl [] 0 .any, (I6 (T.n (T.mk m ls))), tl (T.ks (T.mk m ls))], 4, .fresh⟩, ⟨[(I6 0), .sl [] 0 .any, (I6 0), .sl [] 0 .any], 4, .fresh⟩]⟩ ?_
      refine CN true (fun _ => ?_) (fun h => nomatch h)
      refine SQ (PI 7 (True ∧ True ∧ True ∧ True ∧ 2 ≤ 4 ∧ True ∧ 2 ≤ 4 ∧ True) ⟨trivial, trivial, trivial, trivial, (by omega), trivial, (by omega), trivial⟩ ?_)
      refine CD (c3) ?_
      refine PT 3 3 ?_
      refine CD (heads06) ?_
      refine RT 2 ?_
      refine AWP.ret FA
  · refine EvD.body Try.func13 rfl rfl rfl ?_
    refine AWP.seq ?_
    refine TO ⟨[.agg [(I6 n), tl ks, (I6 m), tl ls], .agg [(I6 o), tl os, (I6 p), tl ps]] ++ UU 88, []⟩ ?_
    refine AWP.reg (RT 3 ?_)
    refine AWP.seq (AWP.seq (KL [0, 1] ⟨[U6, U6, .ptr 0 0, .ptr 1 0, (B6 false)] ++ UU 85, [⟨[(I6 n), tl ks, (I6 m), tl ls], 4, .fresh⟩, ⟨[(I6 o), tl os, (I6 p), tl ps], 4, .fresh⟩]⟩ ?_))
    refine AWP.reg (PI 1 (4 ≤ 4 ∧ True) ⟨(by omega), trivial⟩ ?_)
    refine CD (sr_few n m ks ls) ?_
    refine PT 2 2 ?_
    refine DerQ.to ⟨[U6, U6, .ptr 0 0, .ptr 1 0, (B6 false), U6, U6, U6, .agg [(I6 n), tl ks, (I6 m), tl ls], (B6 (decide (size (T.mk n ks) ≤ 120 ∧ size (T.mk m ls) ≤ 120))), (B6 (!decide (size (T.mk n ks) ≤ 120 ∧ size (T.mk m ls) ≤ 120))), (B6 (!decide (size (T.mk n ks) ≤ 120 ∧ size (T.mk m ls) ≤ 120)))] ++ UU 78, [⟨[(I6 n), tl ks, (I6 m), tl ls], 4, .fresh⟩, ⟨[(I6 o), tl os, (I6 p), tl ps], 4, .fresh⟩]⟩ (by kernel_rfl) ?_
    cases h1 : (!decide (size (T.mk n ks) ≤ 120 ∧ size (T.mk m ls) ≤ 120))
    · have h1' := h1
      simp only [Bool.and_eq_true, Bool.and_eq_false_iff, Bool.or_eq_true, Bool.or_eq_false_iff, Bool.not_eq_true', Bool.not_eq_false', beq_iff_eq, beq_eq_false_iff_ne, decide_eq_true_eq, decide_eq_false_iff_not, ne_eq] at h1'
      refine PI 1 (4 ≤ 4 ∧ True) ⟨(by omega), trivial⟩ ?_
      refine CD (sr_few o p os ps) ?_
      refine PT 3 3 ?_
      refine DerQ.to ⟨[U6, U6, .ptr 0 0, .ptr 1 0, (B6 false), U6, U6, U6, .agg [(I6 n), tl ks, (I6 m), tl ls], (B6 (decide (size (T.mk n ks) ≤ 120 ∧ size (T.mk m ls) ≤ 120))), (B6 false), (B6 false), .agg [(I6 o), tl os, (I6 p), tl ps], (B6 (decide (size (T.mk o os) ≤ 120 ∧ size (T.mk p ps) ≤ 120))), (B6 (!decide (size (T.mk o os) ≤ 120 ∧ size (T.mk p ps) ≤ 120))), (B6 (!decide (size (T.mk o os) ≤ 120 ∧ size (T.mk p ps) ≤ 120))), (B6 (!decide (size (T.mk o os) ≤ 120 ∧ size (T.mk p ps) ≤ 120)))] ++ UU 73, [⟨[(I6 n), tl ks, (I6 m), tl ls], 4, .fresh⟩, ⟨[(I6 o), tl os, (I6 p), tl ps], 4, .fresh⟩]⟩ (by kernel_rfl) ?_
      cases h2 : (!decide (size (T.mk o os) ≤ 120 ∧ size (T.mk p ps) ≤ 120))
      · have h2' := h2
        simp only [Bool.and_eq_true, Bool.and_eq_false_iff, Bool.or_eq_true, Bool.or_eq_false_iff, Bool.not_eq_true', Bool.not_eq_false', beq_iff_eq, beq_eq_false_iff_ne, decide_eq_true_eq, decide_eq_false_iff_not, ne_eq] at h2'
        refine PI 1 (4 ≤ 4 ∧ True) ⟨(by omega), trivial⟩ ?_
        refine CD (sr_check n m ks ls (by omega) (by omega)) ?_
        refine PT 3 3 ?_
        refine DerQ.to ⟨[U6, U6, .ptr 0 0, .ptr 1 0, (B6 false), U6, U6, U6, .agg [(I6 n), tl ks, (I6 m), tl ls], (B6 (decide (size (T.mk n ks) ≤ 120 ∧ size (T.mk m ls) ≤ 120))), (B6 false), (B6 false), .agg [(I6 o), tl os, (I6 p), tl ps], (B6 (decide (size (T.mk o os) ≤ 120 ∧ size (T.mk p ps) ≤ 120))), (B6 false), (B6 false), (B6 false), .agg [(I6 n), tl ks, (I6 m), tl ls], (B6 (checkS (T.mk n ks) (T.mk m ls))), (B6 (!checkS (T.mk n ks) (T.mk m ls))), (B6 (!checkS (T.mk n ks) (T.mk m ls))), (B6 (!checkS (T.mk n ks) (T.mk m ls)))] ++ UU 68, [⟨[(I6 n), tl ks, (I6 m), tl ls], 4, .fresh⟩, ⟨[(I6 o), tl os, (I6 p), tl ps], 4, .fresh⟩]⟩ (by kernel_rfl) ?_
        cases h3 : (!checkS (T.mk n ks) (T.mk m ls))
        · have h3' := h3
          simp only [Bool.and_eq_true, Bool.and_eq_false_iff, Bool.or_eq_true, Bool.or_eq_false_iff, Bool.not_eq_true', Bool.not_eq_false', beq_iff_eq, beq_eq_false_iff_ne, decide_eq_true_eq, decide_eq_false_iff_not, ne_eq] at h3'
          refine PI 1 (4 ≤ 4 ∧ True) ⟨(by omega), trivial⟩ ?_
          refine CD (sr_check o p os ps (by omega) (by omega)) ?_
          refine RT 2 ?_
          refine KL (NN 8 17) ⟨[U6, U6, .ptr 0 0, .ptr 1 0, (B6 false)] ++ UU 20 ++ [(B6 (!checkS (T.mk o os) (T.mk p ps)))] ++ UU 64, [⟨[(I6 n), tl ks, (I6 m), tl ls], 4, .fresh⟩, ⟨[(I6 o), tl os, (I6 p), tl ps], 4, .fresh⟩]⟩ ?_
          refine CN (!checkS (T.mk o os) (T.mk p ps)) (fun h4 => ?_) (fun h4 => ?_)
          · have h4' := h4
            simp only [Bool.and_eq_true, Bool.and_eq_false_iff, Bool.or_eq_true, Bool.or_eq_false_iff, Bool.not_eq_true', Bool.not_eq_false', beq_iff_eq, beq_eq_false_iff_ne, decide_eq_true_eq, decide_eq_false_iff_not, ne_eq] at h4'
            refine SQ (CD (heads06) ?_)
            refine RT 1 ?_
            refine AWP.ret FA
          · have h4' := h4
            simp only [Bool.and_eq_true, Bool.and_eq_false_iff, Bool.or_eq_true, Bool.or_eq_false_iff, Bool.not_eq_true', Bool.not_eq_false', beq_iff_eq, beq_eq_false_iff_ne, decide_eq_true_eq, decide_eq_false_iff_not, ne_eq] at h4'
            (exfalso; simp_all; done)
        · have h3' := h3
          simp only [Bool.and_eq_true, Bool.and_eq_false_iff, Bool.or_eq_true, Bool.or_eq_false_iff, Bool.not_eq_true', Bool.not_eq_false', beq_iff_eq, beq_eq_false_iff_ne, decide_eq_true_eq, decide_eq_false_iff_not, ne_eq] at h3'
          refine RT 1 ?_
          refine KL (NN 8 17) ⟨[U6, U6, .ptr 0 0, .ptr 1 0, (B6 false)] ++ UU 20 ++ [(B6 true)] ++ UU 64, [⟨[(I6 n), tl ks, (I6 m), tl ls], 4, .fresh⟩, ⟨[(I6 o), tl os, (I6 p), tl ps], 4, .fresh⟩]⟩ ?_
          refine CN true (fun _ => ?_) (fun h => nomatch h)
          refine SQ (CD (heads06) ?_)
          refine RT 1 ?_
          refine AWP.ret FA
      · have h2' := h2
        simp only [Bool.and_eq_true, Bool.and_eq_false_iff, Bool.or_eq_true, Bool.or_eq_false_iff, Bool.not_eq_true', Bool.not_eq_false', beq_iff_eq, beq_eq_false_iff_ne, decide_eq_true_eq, decide_eq_false_iff_not, ne_eq] at h2'
        refine RT 3 ?_
        refine KL (NN 8 17) ⟨[U6, U6, .ptr 0 0, .ptr 1 0, (B6 false)] ++ UU 20 ++ [(B6 true)] ++ UU 64, [⟨[(I6 n), tl ks, (I6 m), tl ls], 4, .fresh⟩, ⟨[(I6 o), tl os, (I6 p), tl ps], 4, .fresh⟩]⟩ ?_
        refine CN true (fun _ => ?_) (fun h => nomatch h)
        refine SQ (CD (heads06) ?_)
        refine RT 1 ?_
        refine AWP.ret FA
    · have h1' := h1
      simp only [Bool.and_eq_true, Bool.and_eq_false_iff, Bool.or_eq_true, Bool.or_eq_false_iff, Bool.not_eq_true', Bool.not_eq_false', beq_iff_eq, beq_eq_false_iff_ne, decide_eq_true_eq, decide_eq_false_iff_not, ne_eq] at h1'
      refine RT 5 ?_
      refine KL (NN 8 17) ⟨[U6, U6, .ptr 0 0, .ptr 1 0, (B6 false)] ++ UU 20 ++ [(B6 true)] ++ UU 64, [⟨[(I6 n), tl ks, (I6 m), tl ls], 4, .fresh⟩, ⟨[(I6 o), tl os, (I6 p), tl ps], 4, .fresh⟩]⟩ ?_
      refine CN true (fun _ => ?_) (fun h => nomatch h)
      refine SQ (CD (heads06) ?_)
      refine RT 1 ?_
      refine AWP.ret FA
end Go.Tr
