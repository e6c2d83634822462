/- Walks and laws. -/
import Derived.Test.YtgpikfncinkjlaaStH
import Derived.Test.YtgpikfncinkjlaaStV
import Derived.Test.YtgpikfncinkjlaaIdD
import Derived.Test.YtgpikfncinkjlaaLibB
set_option maxRecDepth 100000
set_option maxHeartbeats 0
set_option linter.unusedSimpArgs false
set_option linter.unusedVariables false
namespace Go.Tr
open Go Go.Abs Go.Proofs
theorem stampApart (n m : Int) (ks ls : List T) : EvD Try.prog 12 [.agg [.sc (.int .i64 n), .sl (tcs ks) ks.length .any, .sc (.int .i64 m), .sl (tcs ls) ls.length .any]] (.sc (.bool true)) := by
  by_cases hall : (size (.mk n ks) ≤ 120 ∧ size (.mk m ls) ≤ 120) ∧ checkS (.mk n ks) (.mk m ls) = true
  · obtain ⟨⟨h1, h2⟩, k⟩ := hall
    have f1 := dec_t (sr_few n m ks ls) ⟨h1, h2⟩
    have g1 := sr_check n m ks ls (by omega) (by omega)
    rw [k] at g1
    have c1 := s_Fork n m ks ls (by omega) (by omega)
    have k' := k
    simp only [checkS, Bool.and_eq_true] at k'
    obtain ⟨ki, ke⟩ := k'
    by_cases h0 : isT (.mk n ks) 0
    · have e1 : forkP (.mk n ks) (.mk m ls) = ((.mk 0 [], .mk 0 []), (.mk 0 [], .mk 0 []), 7) := by rw [forkP, if_pos k, splitP, if_pos ki, if_pos h0]; rfl
      rw [e1] at c1
      refine EvD.body Try.func12 rfl rfl rfl ?_
      refine AWP.seq ?_
      refine TO ⟨[.agg [(I6 n), tl ks, (I6 m), tl ls]] ++ UU 91, []⟩ ?_
      refine AWP.reg (RT 2 ?_)
      refine AWP.seq (AWP.seq (KL [0] ⟨[U6, .ptr 0 0, (B6 false)] ++ UU 89, [⟨[(I6 n), tl ks, (I6 m), tl ls], 4, .fresh⟩]⟩ ?_))
      refine AWP.reg (PI 1 (4 ≤ 4 ∧ True) ⟨(by omega), trivial⟩ ?_)
      refine CD (f1) ?_
      refine PI 3 (True ∧ True ∧ 4 ≤ 4 ∧ True) ⟨trivial, trivial, (by omega), trivial⟩ ?_
      refine CD (g1) ?_
      refine RT 2 ?_
      refine KL (NN 12 7) ⟨[U6, .ptr 0 0, (B6 false)] ++ UU 16 ++ [(B6 false)] ++ UU 72, [⟨[(I6 n), tl ks, (I6 m), tl ls], 4, .fresh⟩]⟩ ?_
      refine CN false (fun h => nomatch h) (fun _ => ?_)
      refine AWP.skip (SQ (PI 1 (4 ≤ 4 ∧ True) ⟨(by omega), trivial⟩ ?_))
      refine CD (c1) ?_
      refine RI (True ∧ True ∧ True ∧ True ∧ True ∧ True ∧ 4 ≤ 4 ∧ 4 ≤ 4 ∧ True ∧ True) ⟨trivial, trivial, trivial, trivial, trivial, trivial, (by omega), (by omega), trivial, trivial⟩ ?_
      refine AWP.seq (AWP.seq (KL ([19] ++ NN 21 6) ⟨[U6, .ptr 0 0, (B6 false), .ptr 1 0, .ptr 2 0, (I6 7)] ++ UU 86, [⟨[(I6 n), tl ks, (I6 m), tl ls], 4, .fresh⟩, ⟨[(I6 0), .sl [] 0 .any, (I6 0), .sl [] 0 .any], 4, .fresh⟩, ⟨[(I6 0), .sl [] 0 .any, (I6 0), .sl [] 0 .any], 4, .fresh⟩]⟩ ?_))
      refine AWP.reg (RT 2 ?_)
      refine KL [5, 27] ⟨[U6, .ptr 0 0, (B6 false), .ptr 1 0, .ptr 2 0] ++ UU 23 ++ [(B6 true)] ++ UU 63, [⟨[(I6 n), tl ks, (I6 m), tl ls], 4, .fresh⟩, ⟨[(I6 0), .sl [] 0 .any, (I6 0), .sl [] 0 .any], 4, .fresh⟩, ⟨[(I6 0), .sl [] 0 .any, (I6 0), .sl [] 0 .any], 4, .fresh⟩]⟩ ?_
      refine CN true (fun _ => ?_) (fun h => nomatch h)
      refine SQ (CD (heads06) ?_)
      refine RT 1 ?_
      refine AWP.ret FA
    · by_cases hr : roughI 16 (halvesI (.mk n ks)).1 = true ∧ roughI 16 (halvesI (.mk n ks)).2 = true
      · have e1 : forkP (.mk n ks) (.mk m ls) = (((halvesI (.mk n ks)).1, (.mk m ls)), ((halvesI (.mk n ks)).2, (.mk m ls)), 0) := by rw [forkP, if_pos k, splitP, if_pos ki, if_neg h0, if_pos hr]; rfl
        rw [e1] at c1
        obtain ⟨p1, p2, p3, p4, p5, p6, p7⟩ := split_facts ki h0 hr.1 hr.2
        have hz := halves_size (.mk n ks)
        have za : ¬ isT (halvesI (.mk n ks)).1 0 := fun h => by rw [share_zero h] at p6; omega
        have zb : ¬ isT (halvesI (.mk n ks)).2 0 := fun h => by rw [share_zero h] at p7; omega
        clear e1 p4 p5 p6 p7 hr
        generalize halvesI (.mk n ks) = H at *
        obtain ⟨⟨a, aa⟩, b, bs⟩ := H
        simp only at c1 p1 p2 p3 hz za zb
        have v1 := s_Event a m aa ls (by omega) (by omega)
        have v2 := s_Event b m bs ls (by omega) (by omega)
        rcases event_cases (a := .mk a aa) (e := (.mk m ls)) (by omega) p1 za ke with e1 | e1 | ⟨e1, hka⟩
        · rw [e1] at v1
          refine EvD.body Try.func12 rfl rfl rfl ?_
          refine AWP.seq ?_
          refine TO ⟨[.agg [(I6 n), tl ks, (I6 m), tl ls]] ++ UU 91, []⟩ ?_
          refine AWP.reg (RT 2 ?_)
          refine AWP.seq (AWP.seq (KL [0] ⟨[U6, .ptr 0 0, (B6 false)] ++ UU 89, [⟨[(I6 n), tl ks, (I6 m), tl ls], 4, .fresh⟩]⟩ ?_))
          refine AWP.reg (PI 1 (4 ≤ 4 ∧ True) ⟨(by omega), trivial⟩ ?_)
          refine CD (f1) ?_
          refine PI 3 (True ∧ True ∧ 4 ≤ 4 ∧ True) ⟨trivial, trivial, (by omega), trivial⟩ ?_
          refine CD (g1) ?_
          refine RT 2 ?_
          refine KL (NN 12 7) ⟨[U6, .ptr 0 0, (B6 false)] ++ UU 16 ++ [(B6 false)] ++ UU 72, [⟨[(I6 n), tl ks, (I6 m), tl ls], 4, .fresh⟩]⟩ ?_
          refine CN false (fun h => nomatch h) (fun _ => ?_)
          refine AWP.skip (SQ (PI 1 (4 ≤ 4 ∧ True) ⟨(by omega), trivial⟩ ?_))
          refine CD (c1) ?_
          refine RI (True ∧ True ∧ True ∧ True ∧ True ∧ True ∧ 4 ≤ 4 ∧ 4 ≤ 4 ∧ True ∧ True) ⟨trivial, trivial, trivial, trivial, trivial, trivial, (by omega), (by omega), trivial, trivial⟩ ?_
          refine AWP.seq (AWP.seq (KL ([19] ++ NN 21 6) ⟨[U6, .ptr 0 0, (B6 false), .ptr 1 0, .ptr 2 0, (I6 0)] ++ UU 86, [⟨[(I6 n), tl ks, (I6 m), tl ls], 4, .fresh⟩, ⟨[(I6 (T.n (T.mk a aa))), tl (T.ks (T.mk a aa)), (I6 (T.n (T.mk m ls))), tl (T.ks (T.mk m ls))], 4, .fresh⟩, ⟨[(I6 (T.n (T.mk b bs))), tl (T.ks (T.mk b bs)), (I6 (T.n (T.mk m ls))), tl (T.ks (T.mk m ls))], 4, .fresh⟩]⟩ ?_))
          refine AWP.reg (RT 2 ?_)
          refine KL [5, 27] ⟨[U6, .ptr 0 0, (B6 false), .ptr 1 0, .ptr 2 0] ++ UU 23 ++ [(B6 false)] ++ UU 63, [⟨[(I6 n), tl ks, (I6 m), tl ls], 4, .fresh⟩, ⟨[(I6 (T.n (T.mk a aa))), tl (T.ks (T.mk a aa)), (I6 (T.n (T.mk m ls))), tl (T.ks (T.mk m ls))], 4, .fresh⟩, ⟨[(I6 (T.n (T.mk b bs))), tl (T.ks (T.mk b bs)), (I6 (T.n (T.mk m ls))), tl (T.ks (T.mk m ls))], 4, .fresh⟩]⟩ ?_
          refine CN false (fun h => nomatch h) (fun _ => ?_)
          refine AWP.skip (SQ (PI 1 (4 ≤ 4 ∧ True) ⟨(by omega), trivial⟩ ?_))
          refine CD (v1) ?_
          refine RI (True ∧ True ∧ True ∧ True ∧ 4 ≤ 4 ∧ True ∧ True) ⟨trivial, trivial, trivial, trivial, (by omega), trivial, trivial⟩ ?_
          refine AWP.seq (KL ([3, 28] ++ NN 30 5) ⟨[U6, .ptr 0 0, (B6 false), U6, .ptr 2 0, U6, .ptr 3 0, (I6 41)] ++ UU 84, [⟨[(I6 n), tl ks, (I6 m), tl ls], 4, .fresh⟩, ⟨[(I6 (T.n (T.mk a aa))), tl (T.ks (T.mk a aa)), (I6 (T.n (T.mk m ls))), tl (T.ks (T.mk m ls))], 4, .fresh⟩, ⟨[(I6 (T.n (T.mk b bs))), tl (T.ks (T.mk b bs)), (I6 (T.n (T.mk m ls))), tl (T.ks (T.mk m ls))], 4, .fresh⟩, ⟨[(I6 0), .sl [] 0 .any, (I6 0), .sl [] 0 .any], 4, .fresh⟩]⟩ ?_)
          refine AWP.reg (PI 1 (4 ≤ 4 ∧ True) ⟨(by omega), trivial⟩ ?_)
          refine CD (v2) ?_
          refine RI (True ∧ True ∧ True ∧ True ∧ 4 ≤ 4 ∧ True ∧ True) ⟨trivial, trivial, trivial, trivial, (by omega), trivial, trivial⟩ ?_
          refine AWP.seq (AWP.seq (KL ([4] ++ NN 35 5) ⟨[U6, .ptr 0 0, (B6 false), U6, U6, U6, .ptr 3 0, (I6 41), .ptr 4 0, (I6 ((eventP (T.mk b bs) (T.mk m ls)).2))] ++ UU 82, [⟨[(I6 n), tl ks, (I6 m), tl ls], 4, .fresh⟩, ⟨[(I6 (T.n (T.mk a aa))), tl (T.ks (T.mk a aa)), (I6 (T.n (T.mk m ls))), tl (T.ks (T.mk m ls))], 4, .fresh⟩, ⟨[(I6 (T.n (T.mk b bs))), tl (T.ks (T.mk b bs)), (I6 (T.n (T.mk m ls))), tl (T.ks (T.mk m ls))], 4, .fresh⟩, ⟨[(I6 0), .sl [] 0 .any, (I6 0), .sl [] 0 .any], 4, .fresh⟩, ⟨[(I6 (T.n (eventP (T.mk b bs) (T.mk m ls)).1.1)), tl (T.ks (eventP (T.mk b bs) (T.mk m ls)).1.1), (I6 (T.n (eventP (T.mk b bs) (T.mk m ls)).1.2)), tl (T.ks (eventP (T.mk b bs) (T.mk m ls)).1.2)], 4, .fresh⟩]⟩ ?_))
          refine AWP.reg (RT 4 ?_)
          refine KL ([7, 9] ++ NN 40 5) ⟨[U6, .ptr 0 0, (B6 false), U6, U6, U6, .ptr 3 0, U6, .ptr 4 0] ++ UU 36 ++ [(B6 true)] ++ UU 46, [⟨[(I6 n), tl ks, (I6 m), tl ls], 4, .fresh⟩, ⟨[(I6 (T.n (T.mk a aa))), tl (T.ks (T.mk a aa)), (I6 (T.n (T.mk m ls))), tl (T.ks (T.mk m ls))], 4, .fresh⟩, ⟨[(I6 (T.n (T.mk b bs))), tl (T.ks (T.mk b bs)), (I6 (T.n (T.mk m ls))), tl (T.ks (T.mk m ls))], 4, .fresh⟩, ⟨[(I6 0), .sl [] 0 .any, (I6 0), .sl [] 0 .any], 4, .fresh⟩, ⟨[(I6 (T.n (eventP (T.mk b bs) (T.mk m ls)).1.1)), tl (T.ks (eventP (T.mk b bs) (T.mk m ls)).1.1), (I6 (T.n (eventP (T.mk b bs) (T.mk m ls)).1.2)), tl (T.ks (eventP (T.mk b bs) (T.mk m ls)).1.2)], 4, .fresh⟩]⟩ ?_
          refine CN true (fun _ => ?_) (fun h => nomatch h)
          refine SQ (CD (heads06) ?_)
          refine RT 1 ?_
          refine AWP.ret FA
        · rw [e1] at v1
          refine EvD.body Try.func12 rfl rfl rfl ?_
          refine AWP.seq ?_
          refine TO ⟨[.agg [(I6 n), tl ks, (I6 m), tl ls]] ++ UU 91, []⟩ ?_
          refine AWP.reg (RT 2 ?_)
          refine AWP.seq (AWP.seq (KL [0] ⟨[U6, .ptr 0 0, (B6 false)] ++ UU 89, [⟨[(I6 n), tl ks, (I6 m), tl ls], 4, .fresh⟩]⟩ ?_))
          refine AWP.reg (PI 1 (4 ≤ 4 ∧ True) ⟨(by omega), trivial⟩ ?_)
          refine CD (f1) ?_
          refine PI 3 (True ∧ True ∧ 4 ≤ 4 ∧ True) ⟨trivial, trivial, (by omega), trivial⟩ ?_
          refine CD (g1) ?_
          refine RT 2 ?_
          refine KL (NN 12 7) ⟨[U6, .ptr 0 0, (B6 false)] ++ UU 16 ++ [(B6 false)] ++ UU 72, [⟨[(I6 n), tl ks, (I6 m), tl ls], 4, .fresh⟩]⟩ ?_
          refine CN false (fun h => nomatch h) (fun _ => ?_)
          refine AWP.skip (SQ (PI 1 (4 ≤ 4 ∧ True) ⟨(by omega), trivial⟩ ?_))
          refine CD (c1) ?_
          refine RI (True ∧ True ∧ True ∧ True ∧ True ∧ True ∧ 4 ≤ 4 ∧ 4 ≤ 4 ∧ True ∧ True) ⟨trivial, trivial, trivial, trivial, trivial, trivial, (by omega), (by omega), trivial, trivial⟩ ?_
          refine AWP.seq (AWP.seq (KL ([19] ++ NN 21 6) ⟨[U6, .ptr 0 0, (B6 false), .ptr 1 0, .ptr 2 0, (I6 0)] ++ UU 86, [⟨[(I6 n), tl ks, (I6 m), tl ls], 4, .fresh⟩, ⟨[(I6 (T.n (T.mk a aa))), tl (T.ks (T.mk a aa)), (I6 (T.n (T.mk m ls))), tl (T.ks (T.mk m ls))], 4, .fresh⟩, ⟨[(I6 (T.n (T.mk b bs))), tl (T.ks (T.mk b bs)), (I6 (T.n (T.mk m ls))), tl (T.ks (T.mk m ls))], 4, .fresh⟩]⟩ ?_))
          refine AWP.reg (RT 2 ?_)
          refine KL [5, 27] ⟨[U6, .ptr 0 0, (B6 false), .ptr 1 0, .ptr 2 0] ++ UU 23 ++ [(B6 false)] ++ UU 63, [⟨[(I6 n), tl ks, (I6 m), tl ls], 4, .fresh⟩, ⟨[(I6 (T.n (T.mk a aa))), tl (T.ks (T.mk a aa)), (I6 (T.n (T.mk m ls))), tl (T.ks (T.mk m ls))], 4, .fresh⟩, ⟨[(I6 (T.n (T.mk b bs))), tl (T.ks (T.mk b bs)), (I6 (T.n (T.mk m ls))), tl (T.ks (T.mk m ls))], 4, .fresh⟩]⟩ ?_
          refine CN false (fun h => nomatch h) (fun _ => ?_)
          refine AWP.skip (SQ (PI 1 (4 ≤ 4 ∧ True) ⟨(by omega), trivial⟩ ?_))
          refine CD (v1) ?_
          refine RI (True ∧ True ∧ True ∧ True ∧ 4 ≤ 4 ∧ True ∧ True) ⟨trivial, trivial, trivial, trivial, (by omega), trivial, trivial⟩ ?_
          refine AWP.seq (KL ([3, 28] ++ NN 30 5) ⟨[U6, .ptr 0 0, (B6 false), U6, .ptr 2 0, U6, .ptr 3 0, (I6 40)] ++ UU 84, [⟨[(I6 n), tl ks, (I6 m), tl ls], 4, .fresh⟩, ⟨[(I6 (T.n (T.mk a aa))), tl (T.ks (T.mk a aa)), (I6 (T.n (T.mk m ls))), tl (T.ks (T.mk m ls))], 4, .fresh⟩, ⟨[(I6 (T.n (T.mk b bs))), tl (T.ks (T.mk b bs)), (I6 (T.n (T.mk m ls))), tl (T.ks (T.mk m ls))], 4, .fresh⟩, ⟨[(I6 0), .sl [] 0 .any, (I6 0), .sl [] 0 .any], 4, .fresh⟩]⟩ ?_)
          refine AWP.reg (PI 1 (4 ≤ 4 ∧ True) ⟨(by omega), trivial⟩ ?_)
          refine CD (v2) ?_
          refine RI (True ∧ True ∧ True ∧ True ∧ 4 ≤ 4 ∧ True ∧ True) ⟨trivial, trivial, trivial, trivial, (by omega), trivial, trivial⟩ ?_
          refine AWP.seq (AWP.seq (KL ([4] ++ NN 35 5) ⟨[U6, .ptr 0 0, (B6 false), U6, U6, U6, .ptr 3 0, (I6 40), .ptr 4 0, (I6 ((eventP (T.mk b bs) (T.mk m ls)).2))] ++ UU 82, [⟨[(I6 n), tl ks, (I6 m), tl ls], 4, .fresh⟩, ⟨[(I6 (T.n (T.mk a aa))), tl (T.ks (T.mk a aa)), (I6 (T.n (T.mk m ls))), tl (T.ks (T.mk m ls))], 4, .fresh⟩, ⟨[(I6 (T.n (T.mk b bs))), tl (T.ks (T.mk b bs)), (I6 (T.n (T.mk m ls))), tl (T.ks (T.mk m ls))], 4, .fresh⟩, ⟨[(I6 0), .sl [] 0 .any, (I6 0), .sl [] 0 .any], 4, .fresh⟩, ⟨[(I6 (T.n (eventP (T.mk b bs) (T.mk m ls)).1.1)), tl (T.ks (eventP (T.mk b bs) (T.mk m ls)).1.1), (I6 (T.n (eventP (T.mk b bs) (T.mk m ls)).1.2)), tl (T.ks (eventP (T.mk b bs) (T.mk m ls)).1.2)], 4, .fresh⟩]⟩ ?_))
          refine AWP.reg (RT 4 ?_)
          refine KL ([7, 9] ++ NN 40 5) ⟨[U6, .ptr 0 0, (B6 false), U6, U6, U6, .ptr 3 0, U6, .ptr 4 0] ++ UU 36 ++ [(B6 true)] ++ UU 46, [⟨[(I6 n), tl ks, (I6 m), tl ls], 4, .fresh⟩, ⟨[(I6 (T.n (T.mk a aa))), tl (T.ks (T.mk a aa)), (I6 (T.n (T.mk m ls))), tl (T.ks (T.mk m ls))], 4, .fresh⟩, ⟨[(I6 (T.n (T.mk b bs))), tl (T.ks (T.mk b bs)), (I6 (T.n (T.mk m ls))), tl (T.ks (T.mk m ls))], 4, .fresh⟩, ⟨[(I6 0), .sl [] 0 .any, (I6 0), .sl [] 0 .any], 4, .fresh⟩, ⟨[(I6 (T.n (eventP (T.mk b bs) (T.mk m ls)).1.1)), tl (T.ks (eventP (T.mk b bs) (T.mk m ls)).1.1), (I6 (T.n (eventP (T.mk b bs) (T.mk m ls)).1.2)), tl (T.ks (eventP (T.mk b bs) (T.mk m ls)).1.2)], 4, .fresh⟩]⟩ ?_
          refine CN true (fun _ => ?_) (fun h => nomatch h)
          refine SQ (CD (heads06) ?_)
          refine RT 1 ?_
          refine AWP.ret FA
        · rw [e1] at v1
          rcases event_cases (a := .mk b bs) (e := (.mk m ls)) (by omega) p2 zb ke with e2 | e2 | ⟨e2, hkb⟩
          · rw [e2] at v2
            refine EvD.body Try.func12 rfl rfl rfl ?_
            refine AWP.seq ?_
            refine TO ⟨[.agg [(I6 n), tl ks, (I6 m), tl ls]] ++ UU 91, []⟩ ?_
            refine AWP.reg (RT 2 ?_)
            refine AWP.seq (AWP.seq (KL [0] ⟨[U6, .ptr 0 0, (B6 false)] ++ UU 89, [⟨[(I6 n), tl ks, (I6 m), tl ls], 4, .fresh⟩]⟩ ?_))
            refine AWP.reg (PI 1 (4 ≤ 4 ∧ True) ⟨(by omega), trivial⟩ ?_)
            refine CD (f1) ?_
            refine PI 3 (True ∧ True ∧ 4 ≤ 4 ∧ True) ⟨trivial, trivial, (by omega), trivial⟩ ?_
            refine CD (g1) ?_
            refine RT 2 ?_
            refine KL (NN 12 7) ⟨[U6, .ptr 0 0, (B6 false)] ++ UU 16 ++ [(B6 false)] ++ UU 72, [⟨[(I6 n), tl ks, (I6 m), tl ls], 4, .fresh⟩]⟩ ?_
            refine CN false (fun h => nomatch h) (fun _ => ?_)
            refine AWP.skip (SQ (PI 1 (4 ≤ 4 ∧ True) ⟨(by omega), trivial⟩ ?_))
            refine CD (c1) ?_
            refine RI (True ∧ True ∧ True ∧ True ∧ True ∧ True ∧ 4 ≤ 4 ∧ 4 ≤ 4 ∧ True ∧ True) ⟨trivial, trivial, trivial, trivial, trivial, trivial, (by omega), (by omega), trivial, trivial⟩ ?_
            refine AWP.seq (AWP.seq (KL ([19] ++ NN 21 6) ⟨[U6, .ptr 0 0, (B6 false), .ptr 1 0, .ptr 2 0, (I6 0)] ++ UU 86, [⟨[(I6 n), tl ks, (I6 m), tl ls], 4, .fresh⟩, ⟨[(I6 (T.n (T.mk a aa))), tl (T.ks (T.mk a aa)), (I6 (T.n (T.mk m ls))), tl (T.ks (T.mk m ls))], 4, .fresh⟩, ⟨[(I6 (T.n (T.mk b bs))), tl (T.ks (T.mk b bs)), (I6 (T.n (T.mk m ls))), tl (T.ks (T.mk m ls))], 4, .fresh⟩]⟩ ?_))
            refine AWP.reg (RT 2 ?_)
            refine KL [5, 27] ⟨[U6, .ptr 0 0, (B6 false), .ptr 1 0, .ptr 2 0] ++ UU 23 ++ [(B6 false)] ++ UU 63, [⟨[(I6 n), tl ks, (I6 m), tl ls], 4, .fresh⟩, ⟨[(I6 (T.n (T.mk a aa))), tl (T.ks (T.mk a aa)), (I6 (T.n (T.mk m ls))), tl (T.ks (T.mk m ls))], 4, .fresh⟩, ⟨[(I6 (T.n (T.mk b bs))), tl (T.ks (T.mk b bs)), (I6 (T.n (T.mk m ls))), tl (T.ks (T.mk m ls))], 4, .fresh⟩]⟩ ?_
            refine CN false (fun h => nomatch h) (fun _ => ?_)
            refine AWP.skip (SQ (PI 1 (4 ≤ 4 ∧ True) ⟨(by omega), trivial⟩ ?_))
            refine CD (v1) ?_
            refine RI (True ∧ True ∧ True ∧ True ∧ 4 ≤ 4 ∧ True ∧ True) ⟨trivial, trivial, trivial, trivial, (by omega), trivial, trivial⟩ ?_
            refine AWP.seq (KL ([3, 28] ++ NN 30 5) ⟨[U6, .ptr 0 0, (B6 false), U6, .ptr 2 0, U6, .ptr 3 0, (I6 0)] ++ UU 84, [⟨[(I6 n), tl ks, (I6 m), tl ls], 4, .fresh⟩, ⟨[(I6 (T.n (T.mk a aa))), tl (T.ks (T.mk a aa)), (I6 (T.n (T.mk m ls))), tl (T.ks (T.mk m ls))], 4, .fresh⟩, ⟨[(I6 (T.n (T.mk b bs))), tl (T.ks (T.mk b bs)), (I6 (T.n (T.mk m ls))), tl (T.ks (T.mk m ls))], 4, .fresh⟩, ⟨[(I6 (T.n (T.mk a aa))), tl (T.ks (T.mk a aa)), (I6 (T.n (nextE (T.mk a aa) (T.mk m ls)))), tl (T.ks (nextE (T.mk a aa) (T.mk m ls)))], 4, .fresh⟩]⟩ ?_)
            refine AWP.reg (PI 1 (4 ≤ 4 ∧ True) ⟨(by omega), trivial⟩ ?_)
            refine CD (v2) ?_
            refine RI (True ∧ True ∧ True ∧ True ∧ 4 ≤ 4 ∧ True ∧ True) ⟨trivial, trivial, trivial, trivial, (by omega), trivial, trivial⟩ ?_
            refine AWP.seq (AWP.seq (KL ([4] ++ NN 35 5) ⟨[U6, .ptr 0 0, (B6 false), U6, U6, U6, .ptr 3 0, (I6 0), .ptr 4 0, (I6 41)] ++ UU 82, [⟨[(I6 n), tl ks, (I6 m), tl ls], 4, .fresh⟩, ⟨[(I6 (T.n (T.mk a aa))), tl (T.ks (T.mk a aa)), (I6 (T.n (T.mk m ls))), tl (T.ks (T.mk m ls))], 4, .fresh⟩, ⟨[(I6 (T.n (T.mk b bs))), tl (T.ks (T.mk b bs)), (I6 (T.n (T.mk m ls))), tl (T.ks (T.mk m ls))], 4, .fresh⟩, ⟨[(I6 (T.n (T.mk a aa))), tl (T.ks (T.mk a aa)), (I6 (T.n (nextE (T.mk a aa) (T.mk m ls)))), tl (T.ks (nextE (T.mk a aa) (T.mk m ls)))], 4, .fresh⟩, ⟨[(I6 0), .sl [] 0 .any, (I6 0), .sl [] 0 .any], 4, .fresh⟩]⟩ ?_))
            refine AWP.reg (RT 6 ?_)
            refine KL ([7, 9] ++ NN 40 5) ⟨[U6, .ptr 0 0, (B6 false), U6, U6, U6, .ptr 3 0, U6, .ptr 4 0] ++ UU 36 ++ [(B6 true)] ++ UU 46, [⟨[(I6 n), tl ks, (I6 m), tl ls], 4, .fresh⟩, ⟨[(I6 (T.n (T.mk a aa))), tl (T.ks (T.mk a aa)), (I6 (T.n (T.mk m ls))), tl (T.ks (T.mk m ls))], 4, .fresh⟩, ⟨[(I6 (T.n (T.mk b bs))), tl (T.ks (T.mk b bs)), (I6 (T.n (T.mk m ls))), tl (T.ks (T.mk m ls))], 4, .fresh⟩, ⟨[(I6 (T.n (T.mk a aa))), tl (T.ks (T.mk a aa)), (I6 (T.n (nextE (T.mk a aa) (T.mk m ls)))), tl (T.ks (nextE (T.mk a aa) (T.mk m ls)))], 4, .fresh⟩, ⟨[(I6 0), .sl [] 0 .any, (I6 0), .sl [] 0 .any], 4, .fresh⟩]⟩ ?_
            refine CN true (fun _ => ?_) (fun h => nomatch h)
            refine SQ (CD (heads06) ?_)
            refine RT 1 ?_
            refine AWP.ret FA
          · rw [e2] at v2
            refine EvD.body Try.func12 rfl rfl rfl ?_
            refine AWP.seq ?_
            refine TO ⟨[.agg [(I6 n), tl ks, (I6 m), tl ls]] ++ UU 91, []⟩ ?_
            refine AWP.reg (RT 2 ?_)
            refine AWP.seq (AWP.seq (KL [0] ⟨[U6, .ptr 0 0, (B6 false)] ++ UU 89, [⟨[(I6 n), tl ks, (I6 m), tl ls], 4, .fresh⟩]⟩ ?_))
            refine AWP.reg (PI 1 (4 ≤ 4 ∧ True) ⟨(by omega), trivial⟩ ?_)
            refine CD (f1) ?_
            refine PI 3 (True ∧ True ∧ 4 ≤ 4 ∧ True) ⟨trivial, trivial, (by omega), trivial⟩ ?_
            refine CD (g1) ?_
            refine RT 2 ?_
            refine KL (NN 12 7) ⟨[U6, .ptr 0 0, (B6 false)] ++ UU 16 ++ [(B6 false)] ++ UU 72, [⟨[(I6 n), tl ks, (I6 m), tl ls], 4, .fresh⟩]⟩ ?_
            refine CN false (fun h => nomatch h) (fun _ => ?_)
            refine AWP.skip (SQ (PI 1 (4 ≤ 4 ∧ True) ⟨(by omega), trivial⟩ ?_))
            refine CD (c1) ?_
            refine RI (True ∧ True ∧ True ∧ True ∧ True ∧ True ∧ 4 ≤ 4 ∧ 4 ≤ 4 ∧ True ∧ True) ⟨trivial, trivial, trivial, trivial, trivial, trivial, (by omega), (by omega), trivial, trivial⟩ ?_
            refine AWP.seq (AWP.seq (KL ([19] ++ NN 21 6) ⟨[U6, .ptr 0 0, (B6 false), .ptr 1 0, .ptr 2 0, (I6 0)] ++ UU 86, [⟨[(I6 n), tl ks, (I6 m), tl ls], 4, .fresh⟩, ⟨[(I6 (T.n (T.mk a aa))), tl (T.ks (T.mk a aa)), (I6 (T.n (T.mk m ls))), tl (T.ks (T.mk m ls))], 4, .fresh⟩, ⟨[(I6 (T.n (T.mk b bs))), tl (T.ks (T.mk b bs)), (I6 (T.n (T.mk m ls))), tl (T.ks (T.mk m ls))], 4, .fresh⟩]⟩ ?_))
            refine AWP.reg (RT 2 ?_)
            refine KL [5, 27] ⟨[U6, .ptr 0 0, (B6 false), .ptr 1 0, .ptr 2 0] ++ UU 23 ++ [(B6 false)] ++ UU 63, [⟨[(I6 n), tl ks, (I6 m), tl ls], 4, .fresh⟩, ⟨[(I6 (T.n (T.mk a aa))), tl (T.ks (T.mk a aa)), (I6 (T.n (T.mk m ls))), tl (T.ks (T.mk m ls))], 4, .fresh⟩, ⟨[(I6 (T.n (T.mk b bs))), tl (T.ks (T.mk b bs)), (I6 (T.n (T.mk m ls))), tl (T.ks (T.mk m ls))], 4, .fresh⟩]⟩ ?_
            refine CN false (fun h => nomatch h) (fun _ => ?_)
            refine AWP.skip (SQ (PI 1 (4 ≤ 4 ∧ True) ⟨(by omega), trivial⟩ ?_))
            refine CD (v1) ?_
            refine RI (True ∧ True ∧ True ∧ True ∧ 4 ≤ 4 ∧ True ∧ True) ⟨trivial, trivial, trivial, trivial, (by omega), trivial, trivial⟩ ?_
            refine AWP.seq (KL ([3, 28] ++ NN 30 5) ⟨[U6, .ptr 0 0, (B6 false), U6, .ptr 2 0, U6, .ptr 3 0, (I6 0)] ++ UU 84, [⟨[(I6 n), tl ks, (I6 m), tl ls], 4, .fresh⟩, ⟨[(I6 (T.n (T.mk a aa))), tl (T.ks (T.mk a aa)), (I6 (T.n (T.mk m ls))), tl (T.ks (T.mk m ls))], 4, .fresh⟩, ⟨[(I6 (T.n (T.mk b bs))), tl (T.ks (T.mk b bs)), (I6 (T.n (T.mk m ls))), tl (T.ks (T.mk m ls))], 4, .fresh⟩, ⟨[(I6 (T.n (T.mk a aa))), tl (T.ks (T.mk a aa)), (I6 (T.n (nextE (T.mk a aa) (T.mk m ls)))), tl (T.ks (nextE (T.mk a aa) (T.mk m ls)))], 4, .fresh⟩]⟩ ?_)
            refine AWP.reg (PI 1 (4 ≤ 4 ∧ True) ⟨(by omega), trivial⟩ ?_)
            refine CD (v2) ?_
            refine RI (True ∧ True ∧ True ∧ True ∧ 4 ≤ 4 ∧ True ∧ True) ⟨trivial, trivial, trivial, trivial, (by omega), trivial, trivial⟩ ?_
            refine AWP.seq (AWP.seq (KL ([4] ++ NN 35 5) ⟨[U6, .ptr 0 0, (B6 false), U6, U6, U6, .ptr 3 0, (I6 0), .ptr 4 0, (I6 40)] ++ UU 82, [⟨[(I6 n), tl ks, (I6 m), tl ls], 4, .fresh⟩, ⟨[(I6 (T.n (T.mk a aa))), tl (T.ks (T.mk a aa)), (I6 (T.n (T.mk m ls))), tl (T.ks (T.mk m ls))], 4, .fresh⟩, ⟨[(I6 (T.n (T.mk b bs))), tl (T.ks (T.mk b bs)), (I6 (T.n (T.mk m ls))), tl (T.ks (T.mk m ls))], 4, .fresh⟩, ⟨[(I6 (T.n (T.mk a aa))), tl (T.ks (T.mk a aa)), (I6 (T.n (nextE (T.mk a aa) (T.mk m ls)))), tl (T.ks (nextE (T.mk a aa) (T.mk m ls)))], 4, .fresh⟩, ⟨[(I6 0), .sl [] 0 .any, (I6 0), .sl [] 0 .any], 4, .fresh⟩]⟩ ?_))
            refine AWP.reg (RT 6 ?_)
            refine KL ([7, 9] ++ NN 40 5) ⟨[U6, .ptr 0 0, (B6 false), U6, U6, U6, .ptr 3 0, U6, .ptr 4 0] ++ UU 36 ++ [(B6 true)] ++ UU 46, [⟨[(I6 n), tl ks, (I6 m), tl ls], 4, .fresh⟩, ⟨[(I6 (T.n (T.mk a aa))), tl (T.ks (T.mk a aa)), (I6 (T.n (T.mk m ls))), tl (T.ks (T.mk m ls))], 4, .fresh⟩, ⟨[(I6 (T.n (T.mk b bs))), tl (T.ks (T.mk b bs)), (I6 (T.n (T.mk m ls))), tl (T.ks (T.mk m ls))], 4, .fresh⟩, ⟨[(I6 (T.n (T.mk a aa))), tl (T.ks (T.mk a aa)), (I6 (T.n (nextE (T.mk a aa) (T.mk m ls)))), tl (T.ks (nextE (T.mk a aa) (T.mk m ls)))], 4, .fresh⟩, ⟨[(I6 0), .sl [] 0 .any, (I6 0), .sl [] 0 .any], 4, .fresh⟩]⟩ ?_
            refine CN true (fun _ => ?_) (fun h => nomatch h)
            refine SQ (CD (heads06) ?_)
            refine RT 1 ?_
            refine AWP.ret FA
          · rw [e2] at v2
            obtain ⟨n1, n2⟩ := next_apart (a := .mk a aa) (b := .mk b bs) (e := (.mk m ls)) (by omega) (by omega) p1 p2 za zb ke hka hkb (by rw [p3])
            have n3 := (next_leq (i := .mk a aa) (e := (.mk m ls)) (by omega) p1 za ke hka).1
            have y1 := next_size (.mk a aa) (.mk m ls)
            have y2 := next_size (.mk b bs) (.mk m ls)
            clear e1 e2
            generalize nextE (.mk a aa) (.mk m ls) = P at *
            generalize nextE (.mk b bs) (.mk m ls) = Q at *
            obtain ⟨t, ts⟩ := P
            obtain ⟨u, us⟩ := Q
            simp only at v1 v2
            have ka : checkS (.mk a aa) (.mk t ts) = true := by simp [checkS, p1, hka]
            have kb : checkS (.mk b bs) (.mk u us) = true := by simp [checkS, p2, hkb]
            have c2 := s_Join a t aa ts b u bs us (by omega) (by omega) (by omega) (by omega)
            have e3 : joinSP (.mk a aa) (.mk t ts) (.mk b bs) (.mk u us) = (((.mk n ks), bothE 16 (.mk t ts) (.mk u us)), 0) := by
              simp [joinSP, ka, kb, sumP, p1, p2, p3, joinP, hka, hkb]
            rw [e3] at c2
            obtain ⟨j1, j2, j3, j4, j5⟩ := join_facts hka hkb ke 0
            have hz2 := size_joinP (.mk t ts) (.mk u us)
            rw [joinP, if_pos ⟨hka, hkb⟩] at hz2
            clear e3
            generalize bothE 16 (.mk t ts) (.mk u us) = J at *
            obtain ⟨j, js⟩ := J
            simp only at c2 hz2
            have kj : checkS (.mk n ks) (.mk j js) = true := by simp [checkS, ki, j1]
            have c3 := r_same 1000 (by decide) n n ks ks (by omega)
            rw [beqT_self] at c3
            have c4 := s_Leq a t aa ts b u bs us (by omega) (by omega) (by omega) (by omega)
            rw [show leqSP (.mk a aa) (.mk t ts) (.mk b bs) (.mk u us) = false by simp [leqSP, n1]] at c4
            have c5 := s_Leq b u bs us a t aa ts (by omega) (by omega) (by omega) (by omega)
            rw [show leqSP (.mk b bs) (.mk u us) (.mk a aa) (.mk t ts) = false by simp [leqSP, n2]] at c5
            have c6 := s_Leq a t aa ts n j ks js (by omega) (by omega) (by omega) (by omega)
            rw [show leqSP (.mk a aa) (.mk t ts) (.mk n ks) (.mk j js) = true by simp [leqSP, ka, kj, j2]] at c6
            have c7 := s_Leq b u bs us n j ks js (by omega) (by omega) (by omega) (by omega)
            rw [show leqSP (.mk b bs) (.mk u us) (.mk n ks) (.mk j js) = true by simp [leqSP, kb, kj, j3]] at c7
            have c8 := s_Leq n m ks ls a t aa ts (by omega) (by omega) (by omega) (by omega)
            rw [show leqSP (.mk n ks) (.mk m ls) (.mk a aa) (.mk t ts) = true by simp [leqSP, k, ka, n3]] at c8
            refine EvD.body Try.func12 rfl rfl rfl ?_
            refine AWP.seq ?_
            refine TO ⟨[.agg [(I6 n), tl ks, (I6 m), tl ls]] ++ UU 91, []⟩ ?_
            refine AWP.reg (RT 2 ?_)
            refine AWP.seq (AWP.seq (KL [0] ⟨[U6, .ptr 0 0, (B6 false)] ++ UU 89, [⟨[(I6 n), tl ks, (I6 m), tl ls], 4, .fresh⟩]⟩ ?_))
            refine AWP.reg (PI 1 (4 ≤ 4 ∧ True) ⟨(by omega), trivial⟩ ?_)
            refine CD (f1) ?_
            refine PI 3 (True ∧ True ∧ 4 ≤ 4 ∧ True) ⟨trivial, trivial, (by omega), trivial⟩ ?_
            refine CD (g1) ?_
            refine RT 2 ?_
            refine KL (NN 12 7) ⟨[U6, .ptr 0 0, (B6 false)] ++ UU 16 ++ [(B6 false)] ++ UU 72, [⟨[(I6 n), tl ks, (I6 m), tl ls], 4, .fresh⟩]⟩ ?_
            refine CN false (fun h => nomatch h) (fun _ => ?_)
            refine AWP.skip (SQ (PI 1 (4 ≤ 4 ∧ True) ⟨(by omega), trivial⟩ ?_))
            refine CD (c1) ?_
            refine RI (True ∧ True ∧ True ∧ True ∧ True ∧ True ∧ 4 ≤ 4 ∧ 4 ≤ 4 ∧ True ∧ True) ⟨trivial, trivial, trivial, trivial, trivial, trivial, (by omega), (by omega), trivial, trivial⟩ ?_
            refine AWP.seq (AWP.seq (KL ([19] ++ NN 21 6) ⟨[U6, .ptr 0 0, (B6 false), .ptr 1 0, .ptr 2 0, (I6 0)] ++ UU 86, [⟨[(I6 n), tl ks, (I6 m), tl ls], 4, .fresh⟩, ⟨[(I6 (T.n (T.mk a aa))), tl (T.ks (T.mk a aa)), (I6 (T.n (T.mk m ls))), tl (T.ks (T.mk m ls))], 4, .fresh⟩, ⟨[(I6 (T.n (T.mk b bs))), tl (T.ks (T.mk b bs)), (I6 (T.n (T.mk m ls))), tl (T.ks (T.mk m ls))], 4, .fresh⟩]⟩ ?_))
            refine AWP.reg (RT 2 ?_)
            refine KL [5, 27] ⟨[U6, .ptr 0 0, (B6 false), .ptr 1 0, .ptr 2 0] ++ UU 23 ++ [(B6 false)] ++ UU 63, [⟨[(I6 n), tl ks, (I6 m), tl ls], 4, .fresh⟩, ⟨[(I6 (T.n (T.mk a aa))), tl (T.ks (T.mk a aa)), (I6 (T.n (T.mk m ls))), tl (T.ks (T.mk m ls))], 4, .fresh⟩, ⟨[(I6 (T.n (T.mk b bs))), tl (T.ks (T.mk b bs)), (I6 (T.n (T.mk m ls))), tl (T.ks (T.mk m ls))], 4, .fresh⟩]⟩ ?_
            refine CN false (fun h => nomatch h) (fun _ => ?_)
            refine AWP.skip (SQ (PI 1 (4 ≤ 4 ∧ True) ⟨(by omega), trivial⟩ ?_))
            refine CD (v1) ?_
            refine RI (True ∧ True ∧ True ∧ True ∧ 4 ≤ 4 ∧ True ∧ True) ⟨trivial, trivial, trivial, trivial, (by omega), trivial, trivial⟩ ?_
            refine AWP.seq (KL ([3, 28] ++ NN 30 5) ⟨[U6, .ptr 0 0, (B6 false), U6, .ptr 2 0, U6, .ptr 3 0, (I6 0)] ++ UU 84, [⟨[(I6 n), tl ks, (I6 m), tl ls], 4, .fresh⟩, ⟨[(I6 (T.n (T.mk a aa))), tl (T.ks (T.mk a aa)), (I6 (T.n (T.mk m ls))), tl (T.ks (T.mk m ls))], 4, .fresh⟩, ⟨[(I6 (T.n (T.mk b bs))), tl (T.ks (T.mk b bs)), (I6 (T.n (T.mk m ls))), tl (T.ks (T.mk m ls))], 4, .fresh⟩, ⟨[(I6 (T.n (T.mk a aa))), tl (T.ks (T.mk a aa)), (I6 (T.n (T.mk t ts))), tl (T.ks (T.mk t ts))], 4, .fresh⟩]⟩ ?_)
            refine AWP.reg (PI 1 (4 ≤ 4 ∧ True) ⟨(by omega), trivial⟩ ?_)
            refine CD (v2) ?_
            refine RI (True ∧ True ∧ True ∧ True ∧ 4 ≤ 4 ∧ True ∧ True) ⟨trivial, trivial, trivial, trivial, (by omega), trivial, trivial⟩ ?_
            refine AWP.seq (AWP.seq (KL ([4] ++ NN 35 5) ⟨[U6, .ptr 0 0, (B6 false), U6, U6, U6, .ptr 3 0, (I6 0), .ptr 4 0, (I6 0)] ++ UU 82, [⟨[(I6 n), tl ks, (I6 m), tl ls], 4, .fresh⟩, ⟨[(I6 (T.n (T.mk a aa))), tl (T.ks (T.mk a aa)), (I6 (T.n (T.mk m ls))), tl (T.ks (T.mk m ls))], 4, .fresh⟩, ⟨[(I6 (T.n (T.mk b bs))), tl (T.ks (T.mk b bs)), (I6 (T.n (T.mk m ls))), tl (T.ks (T.mk m ls))], 4, .fresh⟩, ⟨[(I6 (T.n (T.mk a aa))), tl (T.ks (T.mk a aa)), (I6 (T.n (T.mk t ts))), tl (T.ks (T.mk t ts))], 4, .fresh⟩, ⟨[(I6 (T.n (T.mk b bs))), tl (T.ks (T.mk b bs)), (I6 (T.n (T.mk u us))), tl (T.ks (T.mk u us))], 4, .fresh⟩]⟩ ?_))
            refine AWP.reg (RT 6 ?_)
            refine KL ([7, 9] ++ NN 40 5) ⟨[U6, .ptr 0 0, (B6 false), U6, U6, U6, .ptr 3 0, U6, .ptr 4 0] ++ UU 36 ++ [(B6 false)] ++ UU 46, [⟨[(I6 n), tl ks, (I6 m), tl ls], 4, .fresh⟩, ⟨[(I6 (T.n (T.mk a aa))), tl (T.ks (T.mk a aa)), (I6 (T.n (T.mk m ls))), tl (T.ks (T.mk m ls))], 4, .fresh⟩, ⟨[(I6 (T.n (T.mk b bs))), tl (T.ks (T.mk b bs)), (I6 (T.n (T.mk m ls))), tl (T.ks (T.mk m ls))], 4, .fresh⟩, ⟨[(I6 (T.n (T.mk a aa))), tl (T.ks (T.mk a aa)), (I6 (T.n (T.mk t ts))), tl (T.ks (T.mk t ts))], 4, .fresh⟩, ⟨[(I6 (T.n (T.mk b bs))), tl (T.ks (T.mk b bs)), (I6 (T.n (T.mk u us))), tl (T.ks (T.mk u us))], 4, .fresh⟩]⟩ ?_
            refine CN false (fun h => nomatch h) (fun _ => ?_)
            refine AWP.skip (SQ (PI 2 (4 ≤ 4 ∧ 4 ≤ 4 ∧ True) ⟨(by omega), (by omega), trivial⟩ ?_))
            refine CD (c2) ?_
            refine RI (True ∧ True ∧ True ∧ True ∧ 4 ≤ 4 ∧ True ∧ True) ⟨trivial, trivial, trivial, trivial, (by omega), trivial, trivial⟩ ?_
            refine AWP.seq (KL ([45] ++ NN 47 6) ⟨[U6, .ptr 0 0, (B6 false), U6, U6, U6, .ptr 3 0, U6, .ptr 4 0, U6, .ptr 5 0, (I6 0)] ++ UU 80, [⟨[(I6 n), tl ks, (I6 m), tl ls], 4, .fresh⟩, ⟨[(I6 (T.n (T.mk a aa))), tl (T.ks (T.mk a aa)), (I6 (T.n (T.mk m ls))), tl (T.ks (T.mk m ls))], 4, .fresh⟩, ⟨[(I6 (T.n (T.mk b bs))), tl (T.ks (T.mk b bs)), (I6 (T.n (T.mk m ls))), tl (T.ks (T.mk m ls))], 4, .fresh⟩, ⟨[(I6 (T.n (T.mk a aa))), tl (T.ks (T.mk a aa)), (I6 (T.n (T.mk t ts))), tl (T.ks (T.mk t ts))], 4, .fresh⟩, ⟨[(I6 (T.n (T.mk b bs))), tl (T.ks (T.mk b bs)), (I6 (T.n (T.mk u us))), tl (T.ks (T.mk u us))], 4, .fresh⟩, ⟨[(I6 (T.n (T.mk n ks))), tl (T.ks (T.mk n ks)), (I6 (T.n (T.mk j js))), tl (T.ks (T.mk j js))], 4, .fresh⟩]⟩ ?_)
            refine AWP.reg (PI 7 (True ∧ True ∧ True ∧ True ∧ 2 ≤ 4 ∧ True ∧ 2 ≤ 4 ∧ True) ⟨trivial, trivial, trivial, trivial, (by omega), trivial, (by omega), trivial⟩ ?_)
            refine CD (c3) ?_
            refine PI 4 (True ∧ True ∧ 4 ≤ 4 ∧ 4 ≤ 4 ∧ True) ⟨trivial, trivial, (by omega), (by omega), trivial⟩ ?_
            refine CD (c4) ?_
            refine PI 5 (True ∧ True ∧ True ∧ 4 ≤ 4 ∧ 4 ≤ 4 ∧ True) ⟨trivial, trivial, trivial, (by omega), (by omega), trivial⟩ ?_
            refine CD (c5) ?_
            refine PI 5 (True ∧ True ∧ True ∧ 4 ≤ 4 ∧ 4 ≤ 4 ∧ True) ⟨trivial, trivial, trivial, (by omega), (by omega), trivial⟩ ?_
            refine CD (c6) ?_
            refine PI 4 (True ∧ True ∧ 4 ≤ 4 ∧ 4 ≤ 4 ∧ True) ⟨trivial, trivial, (by omega), (by omega), trivial⟩ ?_
            refine CD (c7) ?_
            refine PI 4 (True ∧ True ∧ 4 ≤ 4 ∧ 4 ≤ 4 ∧ True) ⟨trivial, trivial, (by omega), (by omega), trivial⟩ ?_
            refine CD (c8) ?_
            refine PT 2 2 ?_
            refine CD (heads06) ?_
            refine RT 2 ?_
            refine AWP.ret FA
      · have e1 : forkP (.mk n ks) (.mk m ls) = ((.mk 0 [], .mk 0 []), (.mk 0 [], .mk 0 []), 40) := by rw [forkP, if_pos k, splitP, if_pos ki, if_neg h0, if_neg hr]; rfl
        rw [e1] at c1
        refine EvD.body Try.func12 rfl rfl rfl ?_
        refine AWP.seq ?_
        refine TO ⟨[.agg [(I6 n), tl ks, (I6 m), tl ls]] ++ UU 91, []⟩ ?_
        refine AWP.reg (RT 2 ?_)
        refine AWP.seq (AWP.seq (KL [0] ⟨[U6, .ptr 0 0, (B6 false)] ++ UU 89, [⟨[(I6 n), tl ks, (I6 m), tl ls], 4, .fresh⟩]⟩ ?_))
        refine AWP.reg (PI 1 (4 ≤ 4 ∧ True) ⟨(by omega), trivial⟩ ?_)
        refine CD (f1) ?_
        refine PI 3 (True ∧ True ∧ 4 ≤ 4 ∧ True) ⟨trivial, trivial, (by omega), trivial⟩ ?_
        refine CD (g1) ?_
        refine RT 2 ?_
        refine KL (NN 12 7) ⟨[U6, .ptr 0 0, (B6 false)] ++ UU 16 ++ [(B6 false)] ++ UU 72, [⟨[(I6 n), tl ks, (I6 m), tl ls], 4, .fresh⟩]⟩ ?_
        refine CN false (fun h => nomatch h) (fun _ => ?_)
        refine AWP.skip (SQ (PI 1 (4 ≤ 4 ∧ True) ⟨(by omega), trivial⟩ ?_))
        refine CD (c1) ?_
        refine RI (True ∧ True ∧ True ∧ True ∧ True ∧ True ∧ 4 ≤ 4 ∧ 4 ≤ 4 ∧ True ∧ True) ⟨trivial, trivial, trivial, trivial, trivial, trivial, (by omega), (by omega), trivial, trivial⟩ ?_
        refine AWP.seq (AWP.seq (KL ([19] ++ NN 21 6) ⟨[U6, .ptr 0 0, (B6 false), .ptr 1 0, .ptr 2 0, (I6 40)] ++ UU 86, [⟨[(I6 n), tl ks, (I6 m), tl ls], 4, .fresh⟩, ⟨[(I6 0), .sl [] 0 .any, (I6 0), .sl [] 0 .any], 4, .fresh⟩, ⟨[(I6 0), .sl [] 0 .any, (I6 0), .sl [] 0 .any], 4, .fresh⟩]⟩ ?_))
        refine AWP.reg (RT 2 ?_)
        refine KL [5, 27] ⟨[U6, .ptr 0 0, (B6 false), .ptr 1 0, .ptr 2 0] ++ UU 23 ++ [(B6 true)] ++ UU 63, [⟨[(I6 n), tl ks, (I6 m), tl ls], 4, .fresh⟩, ⟨[(I6 0), .sl [] 0 .any, (I6 0), .sl [] 0 .any], 4, .fresh⟩, ⟨[(I6 0), .sl [] 0 .any, (I6 0), .sl [] 0 .any], 4, .fresh⟩]⟩ ?_
        refine CN true (fun _ => ?_) (fun h => nomatch h)
        refine SQ (CD (heads06) ?_)
        refine RT 1 ?_
        refine AWP.ret FA
  · refine EvD.body Try.func12 rfl rfl rfl ?_
    refine AWP.seq ?_
    refine TO ⟨[.agg [(I6 n), tl ks, (I6 m), tl ls]] ++ UU 91, []⟩ ?_
    refine AWP.reg (RT 2 ?_)
    refine AWP.seq (AWP.seq (KL [0] ⟨[U6, .ptr 0 0, (B6 false)] ++ UU 89, [⟨[(I6 n), tl ks, (I6 m), tl ls], 4, .fresh⟩]⟩ ?_))
    refine AWP.reg (PI 1 (4 ≤ 4 ∧ True) ⟨(by omega), trivial⟩ ?_)
    refine CD (sr_few n m ks ls) ?_
    refine PT 2 2 ?_
    refine DerQ.to ⟨[U6, .ptr 0 0, (B6 false)] ++ UU 9 ++ [.agg [(I6 n), tl ks, (I6 m), tl ls], (B6 (decide (size (T.mk n ks) ≤ 120 ∧ size (T.mk m ls) ≤ 120))), (B6 (!decide (size (T.mk n ks) ≤ 120 ∧ size (T.mk m ls) ≤ 120))), (B6 (!decide (size (T.mk n ks) ≤ 120 ∧ size (T.mk m ls) ≤ 120)))] ++ UU 76, [⟨[(I6 n), tl ks, (I6 m), tl ls], 4, .fresh⟩]⟩ (by kernel_rfl) ?_
    cases h1 : (!decide (size (T.mk n ks) ≤ 120 ∧ size (T.mk m ls) ≤ 120))
    · have h1' := h1
      simp only [Bool.and_eq_true, Bool.and_eq_false_iff, Bool.or_eq_true, Bool.or_eq_false_iff, Bool.not_eq_true', Bool.not_eq_false', beq_iff_eq, beq_eq_false_iff_ne, decide_eq_true_eq, decide_eq_false_iff_not, ne_eq] at h1'
      refine PI 1 (4 ≤ 4 ∧ True) ⟨(by omega), trivial⟩ ?_
      refine CD (sr_check n m ks ls (by omega) (by omega)) ?_
      refine RT 2 ?_
      refine KL (NN 12 7) ⟨[U6, .ptr 0 0, (B6 false)] ++ UU 16 ++ [(B6 (!checkS (T.mk n ks) (T.mk m ls)))] ++ UU 72, [⟨[(I6 n), tl ks, (I6 m), tl ls], 4, .fresh⟩]⟩ ?_
      refine CN (!checkS (T.mk n ks) (T.mk m ls)) (fun h2 => ?_) (fun h2 => ?_)
      · have h2' := h2
        simp only [Bool.and_eq_true, Bool.and_eq_false_iff, Bool.or_eq_true, Bool.or_eq_false_iff, Bool.not_eq_true', Bool.not_eq_false', beq_iff_eq, beq_eq_false_iff_ne, decide_eq_true_eq, decide_eq_false_iff_not, ne_eq] at h2'
        refine SQ (CD (heads06) ?_)
        refine RT 1 ?_
        refine AWP.ret FA
      · have h2' := h2
        simp only [Bool.and_eq_true, Bool.and_eq_false_iff, Bool.or_eq_true, Bool.or_eq_false_iff, Bool.not_eq_true', Bool.not_eq_false', beq_iff_eq, beq_eq_false_iff_ne, decide_eq_true_eq, decide_eq_false_iff_not, ne_eq] at h2'
        (exfalso; simp_all; done)
    · have h1' := h1
      simp only [Bool.and_eq_true, Bool.and_eq_false_iff, Bool.or_eq_true, Bool.or_eq_false_iff, Bool.not_eq_true', Bool.not_eq_false', beq_iff_eq, beq_eq_false_iff_ne, decide_eq_true_eq, decide_eq_false_iff_not, ne_eq] at h1'
      refine RT 1 ?_
      refine KL (NN 12 7) ⟨[U6, .ptr 0 0, (B6 false)] ++ UU 16 ++ [(B6 true)] ++ UU 72, [⟨[(I6 n), tl ks, (I6 m), tl ls], 4, .fresh⟩]⟩ ?_
      refine CN true (fun _ => ?_) (fun h => nomatch h)
      refine SQ (CD (heads06) ?_)
      refine RT 1 ?_
      refine AWP.ret FA
end Go.Tr
