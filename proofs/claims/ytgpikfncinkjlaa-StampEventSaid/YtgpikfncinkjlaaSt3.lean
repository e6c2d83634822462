/- Walks and laws. -/
import Derived.Test.YtgpikfncinkjlaaSt2
import Derived.Test.YtgpikfncinkjlaaIdD
import Derived.Test.YtgpikfncinkjlaaLibB
set_option maxRecDepth 100000
set_option maxHeartbeats 0
set_option linter.unusedSimpArgs false
set_option linter.unusedVariables false
namespace Go.Tr
open Go Go.Abs Go.Proofs
theorem s_up (a b : Int) (c e : List T) (d l : Int) (h : roughE d l (.mk a c) = true) (hl : l ≤ 2000000000) : EvD Try.prog 124 [.agg [.sc (.int .i64 a), .sl (tcs c) c.length .any], .agg [.sc (.int .i64 b), .sl (tcs e) e.length .any]] (.agg [.sc (.int .i64 (max (endE true (.mk a c)) b)), .sl [] 0 .any]) := by
  have q := s_top _ a c d l (Nat.le_refl _) h hl
  refine EvD.body Try.func124 rfl rfl rfl ?_
  refine AWP.seq ?_
  refine TO ⟨[.agg [(I6 a), tl c], .agg [(I6 b), tl e]] ++ UU 9, []⟩ ?_
  refine AWP.reg (RT 3 ?_)
  refine AWP.seq (KL [0, 1] ⟨[U6, U6, .ptr 0 0, .ptr 1 0, .ptr 2 0] ++ UU 6, [⟨[(I6 a), tl c], 2, .fresh⟩, ⟨[(I6 b), tl e], 2, .fresh⟩, ⟨[(I6 0), .sl [] 0 .nil], 2, .fresh⟩]⟩ ?_)
  refine AWP.drawB mixed (fun o => if [].contains (o.dst.getD 0) then 1 else if [].contains (o.dst.getD 0) then 2 else if [0, 6].contains (o.dst.getD 0) then 3 else 0) 0 3 (fun x => [⟨[(I6 a), tl c], 2, .fresh⟩, ⟨[(I6 b), tl e], 2, .fresh⟩, ⟨x 2, 2, .fresh⟩]) ⟨[U6, U6, .ptr 0 0, .ptr 1 0, .ptr 2 0] ++ UU 6, [⟨[(I6 a), tl c], 2, .fresh⟩, ⟨[(I6 b), tl e], 2, .fresh⟩, ⟨[(I6 0), .sl [] 0 .nil], 2, .fresh⟩]⟩ (by kernel_rfl) ⟨by kernel_rfl, by kernel_rfl⟩ (by kernel_rfl) ?_
  refine DerZ.quietI ((2 : Nat) ≤ (2 : Nat)) (by intro x ext; kernel_rfl) (by kernel_rfl) (by omega) ?_
  refine DerZ.callDI (q) ⟨by kernel_rfl, by kernel_rfl⟩ ?_
  refine DerZ.pre 4 ((True) ∧ (((0 : Nat) < (2 : Nat)) ∧ ((True) ∧ ((True) ∧ (True))))) [.ptr 1 0, (I6 b), (I6 (if b > endE true (T.mk a c) then b else endE true (T.mk a c))), .agg [(I6 (if b > endE true (T.mk a c) then b else endE true (T.mk a c))), .sl [] 0 .nil]] ⟨[U6, U6, .ptr 0 0, .ptr 1 0, .ptr 2 0, .agg [(I6 a), tl c], (I6 (endE true (T.mk a c))), .ptr 1 0, (I6 b), (I6 (if b > endE true (T.mk a c) then b else endE true (T.mk a c))), .agg [(I6 (if b > endE true (T.mk a c) then b else endE true (T.mk a c))), .sl [] 0 .nil]], [⟨[(I6 a), tl c], 2, .fresh⟩, ⟨[(I6 b), tl e], 2, .fresh⟩, ⟨[(I6 0), .sl [] 0 .nil], 2, .fresh⟩]⟩ (by intro x ext; kernel_rfl) (by kernel_rfl) ⟨trivial, ⟨(by omega), ⟨trivial, ⟨trivial, trivial⟩⟩⟩⟩ ?_
  rw [Go.Tr.max_if (endE true (T.mk a c)) (b)]
  refine DerZ.effI 3 ((2 : Nat) ≤ (2 : Nat)) (by kernel_rfl) ⟨⟨by kernel_rfl, by kernel_rfl⟩, by kernel_rfl⟩ (by omega) ?_
  refine DerZ.nil ?_
  refine AWP.ret ?_
  refine FI (.agg [.sc (.int .i64 (max (endE true (T.mk a c)) b)), .sl [] 0 .nil]) ?_
  refine Shrink.dataK [] (True) (.agg [.sc (.int .i64 (max (endE true (T.mk a c)) b)), .sl [] 0 .nil]) (by kernel_rfl) trivial ?_ rfl
  kernel_rfl
theorem s_fill (N : Nat) : ∀ (n m : Int) (ks ls : List T) (d l : Int), size (.mk n ks) ≤ N → validI (.mk n ks) = true → normI (.mk n ks) = .mk n ks → roughE d l (.mk m ls) = true → l ≤ 1073741824 → size (.mk m ls) ≤ 100000 → EvD Try.prog 117 [.agg [.sc (.int .i64 n), .sl (tcs ks) ks.length .any], .agg [.sc (.int .i64 m), .sl (tcs ls) ls.length .any]] (ag (fillE (.mk n ks) (.mk m ls))) := by
  induction N with
  | zero => intro n m ks ls d l h; rw [size] at h; omega
  | succ N ih =>
    intro n m ks ls d l hN hv hn hr hl hs
    have hb : binT (.mk n ks) = true := bin_of_rough _ (depthT (.mk n ks)) ((rough_iff _ _ (by omega)).2 ⟨hv, by omega⟩)
    have hrn := roughE_n hr
    simp only [T.n_mk] at hrn
    rcases bin_case hb with rfl | ⟨n1, k1, n2, k2, rfl⟩
    · have q1 := s_top _ m ls d l (Nat.le_refl _) hr (by omega)
      have hv' : n = 0 ∨ n = 1 := by simpa only [validI, decide_eq_true_eq] using hv
      by_cases h0 : n = 0 ∨ ls.length = 0
      · rw [fill_leaf, if_pos h0]
        refine EvD.body Try.func117 rfl rfl rfl ?_
        refine AWP.seq ?_
        refine TO ⟨[.agg [(I6 n), .sl [] 0 .any], .agg [(I6 m), tl ls]] ++ UU 77, []⟩ ?_
        refine AWP.reg (RT 3 ?_)
        refine AWP.seq (AWP.block (AWP.seq (AWP.seq (KL [0, 1] ⟨[U6, U6, .ptr 0 0, .ptr 1 0, .ptr 2 0] ++ UU 74, [⟨[(I6 n), .sl [] 0 .any], 2, .fresh⟩, ⟨[(I6 m), tl ls], 2, .fresh⟩, ⟨[(I6 0), .sl [] 0 .nil], 2, .fresh⟩]⟩ ?_))))
        refine AWP.reg (PI 1 (2 ≤ 2 ∧ True) ⟨(by omega), trivial⟩ ?_)
        refine CD (s_is n ((0 : Int)) [] ((0 : Nat))) ?_
        refine RT 1 ?_
        refine KL [9, 10] ⟨[U6, U6, .ptr 0 0, .ptr 1 0, .ptr 2 0, U6, U6, U6, (B6 (decide (0 = 0 ∧ n = 0)))] ++ UU 70, [⟨[(I6 n), .sl [] 0 .any], 2, .fresh⟩, ⟨[(I6 m), tl ls], 2, .fresh⟩, ⟨[(I6 0), .sl [] 0 .nil], 2, .fresh⟩]⟩ ?_
        refine CN (decide (0 = 0 ∧ n = 0)) (fun h1 => ?_) (fun h1 => ?_)
        · have h1' := of_decide_eq_true h1
          refine AWP.skip ?_
          refine CN (decide (0 = 0 ∧ n = 0)) (fun h2 => ?_) (fun h2 => ?_)
          · have h2' := of_decide_eq_true h2
            refine SQ (RI (2 ≤ 2 ∧ 2 ≤ 2 ∧ True) ⟨(by omega), (by omega), trivial⟩ ?_)
            refine AWP.ret FA
          · have h2' := of_decide_eq_false h2
            exfalso; omega
        · have h1' := of_decide_eq_false h1
          refine AWP.reg (RI (True ∧ 1 < 2 ∧ True ∧ True ∧ True ∧ True) ⟨trivial, (by omega), trivial, trivial, trivial, trivial⟩ ?_)
          refine KL [11, 12, 13, 14] ⟨[U6, U6, .ptr 0 0, .ptr 1 0, .ptr 2 0, U6, U6, U6, (B6 ((↑(List.length ls) : Int) == 0))] ++ UU 70, [⟨[(I6 n), .sl [] 0 .any], 2, .fresh⟩, ⟨[(I6 m), tl ls], 2, .fresh⟩, ⟨[(I6 0), .sl [] 0 .nil], 2, .fresh⟩]⟩ ?_
          refine CN ((↑(List.length ls) : Int) == 0) (fun h2 => ?_) (fun h2 => ?_)
          · have h2' := eq_of_beq h2
            refine SQ (RI (2 ≤ 2 ∧ 2 ≤ 2 ∧ True) ⟨(by omega), (by omega), trivial⟩ ?_)
            refine AWP.ret FA
          · have h2' := ne_of_beq_false h2
            exfalso; omega
      · have h1 : n = 1 := by omega
        subst h1
        rw [fill_leaf, if_neg h0, if_pos rfl]
        refine EvD.body Try.func117 rfl rfl rfl ?_
        refine AWP.seq ?_
        refine TO ⟨[.agg [(I6 1), .sl [] 0 .any], .agg [(I6 m), tl ls]] ++ UU 77, []⟩ ?_
        refine AWP.reg (RT 3 ?_)
        refine AWP.seq (AWP.block (AWP.seq (AWP.seq (KL [0, 1] ⟨[U6, U6, .ptr 0 0, .ptr 1 0, .ptr 2 0] ++ UU 74, [⟨[(I6 1), .sl [] 0 .any], 2, .fresh⟩, ⟨[(I6 m), tl ls], 2, .fresh⟩, ⟨[(I6 0), .sl [] 0 .nil], 2, .fresh⟩]⟩ ?_))))
        refine AWP.reg (PI 1 (2 ≤ 2 ∧ True) ⟨(by omega), trivial⟩ ?_)
        refine CD (s_is ((1 : Int)) ((0 : Int)) [] ((0 : Nat))) ?_
        refine RT 1 ?_
        refine KL [9, 10] ⟨[U6, U6, .ptr 0 0, .ptr 1 0, .ptr 2 0, U6, U6, U6, (B6 false)] ++ UU 70, [⟨[(I6 1), .sl [] 0 .any], 2, .fresh⟩, ⟨[(I6 m), tl ls], 2, .fresh⟩, ⟨[(I6 0), .sl [] 0 .nil], 2, .fresh⟩]⟩ ?_
        refine CN false (fun h => nomatch h) (fun _ => ?_)
        refine AWP.reg (RI (True ∧ 1 < 2 ∧ True ∧ True ∧ True ∧ True) ⟨trivial, (by omega), trivial, trivial, trivial, trivial⟩ ?_)
        refine KL [11, 12, 13, 14] ⟨[U6, U6, .ptr 0 0, .ptr 1 0, .ptr 2 0, U6, U6, U6, (B6 ((↑(List.length ls) : Int) == 0))] ++ UU 70, [⟨[(I6 1), .sl [] 0 .any], 2, .fresh⟩, ⟨[(I6 m), tl ls], 2, .fresh⟩, ⟨[(I6 0), .sl [] 0 .nil], 2, .fresh⟩]⟩ ?_
        refine CN ((↑(List.length ls) : Int) == 0) (fun h1 => ?_) (fun h1 => ?_)
        · have h1' := eq_of_beq h1
          exfalso; omega
        · have h1' := ne_of_beq_false h1
          refine SQ (PI 1 (2 ≤ 2 ∧ True) ⟨(by omega), trivial⟩ ?_)
          refine CD (s_is ((1 : Int)) ((1 : Int)) [] ((0 : Nat))) ?_
          refine RT 1 ?_
          refine KL [8, 17, 18] ⟨[U6, U6, .ptr 0 0, .ptr 1 0, .ptr 2 0] ++ UU 11 ++ [(B6 true)] ++ UU 62, [⟨[(I6 1), .sl [] 0 .any], 2, .fresh⟩, ⟨[(I6 m), tl ls], 2, .fresh⟩, ⟨[(I6 0), .sl [] 0 .nil], 2, .fresh⟩]⟩ ?_
          refine CN true (fun _ => ?_) (fun h => nomatch h)
          refine SQ (PI 1 (2 ≤ 2 ∧ True) ⟨(by omega), trivial⟩ ?_)
          refine CD (q1) ?_
          refine RI (True ∧ 2 ≤ 2 ∧ True) ⟨trivial, (by omega), trivial⟩ ?_
          refine AWP.ret ?_
          refine FI (.agg [.sc (.int .i64 (endE true (T.mk m ls))), .sl [] 0 .nil]) ?_
          refine Shrink.dataK [] (True) (.agg [.sc (.int .i64 (endE true (T.mk m ls))), .sl [] 0 .nil]) (by kernel_rfl) trivial ?_ rfl
          kernel_rfl
    · rcases bin_case (roughE_bin _ _ _ hr) with rfl | ⟨m1, l1, m2, l2, rfl⟩
      · rw [fill_e, tcs2]
        refine EvD.body Try.func117 rfl rfl rfl ?_
        refine AWP.seq ?_
        refine TO ⟨[.agg [(I6 n), .sl [(I6 n1), tl k1, (I6 n2), tl k2] 2 .any], .agg [(I6 m), .sl [] 0 .any]] ++ UU 77, []⟩ ?_
        refine AWP.reg (RT 3 ?_)
        refine AWP.seq (AWP.block (AWP.seq (AWP.seq (KL [0, 1] ⟨[U6, U6, .ptr 0 0, .ptr 1 0, .ptr 2 0] ++ UU 74, [⟨[(I6 n), .sl [(I6 n1), tl k1, (I6 n2), tl k2] 2 .any], 2, .fresh⟩, ⟨[(I6 m), .sl [] 0 .any], 2, .fresh⟩, ⟨[(I6 0), .sl [] 0 .nil], 2, .fresh⟩]⟩ ?_))))
        refine AWP.reg (PI 1 (2 ≤ 2 ∧ True) ⟨(by omega), trivial⟩ ?_)
        refine CD (s_is n ((0 : Int)) [(I6 n1), tl k1, (I6 n2), tl k2] ((2 : Nat))) ?_
        refine RT 1 ?_
        refine KL [9, 10] ⟨[U6, U6, .ptr 0 0, .ptr 1 0, .ptr 2 0, U6, U6, U6, (B6 false)] ++ UU 70, [⟨[(I6 n), .sl [(I6 n1), tl k1, (I6 n2), tl k2] 2 .any], 2, .fresh⟩, ⟨[(I6 m), .sl [] 0 .any], 2, .fresh⟩, ⟨[(I6 0), .sl [] 0 .nil], 2, .fresh⟩]⟩ ?_
        refine CN false (fun h => nomatch h) (fun _ => ?_)
        refine AWP.reg (RI (True ∧ 1 < 2 ∧ True ∧ True ∧ True ∧ True) ⟨trivial, (by omega), trivial, trivial, trivial, trivial⟩ ?_)
        refine KL [11, 12, 13, 14] ⟨[U6, U6, .ptr 0 0, .ptr 1 0, .ptr 2 0, U6, U6, U6, (B6 true)] ++ UU 70, [⟨[(I6 n), .sl [(I6 n1), tl k1, (I6 n2), tl k2] 2 .any], 2, .fresh⟩, ⟨[(I6 m), .sl [] 0 .any], 2, .fresh⟩, ⟨[(I6 0), .sl [] 0 .nil], 2, .fresh⟩]⟩ ?_
        refine CN true (fun _ => ?_) (fun h => nomatch h)
        refine SQ (RI (2 ≤ 2 ∧ 2 ≤ 2 ∧ True) ⟨(by omega), (by omega), trivial⟩ ?_)
        refine AWP.ret FA
      · obtain ⟨g1, g2, g3, g4, g5⟩ := roughE_kids hr
        have nb := not_both hn
        obtain ⟨x1, x2, _⟩ := norm_kids hn
        simp only [validI, Bool.and_eq_true, decide_eq_true_eq] at hv
        simp only [size, sizes] at hN hs
        have i1 := ih n1 m1 k1 l1 (d - 1) (l - m) (by rw [size]; omega) hv.1.2 x1 g4 (by omega) (by rw [size]; omega)
        have i2 := ih n2 m2 k2 l2 (d - 1) (l - m) (by rw [size]; omega) hv.2 x2 g5 (by omega) (by rw [size]; omega)
        have z1 := fill_size (.mk n1 k1) (.mk m1 l1)
        have z2 := fill_size (.mk n2 k2) (.mk m2 l2)
        have t1 := s_top _ m1 l1 _ _ (Nat.le_refl _) g4 (by omega)
        have t2 := s_top _ m2 l2 _ _ (Nat.le_refl _) g5 (by omega)
        simp only [size] at z1 z2
        have c0 := s_is n 0 [.sc (.int .i64 n1), .sl (tcs k1) k1.length .any, .sc (.int .i64 n2), .sl (tcs k2) k2.length .any] 2
        have c1 := s_is n 1 [.sc (.int .i64 n1), .sl (tcs k1) k1.length .any, .sc (.int .i64 n2), .sl (tcs k2) k2.length .any] 2
        clear ih
        have nr := fun (a b : Int) (c e : List T) (hs : size (.mk a c) + size (.mk b e) ≤ 900000) => s_normal m a b c e (by omega) hs
        have nr0 := fun (a b : Int) (e : List T) (hs : size (.mk a []) + size (.mk b e) ≤ 900000) => nr a b [] e hs
        have nr1 := fun (a b : Int) (c : List T) (hs : size (.mk a c) + size (.mk b []) ≤ 900000) => nr a b c [] hs
        have u1 := fun (b : Int) (e : List T) => s_up m1 b l1 e (d - 1) (l - m) g4 (by omega)
        have u2 := fun (b : Int) (e : List T) => s_up m2 b l2 e (d - 1) (l - m) g5 (by omega)
        rw [tcs2, tcs2]
        by_cases ha : isT (.mk n1 k1) 1
        · have hb1 := nb ha
          have q1 := dec_t (s_is n1 1 (tcs k1) k1.length) (by exact ha)
          have q2 := dec_f (s_is n2 1 (tcs k2) k2.length) (by exact hb1)
          rw [fill_a ha]
          refine EvD.body Try.func117 rfl rfl rfl ?_
          refine AWP.seq ?_
          refine TO ⟨[.agg [(I6 n), .sl [(I6 n1), tl k1, (I6 n2), tl k2] 2 .any], .agg [(I6 m), .sl [(I6 m1), tl l1, (I6 m2), tl l2] 2 .any]] ++ UU 77, []⟩ ?_
          refine AWP.reg (RT 3 ?_)
          refine AWP.seq (AWP.block (AWP.seq (AWP.seq (KL [0, 1] ⟨[U6, U6, .ptr 0 0, .ptr 1 0, .ptr 2 0] ++ UU 74, [⟨[(I6 n), .sl [(I6 n1), tl k1, (I6 n2), tl k2] 2 .any], 2, .fresh⟩, ⟨[(I6 m), .sl [(I6 m1), tl l1, (I6 m2), tl l2] 2 .any], 2, .fresh⟩, ⟨[(I6 0), .sl [] 0 .nil], 2, .fresh⟩]⟩ ?_))))
          refine AWP.reg (PI 1 (2 ≤ 2 ∧ True) ⟨(by omega), trivial⟩ ?_)
          refine CD (c0) ?_
          refine RT 1 ?_
          refine KL [9, 10] ⟨[U6, U6, .ptr 0 0, .ptr 1 0, .ptr 2 0, U6, U6, U6, (B6 false)] ++ UU 70, [⟨[(I6 n), .sl [(I6 n1), tl k1, (I6 n2), tl k2] 2 .any], 2, .fresh⟩, ⟨[(I6 m), .sl [(I6 m1), tl l1, (I6 m2), tl l2] 2 .any], 2, .fresh⟩, ⟨[(I6 0), .sl [] 0 .nil], 2, .fresh⟩]⟩ ?_
          refine CN false (fun h => nomatch h) (fun _ => ?_)
          refine AWP.reg (RI (True ∧ 1 < 2 ∧ True ∧ True ∧ True ∧ True) ⟨trivial, (by omega), trivial, trivial, trivial, trivial⟩ ?_)
          refine KL [11, 12, 13, 14] ⟨[U6, U6, .ptr 0 0, .ptr 1 0, .ptr 2 0, U6, U6, U6, (B6 false)] ++ UU 70, [⟨[(I6 n), .sl [(I6 n1), tl k1, (I6 n2), tl k2] 2 .any], 2, .fresh⟩, ⟨[(I6 m), .sl [(I6 m1), tl l1, (I6 m2), tl l2] 2 .any], 2, .fresh⟩, ⟨[(I6 0), .sl [] 0 .nil], 2, .fresh⟩]⟩ ?_
          refine CN false (fun h => nomatch h) (fun _ => ?_)
          refine SQ (PI 1 (2 ≤ 2 ∧ True) ⟨(by omega), trivial⟩ ?_)
          refine CD (c1) ?_
          refine RT 1 ?_
          refine KL [8, 17, 18] ⟨[U6, U6, .ptr 0 0, .ptr 1 0, .ptr 2 0] ++ UU 11 ++ [(B6 false)] ++ UU 62, [⟨[(I6 n), .sl [(I6 n1), tl k1, (I6 n2), tl k2] 2 .any], 2, .fresh⟩, ⟨[(I6 m), .sl [(I6 m1), tl l1, (I6 m2), tl l2] 2 .any], 2, .fresh⟩, ⟨[(I6 0), .sl [] 0 .nil], 2, .fresh⟩]⟩ ?_
          refine CN false (fun h => nomatch h) (fun _ => ?_)
          refine AWP.skip (AWP.seq ?_)
          refine AWP.drawB mixed (fun o => if [5, 6].contains (o.dst.getD 0) then 1 else if [].contains (o.dst.getD 0) then 2 else if [0, 0].contains (o.dst.getD 0) then 3 else 0) 2 3 (fun x => [⟨[(I6 n), .sl [(I6 n1), tl k1, (I6 n2), tl k2] 2 .any], 2, .fresh⟩, ⟨[(I6 m), .sl [(I6 m1), tl l1, (I6 m2), tl l2] 2 .any], 2, .fresh⟩, ⟨[(I6 0), .sl [] 0 .nil], 2, .fresh⟩]) ⟨[U6, U6, .ptr 0 0, .ptr 1 0, .ptr 2 0] ++ UU 11 ++ [(B6 false)] ++ UU 62, [⟨[(I6 n), .sl [(I6 n1), tl k1, (I6 n2), tl k2] 2 .any], 2, .fresh⟩, ⟨[(I6 m), .sl [(I6 m1), tl l1, (I6 m2), tl l2] 2 .any], 2, .fresh⟩, ⟨[(I6 0), .sl [] 0 .nil], 2, .fresh⟩, ⟨[], 0, .unborn⟩, ⟨[], 0, .unborn⟩]⟩ (by kernel_rfl) ⟨by kernel_rfl, by kernel_rfl⟩ (by kernel_rfl) ?_
          refine DerZ.preI 8 ((True) ∧ (((1 : Nat) < (2 : Nat)) ∧ (((((0 : Int) ≤ (0 : Int)) ∧ ((0 : Int) < (2 : Int))) ∧ ((2 : Nat) ≤ (4 : Nat))) ∧ (((2 : Nat) ≤ (2 : Nat)) ∧ ((True) ∧ (((1 : Nat) < (2 : Nat)) ∧ (((((0 : Int) ≤ (1 : Int)) ∧ ((1 : Int) < (2 : Int))) ∧ ((4 : Nat) ≤ (4 : Nat))) ∧ (((2 : Nat) ≤ (2 : Nat)) ∧ (True))))))))) (by intro x ext; kernel_rfl) ⟨trivial, ⟨(by omega), ⟨⟨⟨(by omega), (by omega)⟩, (by omega)⟩, ⟨(by omega), ⟨trivial, ⟨(by omega), ⟨⟨⟨(by omega), (by omega)⟩, (by omega)⟩, ⟨(by omega), trivial⟩⟩⟩⟩⟩⟩⟩⟩ ?_
          refine DerZ.birthI 3 ⟨by kernel_rfl, by kernel_rfl, by kernel_rfl, by kernel_rfl, (by intro x; kernel_rfl), by kernel_rfl⟩ ?_
          refine DerZ.birthI 4 ⟨by kernel_rfl, by kernel_rfl, by kernel_rfl, by kernel_rfl, (by intro x; kernel_rfl), by kernel_rfl⟩ ?_
          refine DerZ.effI 3 ((2 : Nat) ≤ (2 : Nat)) (by kernel_rfl) ⟨⟨by kernel_rfl, by kernel_rfl⟩, by kernel_rfl⟩ (by omega) ?_
          refine DerZ.effI 3 ((2 : Nat) ≤ (2 : Nat)) (by kernel_rfl) ⟨⟨by kernel_rfl, by kernel_rfl⟩, by kernel_rfl⟩ (by omega) ?_
          refine DerZ.nil ?_
          refine AWP.seq (KL ([16] ++ NN 22 8) ⟨[U6, U6, .ptr 0 0, .ptr 1 0, .ptr 2 0, .ptr 3 0, .ptr 4 0] ++ UU 72, [⟨[(I6 n), .sl [(I6 n1), tl k1, (I6 n2), tl k2] 2 .any], 2, .fresh⟩, ⟨[(I6 m), .sl [(I6 m1), tl l1, (I6 m2), tl l2] 2 .any], 2, .fresh⟩, ⟨[(I6 0), .sl [] 0 .nil], 2, .fresh⟩, ⟨[(I6 m1), tl l1], 2, .fresh⟩, ⟨[(I6 m2), tl l2], 2, .fresh⟩]⟩ ?_)
          refine AWP.reg (RT 1 ?_)
          refine AWP.seq (AWP.seq ?_)
          refine TO ⟨[U6, U6, .ptr 0 0, .ptr 1 0, .ptr 2 0, .ptr 3 0, .ptr 4 0, .fn 124 []] ++ UU 71, [⟨[(I6 n), .sl [(I6 n1), tl k1, (I6 n2), tl k2] 2 .any], 2, .fresh⟩, ⟨[(I6 m), .sl [(I6 m1), tl l1, (I6 m2), tl l2] 2 .any], 2, .fresh⟩, ⟨[(I6 0), .sl [] 0 .nil], 2, .fresh⟩, ⟨[(I6 m1), tl l1], 2, .fresh⟩, ⟨[(I6 m2), tl l2], 2, .fresh⟩]⟩ ?_
          refine AWP.reg (PI 4 (True ∧ 1 < 2 ∧ ((((0 : Int) ≤ (0 : Int)) ∧ ((0 : Int) < (2 : Int))) ∧ ((2 : Nat) ≤ (4 : Nat))) ∧ 2 ≤ 2 ∧ True) ⟨trivial, (by omega), ⟨⟨(by omega), (by omega)⟩, (by omega)⟩, (by omega), trivial⟩ ?_)
          refine CD (q1) ?_
          refine RT 1 ?_
          refine KL (NN 30 5) ⟨[U6, U6, .ptr 0 0, .ptr 1 0, .ptr 2 0, .ptr 3 0, .ptr 4 0, .fn 124 []] ++ UU 27 ++ [(B6 false)] ++ UU 43, [⟨[(I6 n), .sl [(I6 n1), tl k1, (I6 n2), tl k2] 2 .any], 2, .fresh⟩, ⟨[(I6 m), .sl [(I6 m1), tl l1, (I6 m2), tl l2] 2 .any], 2, .fresh⟩, ⟨[(I6 0), .sl [] 0 .nil], 2, .fresh⟩, ⟨[(I6 m1), tl l1], 2, .fresh⟩, ⟨[(I6 m2), tl l2], 2, .fresh⟩]⟩ ?_
          refine CN false (fun h => nomatch h) (fun _ => ?_)
          refine AWP.skip (AWP.seq (SQ (PI 4 (True ∧ 1 < 2 ∧ ((((0 : Int) ≤ (1 : Int)) ∧ ((1 : Int) < (2 : Int))) ∧ ((4 : Nat) ≤ (4 : Nat))) ∧ 2 ≤ 2 ∧ True) ⟨trivial, (by omega), ⟨⟨(by omega), (by omega)⟩, (by omega)⟩, (by omega), trivial⟩ ?_)))
          refine CD (q2) ?_
          refine RT 1 ?_
          refine KL ([35] ++ NN 42 5) ⟨[U6, U6, .ptr 0 0, .ptr 1 0, .ptr 2 0, .ptr 3 0, .ptr 4 0, .fn 124 []] ++ UU 39 ++ [(B6 true)] ++ UU 31, [⟨[(I6 n), .sl [(I6 n1), tl k1, (I6 n2), tl k2] 2 .any], 2, .fresh⟩, ⟨[(I6 m), .sl [(I6 m1), tl l1, (I6 m2), tl l2] 2 .any], 2, .fresh⟩, ⟨[(I6 0), .sl [] 0 .nil], 2, .fresh⟩, ⟨[(I6 m1), tl l1], 2, .fresh⟩, ⟨[(I6 m2), tl l2], 2, .fresh⟩]⟩ ?_
          refine CN true (fun _ => ?_) (fun h => nomatch h)
          refine AWP.drawB mixed (fun o => if [].contains (o.dst.getD 0) then 1 else if [].contains (o.dst.getD 0) then 2 else if [0, 52, 53].contains (o.dst.getD 0) then 3 else 0) 0 5 (fun x => [⟨[(I6 n), .sl [(I6 n1), tl k1, (I6 n2), tl k2] 2 .any], 2, .fresh⟩, ⟨[(I6 m), .sl [(I6 m1), tl l1, (I6 m2), tl l2] 2 .any], 2, .fresh⟩, ⟨[(I6 0), .sl [] 0 .nil], 2, .fresh⟩, ⟨[(I6 m1), tl l1], 2, .fresh⟩, ⟨x 4, 2, .fresh⟩]) ⟨[U6, U6, .ptr 0 0, .ptr 1 0, .ptr 2 0, .ptr 3 0, .ptr 4 0, .fn 124 []] ++ UU 39 ++ [(B6 true)] ++ UU 31, [⟨[(I6 n), .sl [(I6 n1), tl k1, (I6 n2), tl k2] 2 .any], 2, .fresh⟩, ⟨[(I6 m), .sl [(I6 m1), tl l1, (I6 m2), tl l2] 2 .any], 2, .fresh⟩, ⟨[(I6 0), .sl [] 0 .nil], 2, .fresh⟩, ⟨[(I6 m1), tl l1], 2, .fresh⟩, ⟨[(I6 m2), tl l2], 2, .fresh⟩]⟩ (by kernel_rfl) ⟨by kernel_rfl, by kernel_rfl⟩ (by kernel_rfl) ?_
          refine DerZ.preI 4 ((True) ∧ (((1 : Nat) < (2 : Nat)) ∧ (((((0 : Int) ≤ (1 : Int)) ∧ ((1 : Int) < (2 : Int))) ∧ ((4 : Nat) ≤ (4 : Nat))) ∧ (((2 : Nat) ≤ (2 : Nat)) ∧ (True))))) (by intro x ext; kernel_rfl) ⟨trivial, ⟨(by omega), ⟨⟨⟨(by omega), (by omega)⟩, (by omega)⟩, ⟨(by omega), trivial⟩⟩⟩⟩ ?_
          refine DerZ.effI 5 ((2 : Nat) ≤ (2 : Nat)) (by kernel_rfl) ⟨⟨by kernel_rfl, by kernel_rfl⟩, by kernel_rfl⟩ (by omega) ?_
          refine DerZ.callDI (i2) ⟨by kernel_rfl, by kernel_rfl⟩ ?_
          refine DerZ.effI 5 ((2 : Nat) ≤ (2 : Nat)) (by kernel_rfl) ⟨⟨by kernel_rfl, by kernel_rfl⟩, by kernel_rfl⟩ (by omega) ?_
          refine DerZ.nil ?_
          refine AWP.seq (AWP.block (AWP.seq (KL (NN 47 7) ⟨[U6, U6, .ptr 0 0, .ptr 1 0, .ptr 2 0, .ptr 3 0, .ptr 4 0, .fn 124 []] ++ UU 71, [⟨[(I6 n), .sl [(I6 n1), tl k1, (I6 n2), tl k2] 2 .any], 2, .fresh⟩, ⟨[(I6 m), .sl [(I6 m1), tl l1, (I6 m2), tl l2] 2 .any], 2, .fresh⟩, ⟨[(I6 0), .sl [] 0 .nil], 2, .fresh⟩, ⟨[(I6 m1), tl l1], 2, .fresh⟩, ⟨[(I6 (T.n (fillE (T.mk n2 k2) (T.mk m2 l2)))), tl (T.ks (fillE (T.mk n2 k2) (T.mk m2 l2)))], 2, .fresh⟩]⟩ ?_)))
          refine AWP.reg (PI 4 (True ∧ 1 < 2 ∧ ((((0 : Int) ≤ (0 : Int)) ∧ ((0 : Int) < (2 : Int))) ∧ ((2 : Nat) ≤ (4 : Nat))) ∧ 2 ≤ 2 ∧ True) ⟨trivial, (by omega), ⟨⟨(by omega), (by omega)⟩, (by omega)⟩, (by omega), trivial⟩ ?_)
          refine CD (q1) ?_
          refine RT 1 ?_
          refine KL (NN 55 5) ⟨[U6, U6, .ptr 0 0, .ptr 1 0, .ptr 2 0, .ptr 3 0, .ptr 4 0, .fn 124 []] ++ UU 46 ++ [(B6 true)] ++ UU 24, [⟨[(I6 n), .sl [(I6 n1), tl k1, (I6 n2), tl k2] 2 .any], 2, .fresh⟩, ⟨[(I6 m), .sl [(I6 m1), tl l1, (I6 m2), tl l2] 2 .any], 2, .fresh⟩, ⟨[(I6 0), .sl [] 0 .nil], 2, .fresh⟩, ⟨[(I6 m1), tl l1], 2, .fresh⟩, ⟨[(I6 (T.n (fillE (T.mk n2 k2) (T.mk m2 l2)))), tl (T.ks (fillE (T.mk n2 k2) (T.mk m2 l2)))], 2, .fresh⟩]⟩ ?_
          refine CN true (fun _ => ?_) (fun h => nomatch h)
          refine AWP.reg (PI 3 (True ∧ 2 ≤ 2 ∧ 2 ≤ 2 ∧ True) ⟨trivial, (by omega), (by omega), trivial⟩ ?_)
          refine CD (u1 (T.n (fillE (T.mk n2 k2) (T.mk m2 l2))) (T.ks (fillE (T.mk n2 k2) (T.mk m2 l2)))) ?_
          refine RI (2 ≤ 2 ∧ True) ⟨(by omega), trivial⟩ ?_
          refine AWP.seq (KL [2, 7, 54, 60, 61, 62, 63] ⟨[U6, U6, U6, .ptr 1 0, .ptr 2 0, .ptr 3 0, .ptr 4 0] ++ UU 72, [⟨[(I6 n), .sl [(I6 n1), tl k1, (I6 n2), tl k2] 2 .any], 2, .fresh⟩, ⟨[(I6 m), .sl [(I6 m1), tl l1, (I6 m2), tl l2] 2 .any], 2, .fresh⟩, ⟨[(I6 0), .sl [] 0 .nil], 2, .fresh⟩, ⟨[(I6 (max (endE true (T.mk m1 l1)) (T.n (fillE (T.mk n2 k2) (T.mk m2 l2))))), .sl [] 0 .any], 2, .fresh⟩, ⟨[(I6 (T.n (fillE (T.mk n2 k2) (T.mk m2 l2)))), tl (T.ks (fillE (T.mk n2 k2) (T.mk m2 l2)))], 2, .fresh⟩]⟩ ?_)
          refine AWP.reg (PI 4 (True ∧ 0 < 2 ∧ 2 ≤ 2 ∧ 2 ≤ 2 ∧ True) ⟨trivial, (by omega), (by omega), (by omega), trivial⟩ ?_)
          refine DerQ.callD (nr0 (max (endE true (T.mk m1 l1)) (T.n (fillE (T.mk n2 k2) (T.mk m2 l2)))) (T.n (fillE (T.mk n2 k2) (T.mk m2 l2))) (T.ks (fillE (T.mk n2 k2) (T.mk m2 l2))) (by (rw [T.mk_eta]; simp only [size, sizes]; omega))) ⟨[U6, U6, U6, .ptr 1 0, .ptr 2 0, .ptr 3 0, .ptr 4 0] ++ UU 67 ++ [.ptr 1 0, (I6 m), .agg [(I6 (max (endE true (T.mk m1 l1)) (T.n (fillE (T.mk n2 k2) (T.mk m2 l2))))), .sl [] 0 .any], .agg [(I6 (T.n (fillE (T.mk n2 k2) (T.mk m2 l2)))), tl (T.ks (fillE (T.mk n2 k2) (T.mk m2 l2)))], .agg [(I6 (T.n (normalE m (T.mk (max (endE true (T.mk m1 l1)) (T.n (fillE (T.mk n2 k2) (T.mk m2 l2)))) []) (T.mk (T.n (fillE (T.mk n2 k2) (T.mk m2 l2))) (T.ks (fillE (T.mk n2 k2) (T.mk m2 l2))))))), .sl (tcs (T.ks (normalE m (T.mk (max (endE true (T.mk m1 l1)) (T.n (fillE (T.mk n2 k2) (T.mk m2 l2)))) []) (T.mk (T.n (fillE (T.mk n2 k2) (T.mk m2 l2))) (T.ks (fillE (T.mk n2 k2) (T.mk m2 l2))))))) (List.length (T.ks (normalE m (T.mk (max (endE true (T.mk m1 l1)) (T.n (fillE (T.mk n2 k2) (T.mk m2 l2)))) []) (T.mk (T.n (fillE (T.mk n2 k2) (T.mk m2 l2))) (T.ks (fillE (T.mk n2 k2) (T.mk m2 l2))))))) .any]], [⟨[(I6 n), .sl [(I6 n1), tl k1, (I6 n2), tl k2] 2 .any], 2, .fresh⟩, ⟨[(I6 m), .sl [(I6 m1), tl l1, (I6 m2), tl l2] 2 .any], 2, .fresh⟩, ⟨[(I6 0), .sl [] 0 .nil], 2, .fresh⟩, ⟨[(I6 (max (endE true (T.mk m1 l1)) (T.n (fillE (T.mk n2 k2) (T.mk m2 l2))))), .sl [] 0 .any], 2, .fresh⟩, ⟨[(I6 (T.n (fillE (T.mk n2 k2) (T.mk m2 l2)))), tl (T.ks (fillE (T.mk n2 k2) (T.mk m2 l2)))], 2, .fresh⟩]⟩ ⟨by kernel_rfl, by kernel_rfl, by kernel_rfl⟩ ?_
          rw [Go.Tr.T.mk_eta (fillE (T.mk n2 k2) (T.mk m2 l2))]
          refine RI (2 ≤ 2 ∧ True) ⟨(by omega), trivial⟩ ?_
          refine AWP.ret FA
        · have q1 := dec_f (s_is n1 1 (tcs k1) k1.length) (by exact ha)
          by_cases hb1 : isT (.mk n2 k2) 1
          · have q2 := dec_t (s_is n2 1 (tcs k2) k2.length) (by exact hb1)
            rw [fill_b ha hb1]
            refine EvD.body Try.func117 rfl rfl rfl ?_
            refine AWP.seq ?_
            refine TO ⟨[.agg [(I6 n), .sl [(I6 n1), tl k1, (I6 n2), tl k2] 2 .any], .agg [(I6 m), .sl [(I6 m1), tl l1, (I6 m2), tl l2] 2 .any]] ++ UU 77, []⟩ ?_
            refine AWP.reg (RT 3 ?_)
            refine AWP.seq (AWP.block (AWP.seq (AWP.seq (KL [0, 1] ⟨[U6, U6, .ptr 0 0, .ptr 1 0, .ptr 2 0] ++ UU 74, [⟨[(I6 n), .sl [(I6 n1), tl k1, (I6 n2), tl k2] 2 .any], 2, .fresh⟩, ⟨[(I6 m), .sl [(I6 m1), tl l1, (I6 m2), tl l2] 2 .any], 2, .fresh⟩, ⟨[(I6 0), .sl [] 0 .nil], 2, .fresh⟩]⟩ ?_))))
            refine AWP.reg (PI 1 (2 ≤ 2 ∧ True) ⟨(by omega), trivial⟩ ?_)
            refine CD (c0) ?_
            refine RT 1 ?_
            refine KL [9, 10] ⟨[U6, U6, .ptr 0 0, .ptr 1 0, .ptr 2 0, U6, U6, U6, (B6 false)] ++ UU 70, [⟨[(I6 n), .sl [(I6 n1), tl k1, (I6 n2), tl k2] 2 .any], 2, .fresh⟩, ⟨[(I6 m), .sl [(I6 m1), tl l1, (I6 m2), tl l2] 2 .any], 2, .fresh⟩, ⟨[(I6 0), .sl [] 0 .nil], 2, .fresh⟩]⟩ ?_
            refine CN false (fun h => nomatch h) (fun _ => ?_)
            refine AWP.reg (RI (True ∧ 1 < 2 ∧ True ∧ True ∧ True ∧ True) ⟨trivial, (by omega), trivial, trivial, trivial, trivial⟩ ?_)
            refine KL [11, 12, 13, 14] ⟨[U6, U6, .ptr 0 0, .ptr 1 0, .ptr 2 0, U6, U6, U6, (B6 false)] ++ UU 70, [⟨[(I6 n), .sl [(I6 n1), tl k1, (I6 n2), tl k2] 2 .any], 2, .fresh⟩, ⟨[(I6 m), .sl [(I6 m1), tl l1, (I6 m2), tl l2] 2 .any], 2, .fresh⟩, ⟨[(I6 0), .sl [] 0 .nil], 2, .fresh⟩]⟩ ?_
            refine CN false (fun h => nomatch h) (fun _ => ?_)
            refine SQ (PI 1 (2 ≤ 2 ∧ True) ⟨(by omega), trivial⟩ ?_)
            refine CD (c1) ?_
            refine RT 1 ?_
            refine KL [8, 17, 18] ⟨[U6, U6, .ptr 0 0, .ptr 1 0, .ptr 2 0] ++ UU 11 ++ [(B6 false)] ++ UU 62, [⟨[(I6 n), .sl [(I6 n1), tl k1, (I6 n2), tl k2] 2 .any], 2, .fresh⟩, ⟨[(I6 m), .sl [(I6 m1), tl l1, (I6 m2), tl l2] 2 .any], 2, .fresh⟩, ⟨[(I6 0), .sl [] 0 .nil], 2, .fresh⟩]⟩ ?_
            refine CN false (fun h => nomatch h) (fun _ => ?_)
            refine AWP.skip (AWP.seq ?_)
            refine AWP.drawB mixed (fun o => if [5, 6].contains (o.dst.getD 0) then 1 else if [].contains (o.dst.getD 0) then 2 else if [0, 0].contains (o.dst.getD 0) then 3 else 0) 2 3 (fun x => [⟨[(I6 n), .sl [(I6 n1), tl k1, (I6 n2), tl k2] 2 .any], 2, .fresh⟩, ⟨[(I6 m), .sl [(I6 m1), tl l1, (I6 m2), tl l2] 2 .any], 2, .fresh⟩, ⟨[(I6 0), .sl [] 0 .nil], 2, .fresh⟩]) ⟨[U6, U6, .ptr 0 0, .ptr 1 0, .ptr 2 0] ++ UU 11 ++ [(B6 false)] ++ UU 62, [⟨[(I6 n), .sl [(I6 n1), tl k1, (I6 n2), tl k2] 2 .any], 2, .fresh⟩, ⟨[(I6 m), .sl [(I6 m1), tl l1, (I6 m2), tl l2] 2 .any], 2, .fresh⟩, ⟨[(I6 0), .sl [] 0 .nil], 2, .fresh⟩, ⟨[], 0, .unborn⟩, ⟨[], 0, .unborn⟩]⟩ (by kernel_rfl) ⟨by kernel_rfl, by kernel_rfl⟩ (by kernel_rfl) ?_
            refine DerZ.preI 8 ((True) ∧ (((1 : Nat) < (2 : Nat)) ∧ (((((0 : Int) ≤ (0 : Int)) ∧ ((0 : Int) < (2 : Int))) ∧ ((2 : Nat) ≤ (4 : Nat))) ∧ (((2 : Nat) ≤ (2 : Nat)) ∧ ((True) ∧ (((1 : Nat) < (2 : Nat)) ∧ (((((0 : Int) ≤ (1 : Int)) ∧ ((1 : Int) < (2 : Int))) ∧ ((4 : Nat) ≤ (4 : Nat))) ∧ (((2 : Nat) ≤ (2 : Nat)) ∧ (True))))))))) (by intro x ext; kernel_rfl) ⟨trivial, ⟨(by omega), ⟨⟨⟨(by omega), (by omega)⟩, (by omega)⟩, ⟨(by omega), ⟨trivial, ⟨(by omega), ⟨⟨⟨(by omega), (by omega)⟩, (by omega)⟩, ⟨(by omega), trivial⟩⟩⟩⟩⟩⟩⟩⟩ ?_
            refine DerZ.birthI 3 ⟨by kernel_rfl, by kernel_rfl, by kernel_rfl, by kernel_rfl, (by intro x; kernel_rfl), by kernel_rfl⟩ ?_
            refine DerZ.birthI 4 ⟨by kernel_rfl, by kernel_rfl, by kernel_rfl, by kernel_rfl, (by intro x; kernel_rfl), by kernel_rfl⟩ ?_
            refine DerZ.effI 3 ((2 : Nat) ≤ (2 : Nat)) (by kernel_rfl) ⟨⟨by kernel_rfl, by kernel_rfl⟩, by kernel_rfl⟩ (by omega) ?_
            refine DerZ.effI 3 ((2 : Nat) ≤ (2 : Nat)) (by kernel_rfl) ⟨⟨by kernel_rfl, by kernel_rfl⟩, by kernel_rfl⟩ (by omega) ?_
            refine DerZ.nil ?_
            refine AWP.seq (KL ([16] ++ NN 22 8) ⟨[U6, U6, .ptr 0 0, .ptr 1 0, .ptr 2 0, .ptr 3 0, .ptr 4 0] ++ UU 72, [⟨[(I6 n), .sl [(I6 n1), tl k1, (I6 n2), tl k2] 2 .any], 2, .fresh⟩, ⟨[(I6 m), .sl [(I6 m1), tl l1, (I6 m2), tl l2] 2 .any], 2, .fresh⟩, ⟨[(I6 0), .sl [] 0 .nil], 2, .fresh⟩, ⟨[(I6 m1), tl l1], 2, .fresh⟩, ⟨[(I6 m2), tl l2], 2, .fresh⟩]⟩ ?_)
            refine AWP.reg (RT 1 ?_)
            refine AWP.seq (AWP.seq ?_)
            refine TO ⟨[U6, U6, .ptr 0 0, .ptr 1 0, .ptr 2 0, .ptr 3 0, .ptr 4 0, .fn 124 []] ++ UU 71, [⟨[(I6 n), .sl [(I6 n1), tl k1, (I6 n2), tl k2] 2 .any], 2, .fresh⟩, ⟨[(I6 m), .sl [(I6 m1), tl l1, (I6 m2), tl l2] 2 .any], 2, .fresh⟩, ⟨[(I6 0), .sl [] 0 .nil], 2, .fresh⟩, ⟨[(I6 m1), tl l1], 2, .fresh⟩, ⟨[(I6 m2), tl l2], 2, .fresh⟩]⟩ ?_
            refine AWP.reg (PI 4 (True ∧ 1 < 2 ∧ ((((0 : Int) ≤ (0 : Int)) ∧ ((0 : Int) < (2 : Int))) ∧ ((2 : Nat) ≤ (4 : Nat))) ∧ 2 ≤ 2 ∧ True) ⟨trivial, (by omega), ⟨⟨(by omega), (by omega)⟩, (by omega)⟩, (by omega), trivial⟩ ?_)
            refine CD (q1) ?_
            refine RT 1 ?_
            refine KL (NN 30 5) ⟨[U6, U6, .ptr 0 0, .ptr 1 0, .ptr 2 0, .ptr 3 0, .ptr 4 0, .fn 124 []] ++ UU 27 ++ [(B6 true)] ++ UU 43, [⟨[(I6 n), .sl [(I6 n1), tl k1, (I6 n2), tl k2] 2 .any], 2, .fresh⟩, ⟨[(I6 m), .sl [(I6 m1), tl l1, (I6 m2), tl l2] 2 .any], 2, .fresh⟩, ⟨[(I6 0), .sl [] 0 .nil], 2, .fresh⟩, ⟨[(I6 m1), tl l1], 2, .fresh⟩, ⟨[(I6 m2), tl l2], 2, .fresh⟩]⟩ ?_
            refine CN true (fun _ => ?_) (fun h => nomatch h)
            refine AWP.drawB mixed (fun o => if [].contains (o.dst.getD 0) then 1 else if [].contains (o.dst.getD 0) then 2 else if [0, 40, 41].contains (o.dst.getD 0) then 3 else 0) 0 5 (fun x => [⟨[(I6 n), .sl [(I6 n1), tl k1, (I6 n2), tl k2] 2 .any], 2, .fresh⟩, ⟨[(I6 m), .sl [(I6 m1), tl l1, (I6 m2), tl l2] 2 .any], 2, .fresh⟩, ⟨[(I6 0), .sl [] 0 .nil], 2, .fresh⟩, ⟨x 3, 2, .fresh⟩, ⟨[(I6 m2), tl l2], 2, .fresh⟩]) ⟨[U6, U6, .ptr 0 0, .ptr 1 0, .ptr 2 0, .ptr 3 0, .ptr 4 0, .fn 124 []] ++ UU 27 ++ [(B6 true)] ++ UU 43, [⟨[(I6 n), .sl [(I6 n1), tl k1, (I6 n2), tl k2] 2 .any], 2, .fresh⟩, ⟨[(I6 m), .sl [(I6 m1), tl l1, (I6 m2), tl l2] 2 .any], 2, .fresh⟩, ⟨[(I6 0), .sl [] 0 .nil], 2, .fresh⟩, ⟨[(I6 m1), tl l1], 2, .fresh⟩, ⟨[(I6 m2), tl l2], 2, .fresh⟩]⟩ (by kernel_rfl) ⟨by kernel_rfl, by kernel_rfl⟩ (by kernel_rfl) ?_
            refine DerZ.preI 4 ((True) ∧ (((1 : Nat) < (2 : Nat)) ∧ (((((0 : Int) ≤ (0 : Int)) ∧ ((0 : Int) < (2 : Int))) ∧ ((2 : Nat) ≤ (4 : Nat))) ∧ (((2 : Nat) ≤ (2 : Nat)) ∧ (True))))) (by intro x ext; kernel_rfl) ⟨trivial, ⟨(by omega), ⟨⟨⟨(by omega), (by omega)⟩, (by omega)⟩, ⟨(by omega), trivial⟩⟩⟩⟩ ?_
            refine DerZ.effI 5 ((2 : Nat) ≤ (2 : Nat)) (by kernel_rfl) ⟨⟨by kernel_rfl, by kernel_rfl⟩, by kernel_rfl⟩ (by omega) ?_
            refine DerZ.callDI (i1) ⟨by kernel_rfl, by kernel_rfl⟩ ?_
            refine DerZ.effI 5 ((2 : Nat) ≤ (2 : Nat)) (by kernel_rfl) ⟨⟨by kernel_rfl, by kernel_rfl⟩, by kernel_rfl⟩ (by omega) ?_
            refine DerZ.nil ?_
            refine AWP.seq (AWP.seq (KL (NN 35 7) ⟨[U6, U6, .ptr 0 0, .ptr 1 0, .ptr 2 0, .ptr 3 0, .ptr 4 0, .fn 124 []] ++ UU 71, [⟨[(I6 n), .sl [(I6 n1), tl k1, (I6 n2), tl k2] 2 .any], 2, .fresh⟩, ⟨[(I6 m), .sl [(I6 m1), tl l1, (I6 m2), tl l2] 2 .any], 2, .fresh⟩, ⟨[(I6 0), .sl [] 0 .nil], 2, .fresh⟩, ⟨[(I6 (T.n (fillE (T.mk n1 k1) (T.mk m1 l1)))), tl (T.ks (fillE (T.mk n1 k1) (T.mk m1 l1)))], 2, .fresh⟩, ⟨[(I6 m2), tl l2], 2, .fresh⟩]⟩ ?_))
            refine AWP.reg (PI 4 (True ∧ 1 < 2 ∧ ((((0 : Int) ≤ (1 : Int)) ∧ ((1 : Int) < (2 : Int))) ∧ ((4 : Nat) ≤ (4 : Nat))) ∧ 2 ≤ 2 ∧ True) ⟨trivial, (by omega), ⟨⟨(by omega), (by omega)⟩, (by omega)⟩, (by omega), trivial⟩ ?_)
            refine CD (q2) ?_
            refine RT 1 ?_
            refine KL (NN 42 5) ⟨[U6, U6, .ptr 0 0, .ptr 1 0, .ptr 2 0, .ptr 3 0, .ptr 4 0, .fn 124 []] ++ UU 39 ++ [(B6 false)] ++ UU 31, [⟨[(I6 n), .sl [(I6 n1), tl k1, (I6 n2), tl k2] 2 .any], 2, .fresh⟩, ⟨[(I6 m), .sl [(I6 m1), tl l1, (I6 m2), tl l2] 2 .any], 2, .fresh⟩, ⟨[(I6 0), .sl [] 0 .nil], 2, .fresh⟩, ⟨[(I6 (T.n (fillE (T.mk n1 k1) (T.mk m1 l1)))), tl (T.ks (fillE (T.mk n1 k1) (T.mk m1 l1)))], 2, .fresh⟩, ⟨[(I6 m2), tl l2], 2, .fresh⟩]⟩ ?_
            refine CN false (fun h => nomatch h) (fun _ => ?_)
            refine AWP.skip (AWP.seq (AWP.block (SQ (PI 4 (True ∧ 1 < 2 ∧ ((((0 : Int) ≤ (0 : Int)) ∧ ((0 : Int) < (2 : Int))) ∧ ((2 : Nat) ≤ (4 : Nat))) ∧ 2 ≤ 2 ∧ True) ⟨trivial, (by omega), ⟨⟨(by omega), (by omega)⟩, (by omega)⟩, (by omega), trivial⟩ ?_))))
            refine CD (q1) ?_
            refine RT 1 ?_
            refine KL ([47] ++ NN 55 5) ⟨[U6, U6, .ptr 0 0, .ptr 1 0, .ptr 2 0, .ptr 3 0, .ptr 4 0, .fn 124 []] ++ UU 46 ++ [(B6 false)] ++ UU 24, [⟨[(I6 n), .sl [(I6 n1), tl k1, (I6 n2), tl k2] 2 .any], 2, .fresh⟩, ⟨[(I6 m), .sl [(I6 m1), tl l1, (I6 m2), tl l2] 2 .any], 2, .fresh⟩, ⟨[(I6 0), .sl [] 0 .nil], 2, .fresh⟩, ⟨[(I6 (T.n (fillE (T.mk n1 k1) (T.mk m1 l1)))), tl (T.ks (fillE (T.mk n1 k1) (T.mk m1 l1)))], 2, .fresh⟩, ⟨[(I6 m2), tl l2], 2, .fresh⟩]⟩ ?_
            refine CN false (fun h => nomatch h) (fun _ => ?_)
            refine SQ (PI 4 (True ∧ 1 < 2 ∧ ((((0 : Int) ≤ (1 : Int)) ∧ ((1 : Int) < (2 : Int))) ∧ ((4 : Nat) ≤ (4 : Nat))) ∧ 2 ≤ 2 ∧ True) ⟨trivial, (by omega), ⟨⟨(by omega), (by omega)⟩, (by omega)⟩, (by omega), trivial⟩ ?_)
            refine CD (q2) ?_
            refine RT 1 ?_
            refine KL ([2, 54] ++ NN 65 5) ⟨[U6, U6, U6, .ptr 1 0, .ptr 2 0, .ptr 3 0, .ptr 4 0, .fn 124 []] ++ UU 56 ++ [(B6 true)] ++ UU 14, [⟨[(I6 n), .sl [(I6 n1), tl k1, (I6 n2), tl k2] 2 .any], 2, .fresh⟩, ⟨[(I6 m), .sl [(I6 m1), tl l1, (I6 m2), tl l2] 2 .any], 2, .fresh⟩, ⟨[(I6 0), .sl [] 0 .nil], 2, .fresh⟩, ⟨[(I6 (T.n (fillE (T.mk n1 k1) (T.mk m1 l1)))), tl (T.ks (fillE (T.mk n1 k1) (T.mk m1 l1)))], 2, .fresh⟩, ⟨[(I6 m2), tl l2], 2, .fresh⟩]⟩ ?_
            refine CN true (fun _ => ?_) (fun h => nomatch h)
            refine AWP.reg (PI 3 (True ∧ 2 ≤ 2 ∧ 2 ≤ 2 ∧ True) ⟨trivial, (by omega), (by omega), trivial⟩ ?_)
            refine CD (u2 (T.n (fillE (T.mk n1 k1) (T.mk m1 l1))) (T.ks (fillE (T.mk n1 k1) (T.mk m1 l1)))) ?_
            refine RI (2 ≤ 2 ∧ True) ⟨(by omega), trivial⟩ ?_
            refine AWP.seq (KL [7, 64, 70, 71, 72, 73] ⟨[U6, U6, U6, .ptr 1 0, .ptr 2 0, .ptr 3 0, .ptr 4 0] ++ UU 72, [⟨[(I6 n), .sl [(I6 n1), tl k1, (I6 n2), tl k2] 2 .any], 2, .fresh⟩, ⟨[(I6 m), .sl [(I6 m1), tl l1, (I6 m2), tl l2] 2 .any], 2, .fresh⟩, ⟨[(I6 0), .sl [] 0 .nil], 2, .fresh⟩, ⟨[(I6 (T.n (fillE (T.mk n1 k1) (T.mk m1 l1)))), tl (T.ks (fillE (T.mk n1 k1) (T.mk m1 l1)))], 2, .fresh⟩, ⟨[(I6 (max (endE true (T.mk m2 l2)) (T.n (fillE (T.mk n1 k1) (T.mk m1 l1))))), .sl [] 0 .any], 2, .fresh⟩]⟩ ?_)
            refine AWP.reg (PI 4 (True ∧ 0 < 2 ∧ 2 ≤ 2 ∧ 2 ≤ 2 ∧ True) ⟨trivial, (by omega), (by omega), (by omega), trivial⟩ ?_)
            refine DerQ.callD (nr1 (T.n (fillE (T.mk n1 k1) (T.mk m1 l1))) (max (endE true (T.mk m2 l2)) (T.n (fillE (T.mk n1 k1) (T.mk m1 l1)))) (T.ks (fillE (T.mk n1 k1) (T.mk m1 l1))) (by (rw [T.mk_eta]; simp only [size, sizes]; omega))) ⟨[U6, U6, U6, .ptr 1 0, .ptr 2 0, .ptr 3 0, .ptr 4 0] ++ UU 67 ++ [.ptr 1 0, (I6 m), .agg [(I6 (T.n (fillE (T.mk n1 k1) (T.mk m1 l1)))), tl (T.ks (fillE (T.mk n1 k1) (T.mk m1 l1)))], .agg [(I6 (max (endE true (T.mk m2 l2)) (T.n (fillE (T.mk n1 k1) (T.mk m1 l1))))), .sl [] 0 .any], .agg [(I6 (T.n (normalE m (T.mk (T.n (fillE (T.mk n1 k1) (T.mk m1 l1))) (T.ks (fillE (T.mk n1 k1) (T.mk m1 l1)))) (T.mk (max (endE true (T.mk m2 l2)) (T.n (fillE (T.mk n1 k1) (T.mk m1 l1)))) [])))), .sl (tcs (T.ks (normalE m (T.mk (T.n (fillE (T.mk n1 k1) (T.mk m1 l1))) (T.ks (fillE (T.mk n1 k1) (T.mk m1 l1)))) (T.mk (max (endE true (T.mk m2 l2)) (T.n (fillE (T.mk n1 k1) (T.mk m1 l1)))) [])))) (List.length (T.ks (normalE m (T.mk (T.n (fillE (T.mk n1 k1) (T.mk m1 l1))) (T.ks (fillE (T.mk n1 k1) (T.mk m1 l1)))) (T.mk (max (endE true (T.mk m2 l2)) (T.n (fillE (T.mk n1 k1) (T.mk m1 l1)))) [])))) .any]], [⟨[(I6 n), .sl [(I6 n1), tl k1, (I6 n2), tl k2] 2 .any], 2, .fresh⟩, ⟨[(I6 m), .sl [(I6 m1), tl l1, (I6 m2), tl l2] 2 .any], 2, .fresh⟩, ⟨[(I6 0), .sl [] 0 .nil], 2, .fresh⟩, ⟨[(I6 (T.n (fillE (T.mk n1 k1) (T.mk m1 l1)))), tl (T.ks (fillE (T.mk n1 k1) (T.mk m1 l1)))], 2, .fresh⟩, ⟨[(I6 (max (endE true (T.mk m2 l2)) (T.n (fillE (T.mk n1 k1) (T.mk m1 l1))))), .sl [] 0 .any], 2, .fresh⟩]⟩ ⟨by kernel_rfl, by kernel_rfl, by kernel_rfl⟩ ?_
            rw [Go.Tr.T.mk_eta (fillE (T.mk n1 k1) (T.mk m1 l1))]
            refine RI (2 ≤ 2 ∧ True) ⟨(by omega), trivial⟩ ?_
            refine AWP.ret FA
          · have q2 := dec_f (s_is n2 1 (tcs k2) k2.length) (by exact hb1)
            rw [fill_c ha hb1]
            refine EvD.body Try.func117 rfl rfl rfl ?_
            refine AWP.seq ?_
            refine TO ⟨[.agg [(I6 n), .sl [(I6 n1), tl k1, (I6 n2), tl k2] 2 .any], .agg [(I6 m), .sl [(I6 m1), tl l1, (I6 m2), tl l2] 2 .any]] ++ UU 77, []⟩ ?_
            refine AWP.reg (RT 3 ?_)
            refine AWP.seq (AWP.block (AWP.seq (AWP.seq (KL [0, 1] ⟨[U6, U6, .ptr 0 0, .ptr 1 0, .ptr 2 0] ++ UU 74, [⟨[(I6 n), .sl [(I6 n1), tl k1, (I6 n2), tl k2] 2 .any], 2, .fresh⟩, ⟨[(I6 m), .sl [(I6 m1), tl l1, (I6 m2), tl l2] 2 .any], 2, .fresh⟩, ⟨[(I6 0), .sl [] 0 .nil], 2, .fresh⟩]⟩ ?_))))
            refine AWP.reg (PI 1 (2 ≤ 2 ∧ True) ⟨(by omega), trivial⟩ ?_)
            refine CD (c0) ?_
            refine RT 1 ?_
            refine KL [9, 10] ⟨[U6, U6, .ptr 0 0, .ptr 1 0, .ptr 2 0, U6, U6, U6, (B6 false)] ++ UU 70, [⟨[(I6 n), .sl [(I6 n1), tl k1, (I6 n2), tl k2] 2 .any], 2, .fresh⟩, ⟨[(I6 m), .sl [(I6 m1), tl l1, (I6 m2), tl l2] 2 .any], 2, .fresh⟩, ⟨[(I6 0), .sl [] 0 .nil], 2, .fresh⟩]⟩ ?_
            refine CN false (fun h => nomatch h) (fun _ => ?_)
            refine AWP.reg (RI (True ∧ 1 < 2 ∧ True ∧ True ∧ True ∧ True) ⟨trivial, (by omega), trivial, trivial, trivial, trivial⟩ ?_)
            refine KL [11, 12, 13, 14] ⟨[U6, U6, .ptr 0 0, .ptr 1 0, .ptr 2 0, U6, U6, U6, (B6 false)] ++ UU 70, [⟨[(I6 n), .sl [(I6 n1), tl k1, (I6 n2), tl k2] 2 .any], 2, .fresh⟩, ⟨[(I6 m), .sl [(I6 m1), tl l1, (I6 m2), tl l2] 2 .any], 2, .fresh⟩, ⟨[(I6 0), .sl [] 0 .nil], 2, .fresh⟩]⟩ ?_
            refine CN false (fun h => nomatch h) (fun _ => ?_)
            refine SQ (PI 1 (2 ≤ 2 ∧ True) ⟨(by omega), trivial⟩ ?_)
            refine CD (c1) ?_
            refine RT 1 ?_
            refine KL [8, 17, 18] ⟨[U6, U6, .ptr 0 0, .ptr 1 0, .ptr 2 0] ++ UU 11 ++ [(B6 false)] ++ UU 62, [⟨[(I6 n), .sl [(I6 n1), tl k1, (I6 n2), tl k2] 2 .any], 2, .fresh⟩, ⟨[(I6 m), .sl [(I6 m1), tl l1, (I6 m2), tl l2] 2 .any], 2, .fresh⟩, ⟨[(I6 0), .sl [] 0 .nil], 2, .fresh⟩]⟩ ?_
            refine CN false (fun h => nomatch h) (fun _ => ?_)
            refine AWP.skip (AWP.seq ?_)
            refine AWP.drawB mixed (fun o => if [5, 6].contains (o.dst.getD 0) then 1 else if [].contains (o.dst.getD 0) then 2 else if [0, 0].contains (o.dst.getD 0) then 3 else 0) 2 3 (fun x => [⟨[(I6 n), .sl [(I6 n1), tl k1, (I6 n2), tl k2] 2 .any], 2, .fresh⟩, ⟨[(I6 m), .sl [(I6 m1), tl l1, (I6 m2), tl l2] 2 .any], 2, .fresh⟩, ⟨[(I6 0), .sl [] 0 .nil], 2, .fresh⟩]) ⟨[U6, U6, .ptr 0 0, .ptr 1 0, .ptr 2 0] ++ UU 11 ++ [(B6 false)] ++ UU 62, [⟨[(I6 n), .sl [(I6 n1), tl k1, (I6 n2), tl k2] 2 .any], 2, .fresh⟩, ⟨[(I6 m), .sl [(I6 m1), tl l1, (I6 m2), tl l2] 2 .any], 2, .fresh⟩, ⟨[(I6 0), .sl [] 0 .nil], 2, .fresh⟩, ⟨[], 0, .unborn⟩, ⟨[], 0, .unborn⟩]⟩ (by kernel_rfl) ⟨by kernel_rfl, by kernel_rfl⟩ (by kernel_rfl) ?_
            refine DerZ.preI 8 ((True) ∧ (((1 : Nat) < (2 : Nat)) ∧ (((((0 : Int) ≤ (0 : Int)) ∧ ((0 : Int) < (2 : Int))) ∧ ((2 : Nat) ≤ (4 : Nat))) ∧ (((2 : Nat) ≤ (2 : Nat)) ∧ ((True) ∧ (((1 : Nat) < (2 : Nat)) ∧ (((((0 : Int) ≤ (1 : Int)) ∧ ((1 : Int) < (2 : Int))) ∧ ((4 : Nat) ≤ (4 : Nat))) ∧ (((2 : Nat) ≤ (2 : Nat)) ∧ (True))))))))) (by intro x ext; kernel_rfl) ⟨trivial, ⟨(by omega), ⟨⟨⟨(by omega), (by omega)⟩, (by omega)⟩, ⟨(by omega), ⟨trivial, ⟨(by omega), ⟨⟨⟨(by omega), (by omega)⟩, (by omega)⟩, ⟨(by omega), trivial⟩⟩⟩⟩⟩⟩⟩⟩ ?_
            refine DerZ.birthI 3 ⟨by kernel_rfl, by kernel_rfl, by kernel_rfl, by kernel_rfl, (by intro x; kernel_rfl), by kernel_rfl⟩ ?_
            refine DerZ.birthI 4 ⟨by kernel_rfl, by kernel_rfl, by kernel_rfl, by kernel_rfl, (by intro x; kernel_rfl), by kernel_rfl⟩ ?_
            refine DerZ.effI 3 ((2 : Nat) ≤ (2 : Nat)) (by kernel_rfl) ⟨⟨by kernel_rfl, by kernel_rfl⟩, by kernel_rfl⟩ (by omega) ?_
            refine DerZ.effI 3 ((2 : Nat) ≤ (2 : Nat)) (by kernel_rfl) ⟨⟨by kernel_rfl, by kernel_rfl⟩, by kernel_rfl⟩ (by omega) ?_
            refine DerZ.nil ?_
            refine AWP.seq (KL ([16] ++ NN 22 8) ⟨[U6, U6, .ptr 0 0, .ptr 1 0, .ptr 2 0, .ptr 3 0, .ptr 4 0] ++ UU 72, [⟨[(I6 n), .sl [(I6 n1), tl k1, (I6 n2), tl k2] 2 .any], 2, .fresh⟩, ⟨[(I6 m), .sl [(I6 m1), tl l1, (I6 m2), tl l2] 2 .any], 2, .fresh⟩, ⟨[(I6 0), .sl [] 0 .nil], 2, .fresh⟩, ⟨[(I6 m1), tl l1], 2, .fresh⟩, ⟨[(I6 m2), tl l2], 2, .fresh⟩]⟩ ?_)
            refine AWP.reg (RT 1 ?_)
            refine AWP.seq (AWP.seq ?_)
            refine TO ⟨[U6, U6, .ptr 0 0, .ptr 1 0, .ptr 2 0, .ptr 3 0, .ptr 4 0, .fn 124 []] ++ UU 71, [⟨[(I6 n), .sl [(I6 n1), tl k1, (I6 n2), tl k2] 2 .any], 2, .fresh⟩, ⟨[(I6 m), .sl [(I6 m1), tl l1, (I6 m2), tl l2] 2 .any], 2, .fresh⟩, ⟨[(I6 0), .sl [] 0 .nil], 2, .fresh⟩, ⟨[(I6 m1), tl l1], 2, .fresh⟩, ⟨[(I6 m2), tl l2], 2, .fresh⟩]⟩ ?_
            refine AWP.reg (PI 4 (True ∧ 1 < 2 ∧ ((((0 : Int) ≤ (0 : Int)) ∧ ((0 : Int) < (2 : Int))) ∧ ((2 : Nat) ≤ (4 : Nat))) ∧ 2 ≤ 2 ∧ True) ⟨trivial, (by omega), ⟨⟨(by omega), (by omega)⟩, (by omega)⟩, (by omega), trivial⟩ ?_)
            refine CD (q1) ?_
            refine RT 1 ?_
            refine KL (NN 30 5) ⟨[U6, U6, .ptr 0 0, .ptr 1 0, .ptr 2 0, .ptr 3 0, .ptr 4 0, .fn 124 []] ++ UU 27 ++ [(B6 true)] ++ UU 43, [⟨[(I6 n), .sl [(I6 n1), tl k1, (I6 n2), tl k2] 2 .any], 2, .fresh⟩, ⟨[(I6 m), .sl [(I6 m1), tl l1, (I6 m2), tl l2] 2 .any], 2, .fresh⟩, ⟨[(I6 0), .sl [] 0 .nil], 2, .fresh⟩, ⟨[(I6 m1), tl l1], 2, .fresh⟩, ⟨[(I6 m2), tl l2], 2, .fresh⟩]⟩ ?_
            refine CN true (fun _ => ?_) (fun h => nomatch h)
            refine AWP.drawB mixed (fun o => if [].contains (o.dst.getD 0) then 1 else if [].contains (o.dst.getD 0) then 2 else if [0, 40, 41].contains (o.dst.getD 0) then 3 else 0) 0 5 (fun x => [⟨[(I6 n), .sl [(I6 n1), tl k1, (I6 n2), tl k2] 2 .any], 2, .fresh⟩, ⟨[(I6 m), .sl [(I6 m1), tl l1, (I6 m2), tl l2] 2 .any], 2, .fresh⟩, ⟨[(I6 0), .sl [] 0 .nil], 2, .fresh⟩, ⟨x 3, 2, .fresh⟩, ⟨[(I6 m2), tl l2], 2, .fresh⟩]) ⟨[U6, U6, .ptr 0 0, .ptr 1 0, .ptr 2 0, .ptr 3 0, .ptr 4 0, .fn 124 []] ++ UU 27 ++ [(B6 true)] ++ UU 43, [⟨[(I6 n), .sl [(I6 n1), tl k1, (I6 n2), tl k2] 2 .any], 2, .fresh⟩, ⟨[(I6 m), .sl [(I6 m1), tl l1, (I6 m2), tl l2] 2 .any], 2, .fresh⟩, ⟨[(I6 0), .sl [] 0 .nil], 2, .fresh⟩, ⟨[(I6 m1), tl l1], 2, .fresh⟩, ⟨[(I6 m2), tl l2], 2, .fresh⟩]⟩ (by kernel_rfl) ⟨by kernel_rfl, by kernel_rfl⟩ (by kernel_rfl) ?_
            refine DerZ.preI 4 ((True) ∧ (((1 : Nat) < (2 : Nat)) ∧ (((((0 : Int) ≤ (0 : Int)) ∧ ((0 : Int) < (2 : Int))) ∧ ((2 : Nat) ≤ (4 : Nat))) ∧ (((2 : Nat) ≤ (2 : Nat)) ∧ (True))))) (by intro x ext; kernel_rfl) ⟨trivial, ⟨(by omega), ⟨⟨⟨(by omega), (by omega)⟩, (by omega)⟩, ⟨(by omega), trivial⟩⟩⟩⟩ ?_
            refine DerZ.effI 5 ((2 : Nat) ≤ (2 : Nat)) (by kernel_rfl) ⟨⟨by kernel_rfl, by kernel_rfl⟩, by kernel_rfl⟩ (by omega) ?_
            refine DerZ.callDI (i1) ⟨by kernel_rfl, by kernel_rfl⟩ ?_
            refine DerZ.effI 5 ((2 : Nat) ≤ (2 : Nat)) (by kernel_rfl) ⟨⟨by kernel_rfl, by kernel_rfl⟩, by kernel_rfl⟩ (by omega) ?_
            refine DerZ.nil ?_
            refine AWP.seq (AWP.seq (KL (NN 35 7) ⟨[U6, U6, .ptr 0 0, .ptr 1 0, .ptr 2 0, .ptr 3 0, .ptr 4 0, .fn 124 []] ++ UU 71, [⟨[(I6 n), .sl [(I6 n1), tl k1, (I6 n2), tl k2] 2 .any], 2, .fresh⟩, ⟨[(I6 m), .sl [(I6 m1), tl l1, (I6 m2), tl l2] 2 .any], 2, .fresh⟩, ⟨[(I6 0), .sl [] 0 .nil], 2, .fresh⟩, ⟨[(I6 (T.n (fillE (T.mk n1 k1) (T.mk m1 l1)))), tl (T.ks (fillE (T.mk n1 k1) (T.mk m1 l1)))], 2, .fresh⟩, ⟨[(I6 m2), tl l2], 2, .fresh⟩]⟩ ?_))
            refine AWP.reg (PI 4 (True ∧ 1 < 2 ∧ ((((0 : Int) ≤ (1 : Int)) ∧ ((1 : Int) < (2 : Int))) ∧ ((4 : Nat) ≤ (4 : Nat))) ∧ 2 ≤ 2 ∧ True) ⟨trivial, (by omega), ⟨⟨(by omega), (by omega)⟩, (by omega)⟩, (by omega), trivial⟩ ?_)
            refine CD (q2) ?_
            refine RT 1 ?_
            refine KL (NN 42 5) ⟨[U6, U6, .ptr 0 0, .ptr 1 0, .ptr 2 0, .ptr 3 0, .ptr 4 0, .fn 124 []] ++ UU 39 ++ [(B6 true)] ++ UU 31, [⟨[(I6 n), .sl [(I6 n1), tl k1, (I6 n2), tl k2] 2 .any], 2, .fresh⟩, ⟨[(I6 m), .sl [(I6 m1), tl l1, (I6 m2), tl l2] 2 .any], 2, .fresh⟩, ⟨[(I6 0), .sl [] 0 .nil], 2, .fresh⟩, ⟨[(I6 (T.n (fillE (T.mk n1 k1) (T.mk m1 l1)))), tl (T.ks (fillE (T.mk n1 k1) (T.mk m1 l1)))], 2, .fresh⟩, ⟨[(I6 m2), tl l2], 2, .fresh⟩]⟩ ?_
            refine CN true (fun _ => ?_) (fun h => nomatch h)
            refine AWP.drawB mixed (fun o => if [].contains (o.dst.getD 0) then 1 else if [].contains (o.dst.getD 0) then 2 else if [0, 52, 53].contains (o.dst.getD 0) then 3 else 0) 0 5 (fun x => [⟨[(I6 n), .sl [(I6 n1), tl k1, (I6 n2), tl k2] 2 .any], 2, .fresh⟩, ⟨[(I6 m), .sl [(I6 m1), tl l1, (I6 m2), tl l2] 2 .any], 2, .fresh⟩, ⟨[(I6 0), .sl [] 0 .nil], 2, .fresh⟩, ⟨[(I6 (T.n (fillE (T.mk n1 k1) (T.mk m1 l1)))), tl (T.ks (fillE (T.mk n1 k1) (T.mk m1 l1)))], 2, .fresh⟩, ⟨x 4, 2, .fresh⟩]) ⟨[U6, U6, .ptr 0 0, .ptr 1 0, .ptr 2 0, .ptr 3 0, .ptr 4 0, .fn 124 []] ++ UU 39 ++ [(B6 true)] ++ UU 31, [⟨[(I6 n), .sl [(I6 n1), tl k1, (I6 n2), tl k2] 2 .any], 2, .fresh⟩, ⟨[(I6 m), .sl [(I6 m1), tl l1, (I6 m2), tl l2] 2 .any], 2, .fresh⟩, ⟨[(I6 0), .sl [] 0 .nil], 2, .fresh⟩, ⟨[(I6 (T.n (fillE (T.mk n1 k1) (T.mk m1 l1)))), tl (T.ks (fillE (T.mk n1 k1) (T.mk m1 l1)))], 2, .fresh⟩, ⟨[(I6 m2), tl l2], 2, .fresh⟩]⟩ (by kernel_rfl) ⟨by kernel_rfl, by kernel_rfl⟩ (by kernel_rfl) ?_
            refine DerZ.preI 4 ((True) ∧ (((1 : Nat) < (2 : Nat)) ∧ (((((0 : Int) ≤ (1 : Int)) ∧ ((1 : Int) < (2 : Int))) ∧ ((4 : Nat) ≤ (4 : Nat))) ∧ (((2 : Nat) ≤ (2 : Nat)) ∧ (True))))) (by intro x ext; kernel_rfl) ⟨trivial, ⟨(by omega), ⟨⟨⟨(by omega), (by omega)⟩, (by omega)⟩, ⟨(by omega), trivial⟩⟩⟩⟩ ?_
            refine DerZ.effI 5 ((2 : Nat) ≤ (2 : Nat)) (by kernel_rfl) ⟨⟨by kernel_rfl, by kernel_rfl⟩, by kernel_rfl⟩ (by omega) ?_
            refine DerZ.callDI (i2) ⟨by kernel_rfl, by kernel_rfl⟩ ?_
            refine DerZ.effI 5 ((2 : Nat) ≤ (2 : Nat)) (by kernel_rfl) ⟨⟨by kernel_rfl, by kernel_rfl⟩, by kernel_rfl⟩ (by omega) ?_
            refine DerZ.nil ?_
            refine AWP.seq (AWP.block (AWP.seq (KL (NN 47 7) ⟨[U6, U6, .ptr 0 0, .ptr 1 0, .ptr 2 0, .ptr 3 0, .ptr 4 0, .fn 124 []] ++ UU 71, [⟨[(I6 n), .sl [(I6 n1), tl k1, (I6 n2), tl k2] 2 .any], 2, .fresh⟩, ⟨[(I6 m), .sl [(I6 m1), tl l1, (I6 m2), tl l2] 2 .any], 2, .fresh⟩, ⟨[(I6 0), .sl [] 0 .nil], 2, .fresh⟩, ⟨[(I6 (T.n (fillE (T.mk n1 k1) (T.mk m1 l1)))), tl (T.ks (fillE (T.mk n1 k1) (T.mk m1 l1)))], 2, .fresh⟩, ⟨[(I6 (T.n (fillE (T.mk n2 k2) (T.mk m2 l2)))), tl (T.ks (fillE (T.mk n2 k2) (T.mk m2 l2)))], 2, .fresh⟩]⟩ ?_)))
            refine AWP.reg (PI 4 (True ∧ 1 < 2 ∧ ((((0 : Int) ≤ (0 : Int)) ∧ ((0 : Int) < (2 : Int))) ∧ ((2 : Nat) ≤ (4 : Nat))) ∧ 2 ≤ 2 ∧ True) ⟨trivial, (by omega), ⟨⟨(by omega), (by omega)⟩, (by omega)⟩, (by omega), trivial⟩ ?_)
            refine CD (q1) ?_
            refine RT 1 ?_
            refine KL (NN 55 5) ⟨[U6, U6, .ptr 0 0, .ptr 1 0, .ptr 2 0, .ptr 3 0, .ptr 4 0, .fn 124 []] ++ UU 46 ++ [(B6 false)] ++ UU 24, [⟨[(I6 n), .sl [(I6 n1), tl k1, (I6 n2), tl k2] 2 .any], 2, .fresh⟩, ⟨[(I6 m), .sl [(I6 m1), tl l1, (I6 m2), tl l2] 2 .any], 2, .fresh⟩, ⟨[(I6 0), .sl [] 0 .nil], 2, .fresh⟩, ⟨[(I6 (T.n (fillE (T.mk n1 k1) (T.mk m1 l1)))), tl (T.ks (fillE (T.mk n1 k1) (T.mk m1 l1)))], 2, .fresh⟩, ⟨[(I6 (T.n (fillE (T.mk n2 k2) (T.mk m2 l2)))), tl (T.ks (fillE (T.mk n2 k2) (T.mk m2 l2)))], 2, .fresh⟩]⟩ ?_
            refine CN false (fun h => nomatch h) (fun _ => ?_)
            refine SQ (PI 4 (True ∧ 1 < 2 ∧ ((((0 : Int) ≤ (1 : Int)) ∧ ((1 : Int) < (2 : Int))) ∧ ((4 : Nat) ≤ (4 : Nat))) ∧ 2 ≤ 2 ∧ True) ⟨trivial, (by omega), ⟨⟨(by omega), (by omega)⟩, (by omega)⟩, (by omega), trivial⟩ ?_)
            refine CD (q2) ?_
            refine RT 1 ?_
            refine KL ([2, 54] ++ NN 65 5) ⟨[U6, U6, U6, .ptr 1 0, .ptr 2 0, .ptr 3 0, .ptr 4 0, .fn 124 []] ++ UU 56 ++ [(B6 false)] ++ UU 14, [⟨[(I6 n), .sl [(I6 n1), tl k1, (I6 n2), tl k2] 2 .any], 2, .fresh⟩, ⟨[(I6 m), .sl [(I6 m1), tl l1, (I6 m2), tl l2] 2 .any], 2, .fresh⟩, ⟨[(I6 0), .sl [] 0 .nil], 2, .fresh⟩, ⟨[(I6 (T.n (fillE (T.mk n1 k1) (T.mk m1 l1)))), tl (T.ks (fillE (T.mk n1 k1) (T.mk m1 l1)))], 2, .fresh⟩, ⟨[(I6 (T.n (fillE (T.mk n2 k2) (T.mk m2 l2)))), tl (T.ks (fillE (T.mk n2 k2) (T.mk m2 l2)))], 2, .fresh⟩]⟩ ?_
            refine CN false (fun h => nomatch h) (fun _ => ?_)
            refine AWP.skip (SQ (PI 4 (True ∧ 0 < 2 ∧ 2 ≤ 2 ∧ 2 ≤ 2 ∧ True) ⟨trivial, (by omega), (by omega), (by omega), trivial⟩ ?_))
            refine DerQ.callD (nr (T.n (fillE (T.mk n1 k1) (T.mk m1 l1))) (T.n (fillE (T.mk n2 k2) (T.mk m2 l2))) (T.ks (fillE (T.mk n1 k1) (T.mk m1 l1))) (T.ks (fillE (T.mk n2 k2) (T.mk m2 l2))) (by (rw [T.mk_eta, T.mk_eta]; omega))) ⟨[U6, U6, U6, .ptr 1 0, .ptr 2 0, .ptr 3 0, .ptr 4 0, .fn 124 []] ++ UU 56 ++ [(B6 false)] ++ UU 9 ++ [.ptr 1 0, (I6 m), .agg [(I6 (T.n (fillE (T.mk n1 k1) (T.mk m1 l1)))), tl (T.ks (fillE (T.mk n1 k1) (T.mk m1 l1)))], .agg [(I6 (T.n (fillE (T.mk n2 k2) (T.mk m2 l2)))), tl (T.ks (fillE (T.mk n2 k2) (T.mk m2 l2)))], .agg [(I6 (T.n (normalE m (T.mk (T.n (fillE (T.mk n1 k1) (T.mk m1 l1))) (T.ks (fillE (T.mk n1 k1) (T.mk m1 l1)))) (T.mk (T.n (fillE (T.mk n2 k2) (T.mk m2 l2))) (T.ks (fillE (T.mk n2 k2) (T.mk m2 l2))))))), .sl (tcs (T.ks (normalE m (T.mk (T.n (fillE (T.mk n1 k1) (T.mk m1 l1))) (T.ks (fillE (T.mk n1 k1) (T.mk m1 l1)))) (T.mk (T.n (fillE (T.mk n2 k2) (T.mk m2 l2))) (T.ks (fillE (T.mk n2 k2) (T.mk m2 l2))))))) (List.length (T.ks (normalE m (T.mk (T.n (fillE (T.mk n1 k1) (T.mk m1 l1))) (T.ks (fillE (T.mk n1 k1) (T.mk m1 l1)))) (T.mk (T.n (fillE (T.mk n2 k2) (T.mk m2 l2))) (T.ks (fillE (T.mk n2 k2) (T.mk m2 l2))))))) .any]], [⟨[(I6 n), .sl [(I6 n1), tl k1, (I6 n2), tl k2] 2 .any], 2, .fresh⟩, ⟨[(I6 m), .sl [(I6 m1), tl l1, (I6 m2), tl l2] 2 .any], 2, .fresh⟩, ⟨[(I6 0), .sl [] 0 .nil], 2, .fresh⟩, ⟨[(I6 (T.n (fillE (T.mk n1 k1) (T.mk m1 l1)))), tl (T.ks (fillE (T.mk n1 k1) (T.mk m1 l1)))], 2, .fresh⟩, ⟨[(I6 (T.n (fillE (T.mk n2 k2) (T.mk m2 l2)))), tl (T.ks (fillE (T.mk n2 k2) (T.mk m2 l2)))], 2, .fresh⟩]⟩ ⟨by kernel_rfl, by kernel_rfl, by kernel_rfl⟩ ?_
            rw [Go.Tr.T.mk_eta (fillE (T.mk n1 k1) (T.mk m1 l1))]
            rw [Go.Tr.T.mk_eta (fillE (T.mk n2 k2) (T.mk m2 l2))]
            refine RI (2 ≤ 2 ∧ True) ⟨(by omega), trivial⟩ ?_
            refine AWP.ret FA
end Go.Tr
