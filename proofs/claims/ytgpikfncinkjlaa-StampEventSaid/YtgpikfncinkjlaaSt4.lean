/- Walks and laws. -/
import Derived.Test.YtgpikfncinkjlaaSt3
import Derived.Test.YtgpikfncinkjlaaLibB
set_option maxRecDepth 100000
set_option maxHeartbeats 0
set_option linter.unusedSimpArgs false
set_option linter.unusedVariables false
namespace Go.Tr
open Go Go.Abs Go.Proofs
theorem gl (m : Int) (x y : T) (c : Int) : AVal.anyA (.tup [.agg [.sc (.int .i64 m), .sl [.sc (.int .i64 x.n), .sl (tcs x.ks) x.ks.length .any, .sc (.int .i64 y.n), .sl (tcs y.ks) y.ks.length .any] 2 .any], .sc (.int .i64 c)]) = .tup [ag (.mk m [x, y]), .sc (.int .i64 c)] := by
  rw [ag, T.n_mk, T.ks_mk, tcs_pair]
  simp [AVal.anyA, anyAll]
theorem s_left (n m n1 n2 m1 m2 : Int) (k1 k2 l1 l2 : List T) (p : T × Int) (hp : 0 ≤ p.2 ∧ p.2 ≤ 1000000000) (h : EvD Try.prog 119 [.agg [.sc (.int .i64 n1), .sl (tcs k1) k1.length .any], .agg [.sc (.int .i64 m1), .sl (tcs l1) l1.length .any]] (.tup [ag p.1, .sc (.int .i64 p.2)])) : EvD Try.prog 127 [.dptr [.sc (.int .i64 n), .sl [.sc (.int .i64 n1), .sl (tcs k1) k1.length .any, .sc (.int .i64 n2), .sl (tcs k2) k2.length .any] 2 .any], .dptr [.sc (.int .i64 m), .sl [.sc (.int .i64 m1), .sl (tcs l1) l1.length .any, .sc (.int .i64 m2), .sl (tcs l2) l2.length .any] 2 .any]] (.tup [.agg [.sc (.int .i64 m), .sl [.sc (.int .i64 p.1.n), .sl (tcs p.1.ks) p.1.ks.length .any, .sc (.int .i64 m2), .sl (tcs l2) l2.length .any] 2 .any], .sc (.int .i64 (p.2 + 1))]) := by
  refine EvD.body Try.func127 rfl rfl rfl ?_
  refine AWP.seq ?_
  refine TO ⟨[.dptr [(I6 n), .sl [(I6 n1), tl k1, (I6 n2), tl k2] 2 .any], .dptr [(I6 m), .sl [(I6 m1), tl l1, (I6 m2), tl l2] 2 .any]] ++ UU 26, []⟩ ?_
  refine AWP.reg (RT 2 ?_)
  refine AWP.seq ?_
  refine TO ⟨[.dptr [(I6 n), .sl [(I6 n1), tl k1, (I6 n2), tl k2] 2 .any], .dptr [(I6 m), .sl [(I6 m1), tl l1, (I6 m2), tl l2] 2 .any], .ptr 0 0, (I6 0)] ++ UU 24, [⟨[(I6 0), .sl [] 0 .nil], 2, .fresh⟩]⟩ ?_
  refine AWP.drawX mixed (fun o => [4, 0].contains (o.dst.getD 0)) (by kernel_rfl) ?_
  refine DerX.preI 8 (((2 : Nat) ≤ (2 : Nat)) ∧ (((0 : Nat) < (1 : Nat)) ∧ (((((0 : Int) ≤ (0 : Int)) ∧ ((0 : Int) < (2 : Int))) ∧ ((2 : Nat) ≤ (4 : Nat))) ∧ (((2 : Nat) ≤ (2 : Nat)) ∧ (((2 : Nat) ≤ (2 : Nat)) ∧ (((0 : Nat) < (1 : Nat)) ∧ (((((0 : Int) ≤ (0 : Int)) ∧ ((0 : Int) < (2 : Int))) ∧ ((2 : Nat) ≤ (4 : Nat))) ∧ (((2 : Nat) ≤ (2 : Nat)) ∧ (True))))))))) (by intro ext; kernel_rfl) ⟨(by omega), ⟨(by omega), ⟨⟨⟨(by omega), (by omega)⟩, (by omega)⟩, ⟨(by omega), ⟨(by omega), ⟨(by omega), ⟨⟨⟨(by omega), (by omega)⟩, (by omega)⟩, ⟨(by omega), trivial⟩⟩⟩⟩⟩⟩⟩⟩ ?_
  refine DerX.callDI (h) ⟨by kernel_rfl, by kernel_rfl⟩ ?_
  refine DerX.preI 3 ((True) ∧ ((True) ∧ ((True) ∧ (True)))) (by intro ext; kernel_rfl) ⟨trivial, ⟨trivial, ⟨trivial, trivial⟩⟩⟩ ?_
  refine DerX.effI (True) (by kernel_rfl) ⟨by kernel_rfl, by kernel_rfl, by kernel_rfl⟩ trivial ?_
  refine DerX.effI ((2 : Nat) ≤ (2 : Nat)) (by kernel_rfl) ⟨by kernel_rfl, by kernel_rfl, by kernel_rfl⟩ (by omega) ?_
  refine DerX.quietI (True) (by intro ext; kernel_rfl) (by kernel_rfl) trivial ?_
  refine DerX.nil ?_
  refine AWP.seq (KL ([0] ++ NN 6 12) ⟨[U6, .dptr [(I6 m), .sl [(I6 m1), tl l1, (I6 m2), tl l2] 2 .any], .ptr 0 0, (I6 0), .ptr 1 0, (I6 (p.2))] ++ UU 22, [⟨[(I6 0), .sl [] 0 .nil], 2, .fresh⟩, ⟨[(I6 (T.n p.1)), tl (T.ks p.1)], 2, .fresh⟩]⟩ ?_)
  refine AWP.drawB mixed (fun o => if [].contains (o.dst.getD 0) then 1 else if [].contains (o.dst.getD 0) then 2 else if [0, 25].contains (o.dst.getD 0) then 3 else 0) 0 2 (fun x => [⟨x 0, 2, .fresh⟩, ⟨[(I6 (T.n p.1)), tl (T.ks p.1)], 2, .fresh⟩]) ⟨[U6, .dptr [(I6 m), .sl [(I6 m1), tl l1, (I6 m2), tl l2] 2 .any], .ptr 0 0, (I6 0), .ptr 1 0, (I6 (p.2))] ++ UU 22, [⟨[(I6 0), .sl [] 0 .nil], 2, .fresh⟩, ⟨[(I6 (T.n p.1)), tl (T.ks p.1)], 2, .fresh⟩]⟩ (by kernel_rfl) ⟨by kernel_rfl, by kernel_rfl⟩ (by kernel_rfl) ?_
  refine DerZ.preI 7 (((1 : Nat) ≤ (2 : Nat)) ∧ (((0 : Nat) < (1 : Nat)) ∧ (((2 : Nat) ≤ (2 : Nat)) ∧ (((2 : Nat) ≤ (2 : Nat)) ∧ (((0 : Nat) < (1 : Nat)) ∧ (((((0 : Int) ≤ (1 : Int)) ∧ ((1 : Int) < (2 : Int))) ∧ ((4 : Nat) ≤ (4 : Nat))) ∧ (((2 : Nat) ≤ (2 : Nat)) ∧ (True)))))))) (by intro x ext; kernel_rfl) ⟨(by omega), ⟨(by omega), ⟨(by omega), ⟨(by omega), ⟨(by omega), ⟨⟨⟨(by omega), (by omega)⟩, (by omega)⟩, ⟨(by omega), trivial⟩⟩⟩⟩⟩⟩⟩ ?_
  refine DerZ.callDI (s_inner m (T.n p.1) m2 (tcs (T.ks p.1)) (tcs l2) (List.length (T.ks p.1)) (List.length l2)) ⟨by kernel_rfl, by kernel_rfl⟩ ?_
  refine DerZ.preI 2 ((True) ∧ ((True) ∧ (True))) (by intro x ext; kernel_rfl) ⟨trivial, ⟨trivial, trivial⟩⟩ ?_
  refine DerZ.effI 2 ((2 : Nat) ≤ (2 : Nat)) (by kernel_rfl) ⟨⟨by kernel_rfl, by kernel_rfl⟩, by kernel_rfl⟩ (by omega) ?_
  refine DerZ.quietI (True) (by intro x ext; kernel_rfl) (by kernel_rfl) trivial ?_
  refine DerZ.nil ?_
  refine AWP.ret ?_
  refine FI (.tup [.agg [.sc (.int .i64 (m)), .sl [.sc (.int .i64 (T.n p.1)), .sl (tcs (T.ks p.1)) (List.length (T.ks p.1)) .any, .sc (.int .i64 (m2)), .sl (tcs l2) (List.length l2) .any] 2 .any], .sc (.int .i64 (IntKind.wrap IntKind.i64 (p.2 + 1)))]) ?_
  refine Shrink.dataK [] (True) (.tup [.agg [.sc (.int .i64 (m)), .sl [.sc (.int .i64 (T.n p.1)), .sl (tcs (T.ks p.1)) (List.length (T.ks p.1)) .any, .sc (.int .i64 (m2)), .sl (tcs l2) (List.length l2) .any] 2 .any], .sc (.int .i64 (IntKind.wrap IntKind.i64 (p.2 + 1)))]) (by kernel_rfl) trivial ?_ rfl
  (rw [IntWalk.i64_in _ (by omega)]; rfl; done)
theorem s_right (n m n1 n2 m1 m2 : Int) (k1 k2 l1 l2 : List T) (p : T × Int) (hp : 0 ≤ p.2 ∧ p.2 ≤ 1000000000) (h : EvD Try.prog 119 [.agg [.sc (.int .i64 n2), .sl (tcs k2) k2.length .any], .agg [.sc (.int .i64 m2), .sl (tcs l2) l2.length .any]] (.tup [ag p.1, .sc (.int .i64 p.2)])) : EvD Try.prog 128 [.dptr [.sc (.int .i64 n), .sl [.sc (.int .i64 n1), .sl (tcs k1) k1.length .any, .sc (.int .i64 n2), .sl (tcs k2) k2.length .any] 2 .any], .dptr [.sc (.int .i64 m), .sl [.sc (.int .i64 m1), .sl (tcs l1) l1.length .any, .sc (.int .i64 m2), .sl (tcs l2) l2.length .any] 2 .any]] (.tup [.agg [.sc (.int .i64 m), .sl [.sc (.int .i64 m1), .sl (tcs l1) l1.length .any, .sc (.int .i64 p.1.n), .sl (tcs p.1.ks) p.1.ks.length .any] 2 .any], .sc (.int .i64 (p.2 + 1))]) := by
  refine EvD.body Try.func128 rfl rfl rfl ?_
  refine AWP.seq ?_
  refine TO ⟨[.dptr [(I6 n), .sl [(I6 n1), tl k1, (I6 n2), tl k2] 2 .any], .dptr [(I6 m), .sl [(I6 m1), tl l1, (I6 m2), tl l2] 2 .any]] ++ UU 26, []⟩ ?_
  refine AWP.reg (RT 2 ?_)
  refine AWP.seq ?_
  refine TO ⟨[.dptr [(I6 n), .sl [(I6 n1), tl k1, (I6 n2), tl k2] 2 .any], .dptr [(I6 m), .sl [(I6 m1), tl l1, (I6 m2), tl l2] 2 .any], .ptr 0 0, (I6 0)] ++ UU 24, [⟨[(I6 0), .sl [] 0 .nil], 2, .fresh⟩]⟩ ?_
  refine AWP.drawX mixed (fun o => [4, 0].contains (o.dst.getD 0)) (by kernel_rfl) ?_
  refine DerX.preI 8 (((2 : Nat) ≤ (2 : Nat)) ∧ (((0 : Nat) < (1 : Nat)) ∧ (((((0 : Int) ≤ (1 : Int)) ∧ ((1 : Int) < (2 : Int))) ∧ ((4 : Nat) ≤ (4 : Nat))) ∧ (((2 : Nat) ≤ (2 : Nat)) ∧ (((2 : Nat) ≤ (2 : Nat)) ∧ (((0 : Nat) < (1 : Nat)) ∧ (((((0 : Int) ≤ (1 : Int)) ∧ ((1 : Int) < (2 : Int))) ∧ ((4 : Nat) ≤ (4 : Nat))) ∧ (((2 : Nat) ≤ (2 : Nat)) ∧ (True))))))))) (by intro ext; kernel_rfl) ⟨(by omega), ⟨(by omega), ⟨⟨⟨(by omega), (by omega)⟩, (by omega)⟩, ⟨(by omega), ⟨(by omega), ⟨(by omega), ⟨⟨⟨(by omega), (by omega)⟩, (by omega)⟩, ⟨(by omega), trivial⟩⟩⟩⟩⟩⟩⟩⟩ ?_
  refine DerX.callDI (h) ⟨by kernel_rfl, by kernel_rfl⟩ ?_
  refine DerX.preI 3 ((True) ∧ ((True) ∧ ((True) ∧ (True)))) (by intro ext; kernel_rfl) ⟨trivial, ⟨trivial, ⟨trivial, trivial⟩⟩⟩ ?_
  refine DerX.effI (True) (by kernel_rfl) ⟨by kernel_rfl, by kernel_rfl, by kernel_rfl⟩ trivial ?_
  refine DerX.effI ((2 : Nat) ≤ (2 : Nat)) (by kernel_rfl) ⟨by kernel_rfl, by kernel_rfl, by kernel_rfl⟩ (by omega) ?_
  refine DerX.quietI (True) (by intro ext; kernel_rfl) (by kernel_rfl) trivial ?_
  refine DerX.nil ?_
  refine AWP.seq (KL ([0] ++ NN 6 12) ⟨[U6, .dptr [(I6 m), .sl [(I6 m1), tl l1, (I6 m2), tl l2] 2 .any], .ptr 0 0, (I6 0), .ptr 1 0, (I6 (p.2))] ++ UU 22, [⟨[(I6 0), .sl [] 0 .nil], 2, .fresh⟩, ⟨[(I6 (T.n p.1)), tl (T.ks p.1)], 2, .fresh⟩]⟩ ?_)
  refine AWP.drawB mixed (fun o => if [].contains (o.dst.getD 0) then 1 else if [].contains (o.dst.getD 0) then 2 else if [0, 25].contains (o.dst.getD 0) then 3 else 0) 0 2 (fun x => [⟨x 0, 2, .fresh⟩, ⟨[(I6 (T.n p.1)), tl (T.ks p.1)], 2, .fresh⟩]) ⟨[U6, .dptr [(I6 m), .sl [(I6 m1), tl l1, (I6 m2), tl l2] 2 .any], .ptr 0 0, (I6 0), .ptr 1 0, (I6 (p.2))] ++ UU 22, [⟨[(I6 0), .sl [] 0 .nil], 2, .fresh⟩, ⟨[(I6 (T.n p.1)), tl (T.ks p.1)], 2, .fresh⟩]⟩ (by kernel_rfl) ⟨by kernel_rfl, by kernel_rfl⟩ (by kernel_rfl) ?_
  refine DerZ.preI 7 (((1 : Nat) ≤ (2 : Nat)) ∧ (((0 : Nat) < (1 : Nat)) ∧ (((2 : Nat) ≤ (2 : Nat)) ∧ (((0 : Nat) < (1 : Nat)) ∧ (((((0 : Int) ≤ (0 : Int)) ∧ ((0 : Int) < (2 : Int))) ∧ ((2 : Nat) ≤ (4 : Nat))) ∧ (((2 : Nat) ≤ (2 : Nat)) ∧ (((2 : Nat) ≤ (2 : Nat)) ∧ (True)))))))) (by intro x ext; kernel_rfl) ⟨(by omega), ⟨(by omega), ⟨(by omega), ⟨(by omega), ⟨⟨⟨(by omega), (by omega)⟩, (by omega)⟩, ⟨(by omega), ⟨(by omega), trivial⟩⟩⟩⟩⟩⟩⟩ ?_
  refine DerZ.callDI (s_inner m m1 (T.n p.1) (tcs l1) (tcs (T.ks p.1)) (List.length l1) (List.length (T.ks p.1))) ⟨by kernel_rfl, by kernel_rfl⟩ ?_
  refine DerZ.preI 2 ((True) ∧ ((True) ∧ (True))) (by intro x ext; kernel_rfl) ⟨trivial, ⟨trivial, trivial⟩⟩ ?_
  refine DerZ.effI 2 ((2 : Nat) ≤ (2 : Nat)) (by kernel_rfl) ⟨⟨by kernel_rfl, by kernel_rfl⟩, by kernel_rfl⟩ (by omega) ?_
  refine DerZ.quietI (True) (by intro x ext; kernel_rfl) (by kernel_rfl) trivial ?_
  refine DerZ.nil ?_
  refine AWP.ret ?_
  refine FI (.tup [.agg [.sc (.int .i64 (m)), .sl [.sc (.int .i64 (m1)), .sl (tcs l1) (List.length l1) .any, .sc (.int .i64 (T.n p.1)), .sl (tcs (T.ks p.1)) (List.length (T.ks p.1)) .any] 2 .any], .sc (.int .i64 (IntKind.wrap IntKind.i64 (p.2 + 1)))]) ?_
  refine Shrink.dataK [] (True) (.tup [.agg [.sc (.int .i64 (m)), .sl [.sc (.int .i64 (m1)), .sl (tcs l1) (List.length l1) .any, .sc (.int .i64 (T.n p.1)), .sl (tcs (T.ks p.1)) (List.length (T.ks p.1)) .any] 2 .any], .sc (.int .i64 (IntKind.wrap IntKind.i64 (p.2 + 1)))]) (by kernel_rfl) trivial ?_ rfl
  (rw [IntWalk.i64_in _ (by omega)]; rfl; done)
theorem s_grow (N : Nat) : ∀ (n m : Int) (ks ls : List T) (d l : Int), size (.mk n ks) ≤ N → N ≤ 100000 → validI (.mk n ks) = true → normI (.mk n ks) = .mk n ks → ¬ isT (.mk n ks) 0 → roughE d l (.mk m ls) = true → (size (.mk n ks) : Int) ≤ d → l ≤ 1073741824 → EvD Try.prog 119 [.agg [.sc (.int .i64 n), .sl (tcs ks) ks.length .any], .agg [.sc (.int .i64 m), .sl (tcs ls) ls.length .any]] (.tup [ag (growE (.mk n ks) (.mk m ls)).1, .sc (.int .i64 (growE (.mk n ks) (.mk m ls)).2)]) := by
  induction N with
  | zero => intro n m ks ls d l h; rw [size] at h; omega
  | succ N ih =>
    intro n m ks ls d l hN h9 hv hn h0 hr hd hl
    have hb : binT (.mk n ks) = true := bin_of_rough _ (depthT (.mk n ks)) ((rough_iff _ _ (by omega)).2 ⟨hv, by omega⟩)
    have hrn := roughE_n hr
    simp only [T.n_mk] at hrn
    rcases bin_case hb with rfl | ⟨n1, k1, n2, k2, rfl⟩
    · have hv' : n = 0 ∨ n = 1 := by simpa only [validI, decide_eq_true_eq] using hv
      have h1 : n = 1 := by rcases hv' with rfl | h; exact absurd ⟨rfl, rfl⟩ h0; exact h
      subst h1
      rw [grow_one]
      refine EvD.body Try.func119 rfl rfl rfl ?_
      refine AWP.seq ?_
      refine TO ⟨[.agg [(I6 1), .sl [] 0 .any], .agg [(I6 m), tl ls]] ++ UU 75, []⟩ ?_
      refine AWP.reg (RT 4 ?_)
      refine AWP.seq (AWP.seq (KL [0, 1] ⟨[U6, U6, .ptr 0 0, .ptr 1 0, .ptr 2 0, (I6 0)] ++ UU 71, [⟨[(I6 1), .sl [] 0 .any], 2, .fresh⟩, ⟨[(I6 m), tl ls], 2, .fresh⟩, ⟨[(I6 0), .sl [] 0 .nil], 2, .fresh⟩]⟩ ?_))
      refine AWP.reg (PI 1 (2 ≤ 2 ∧ True) ⟨(by omega), trivial⟩ ?_)
      refine CD (s_is ((1 : Int)) ((1 : Int)) [] ((0 : Nat))) ?_
      refine DerQ.nil ?_
      refine KL [14] ⟨[U6, U6, .ptr 0 0, .ptr 1 0, .ptr 2 0, (I6 0)] ++ UU 9 ++ [(B6 true)] ++ UU 61, [⟨[(I6 1), .sl [] 0 .any], 2, .fresh⟩, ⟨[(I6 m), tl ls], 2, .fresh⟩, ⟨[(I6 0), .sl [] 0 .nil], 2, .fresh⟩]⟩ ?_
      refine CN true (fun _ => ?_) (fun h => nomatch h)
      refine SQ ?_
      refine DerQ.run (True ∧ 0 < 2 ∧ True ∧ True ∧ 1 ≤ 2 ∧ True) ⟨[U6, U6, .ptr 0 0, .ptr 1 0, .ptr 2 0, (I6 0)] ++ UU 9 ++ [(B6 true), .ptr 1 0, (I6 m), (I6 (IntKind.wrap IntKind.i64 (m + 1))), .ptr 1 0] ++ UU 57, [⟨[(I6 1), .sl [] 0 .any], 2, .fresh⟩, ⟨[(I6 (IntKind.wrap IntKind.i64 (m + 1))), tl ls], 2, .fresh⟩, ⟨[(I6 0), .sl [] 0 .nil], 2, .fresh⟩]⟩ (by kernel_rfl) ⟨trivial, (by omega), trivial, trivial, (by omega), trivial⟩ ?_
      rw [IntWalk.i64_in (m + 1) (by omega)]
      refine AWP.seq (KL (NN 15 5) ⟨[U6, U6, .ptr 0 0, .ptr 1 0, .ptr 2 0, (I6 0)] ++ UU 71, [⟨[(I6 1), .sl [] 0 .any], 2, .fresh⟩, ⟨[(I6 (m + 1)), tl ls], 2, .fresh⟩, ⟨[(I6 0), .sl [] 0 .nil], 2, .fresh⟩]⟩ ?_)
      refine AWP.reg (RI (2 ≤ 2 ∧ 2 ≤ 2 ∧ True ∧ True) ⟨(by omega), (by omega), trivial, trivial⟩ ?_)
      refine AWP.ret FA
    · have nz := not_zero hn
      obtain ⟨x1, x2, x3, _⟩ := norm_kids hn
      simp only [validI, Bool.and_eq_true, decide_eq_true_eq] at hv
      simp only [size, sizes] at hN hd
      have c0 := s_is n 1 [.sc (.int .i64 n1), .sl (tcs k1) k1.length .any, .sc (.int .i64 n2), .sl (tcs k2) k2.length .any] 2
      have key : ∀ (m1 m2 : Int) (l1 l2 : List T), roughE (d - 1) (l - m) (.mk m1 l1) = true → roughE (d - 1) (l - m) (.mk m2 l2) = true → EvD Try.prog 119 [.agg [.sc (.int .i64 n), .sl [.sc (.int .i64 n1), .sl (tcs k1) k1.length .any, .sc (.int .i64 n2), .sl (tcs k2) k2.length .any] 2 .any], .agg [.sc (.int .i64 m), .sl [.sc (.int .i64 m1), .sl (tcs l1) l1.length .any, .sc (.int .i64 m2), .sl (tcs l2) l2.length .any] 2 .any]] (.tup [ag (growE (.mk n [.mk n1 k1, .mk n2 k2]) (.mk m [.mk m1 l1, .mk m2 l2])).1, .sc (.int .i64 (growE (.mk n [.mk n1 k1, .mk n2 k2]) (.mk m [.mk m1 l1, .mk m2 l2])).2)]) := by
        intro m1 m2 l1 l2 g4 g5
        have i1 := fun h => ih n1 m1 k1 l1 (d - 1) (l - m) (by rw [size]; omega) (by omega) hv.1.2 x1 h g4 (by rw [size]; omega) (by omega)
        have i2 := fun h => ih n2 m2 k2 l2 (d - 1) (l - m) (by rw [size]; omega) (by omega) hv.2 x2 h g5 (by rw [size]; omega) (by omega)
        have z1 := grow_cost (.mk n1 k1) (.mk m1 l1)
        have z2 := grow_cost (.mk n2 k2) (.mk m2 l2)
        simp only [size] at z1 z2
        clear ih
        by_cases ha : isT (.mk n1 k1) 0
        · have hb1 := nz ha
          replace i2 := i2 hb1
          clear i1
          have q1 := dec_t (s_is n1 0 (tcs k1) k1.length) (by exact ha)
          have q2 := dec_f (s_is n2 0 (tcs k2) k2.length) (by exact hb1)
          have cr := s_right n m n1 n2 m1 m2 k1 k2 l1 l2 _ (by omega) i2
          rw [grow_a ha]
          refine EvD.body Try.func119 rfl rfl rfl ?_
          refine AWP.seq ?_
          refine TO ⟨[.agg [(I6 n), .sl [(I6 n1), tl k1, (I6 n2), tl k2] 2 .any], .agg [(I6 m), .sl [(I6 m1), tl l1, (I6 m2), tl l2] 2 .any]] ++ UU 75, []⟩ ?_
          refine AWP.reg (RT 4 ?_)
          refine AWP.seq (AWP.seq (KL [0, 1] ⟨[U6, U6, .ptr 0 0, .ptr 1 0, .ptr 2 0, (I6 0)] ++ UU 71, [⟨[(I6 n), .sl [(I6 n1), tl k1, (I6 n2), tl k2] 2 .any], 2, .fresh⟩, ⟨[(I6 m), .sl [(I6 m1), tl l1, (I6 m2), tl l2] 2 .any], 2, .fresh⟩, ⟨[(I6 0), .sl [] 0 .nil], 2, .fresh⟩]⟩ ?_))
          refine AWP.reg (PI 1 (2 ≤ 2 ∧ True) ⟨(by omega), trivial⟩ ?_)
          refine CD (c0) ?_
          refine DerQ.nil ?_
          refine KL [14] ⟨[U6, U6, .ptr 0 0, .ptr 1 0, .ptr 2 0, (I6 0)] ++ UU 9 ++ [(B6 false)] ++ UU 61, [⟨[(I6 n), .sl [(I6 n1), tl k1, (I6 n2), tl k2] 2 .any], 2, .fresh⟩, ⟨[(I6 m), .sl [(I6 m1), tl l1, (I6 m2), tl l2] 2 .any], 2, .fresh⟩, ⟨[(I6 0), .sl [] 0 .nil], 2, .fresh⟩]⟩ ?_
          refine CN false (fun h => nomatch h) (fun _ => ?_)
          refine AWP.skip (AWP.seq (SQ (RI (True ∧ 1 < 2 ∧ True ∧ True ∧ True) ⟨trivial, (by omega), trivial, trivial, trivial⟩ ?_)))
          refine KL [15, 21, 22, 23] ⟨[U6, U6, .ptr 0 0, .ptr 1 0, .ptr 2 0, (I6 0)] ++ UU 18 ++ [(B6 false)] ++ UU 52, [⟨[(I6 n), .sl [(I6 n1), tl k1, (I6 n2), tl k2] 2 .any], 2, .fresh⟩, ⟨[(I6 m), .sl [(I6 m1), tl l1, (I6 m2), tl l2] 2 .any], 2, .fresh⟩, ⟨[(I6 0), .sl [] 0 .nil], 2, .fresh⟩]⟩ ?_
          refine CN false (fun h => nomatch h) (fun _ => ?_)
          refine AWP.skip (SQ (RT 2 ?_))
          refine AWP.seq ?_
          refine AWP.fro [0, 1] ((dataAll [(I6 n), AVal.sl [(I6 n1), tl k1, (I6 n2), tl k2] 2 SlK.any] = true) ∧ ((dataAll [(I6 m), AVal.sl [(I6 m1), tl l1, (I6 m2), tl l2] 2 SlK.any] = true) ∧ (True))) ⟨[U6, U6, .dptr [(I6 n), .sl [(I6 n1), tl k1, (I6 n2), tl k2] 2 .any], .dptr [(I6 m), .sl [(I6 m1), tl l1, (I6 m2), tl l2] 2 .any], .ptr 2 0, (I6 0), U6, U6, .fn 127 [.dptr [(I6 n), .sl [(I6 n1), tl k1, (I6 n2), tl k2] 2 .any], .dptr [(I6 m), .sl [(I6 m1), tl l1, (I6 m2), tl l2] 2 .any]]] ++ UU 15 ++ [(B6 false)] ++ UU 13 ++ [.fn 127 [.dptr [(I6 n), .sl [(I6 n1), tl k1, (I6 n2), tl k2] 2 .any], .dptr [(I6 m), .sl [(I6 m1), tl l1, (I6 m2), tl l2] 2 .any]]] ++ UU 38, [⟨[(I6 n), .sl [(I6 n1), tl k1, (I6 n2), tl k2] 2 .any], 2, .frozen⟩, ⟨[(I6 m), .sl [(I6 m1), tl l1, (I6 m2), tl l2] 2 .any], 2, .frozen⟩, ⟨[(I6 0), .sl [] 0 .nil], 2, .fresh⟩]⟩ (by kernel_rfl) ⟨(by rfl), ⟨(by rfl), trivial⟩⟩ ?_
          refine AWP.reg (RT 2 ?_)
          refine AWP.seq (AWP.block (AWP.seq (KL [3, 24, 38, 39] ⟨[U6, U6, .dptr [(I6 n), .sl [(I6 n1), tl k1, (I6 n2), tl k2] 2 .any], U6, .ptr 2 0, (I6 0), U6, U6, .fn 127 [.dptr [(I6 n), .sl [(I6 n1), tl k1, (I6 n2), tl k2] 2 .any], .dptr [(I6 m), .sl [(I6 m1), tl l1, (I6 m2), tl l2] 2 .any]], .fn 128 [.dptr [(I6 n), .sl [(I6 n1), tl k1, (I6 n2), tl k2] 2 .any], .dptr [(I6 m), .sl [(I6 m1), tl l1, (I6 m2), tl l2] 2 .any]]] ++ UU 67, [⟨[(I6 n), .sl [(I6 n1), tl k1, (I6 n2), tl k2] 2 .any], 2, .frozen⟩, ⟨[(I6 m), .sl [(I6 m1), tl l1, (I6 m2), tl l2] 2 .any], 2, .frozen⟩, ⟨[(I6 0), .sl [] 0 .nil], 2, .fresh⟩]⟩ ?_)))
          refine AWP.reg (PI 4 (2 ≤ 2 ∧ 0 < 1 ∧ ((((0 : Int) ≤ (0 : Int)) ∧ ((0 : Int) < (2 : Int))) ∧ ((2 : Nat) ≤ (4 : Nat))) ∧ 2 ≤ 2 ∧ True) ⟨(by omega), (by omega), ⟨⟨(by omega), (by omega)⟩, (by omega)⟩, (by omega), trivial⟩ ?_)
          refine CD (q1) ?_
          refine RT 1 ?_
          refine KL (NN 41 5) ⟨[U6, U6, .dptr [(I6 n), .sl [(I6 n1), tl k1, (I6 n2), tl k2] 2 .any], U6, .ptr 2 0, (I6 0), U6, U6, .fn 127 [.dptr [(I6 n), .sl [(I6 n1), tl k1, (I6 n2), tl k2] 2 .any], .dptr [(I6 m), .sl [(I6 m1), tl l1, (I6 m2), tl l2] 2 .any]], .fn 128 [.dptr [(I6 n), .sl [(I6 n1), tl k1, (I6 n2), tl k2] 2 .any], .dptr [(I6 m), .sl [(I6 m1), tl l1, (I6 m2), tl l2] 2 .any]]] ++ UU 30 ++ [(B6 true)] ++ UU 36, [⟨[(I6 n), .sl [(I6 n1), tl k1, (I6 n2), tl k2] 2 .any], 2, .frozen⟩, ⟨[(I6 m), .sl [(I6 m1), tl l1, (I6 m2), tl l2] 2 .any], 2, .frozen⟩, ⟨[(I6 0), .sl [] 0 .nil], 2, .fresh⟩]⟩ ?_
          refine CN true (fun _ => ?_) (fun h => nomatch h)
          refine SQ (PT 1 1 ?_)
          refine CD (cr) ?_
          refine RI (True ∧ True ∧ 2 ≤ 2 ∧ True ∧ True) ⟨trivial, trivial, (by omega), trivial, trivial⟩ ?_
          refine AWP.ret ?_
          refine FI (.tup [.agg [.sc (.int .i64 (m)), .sl [.sc (.int .i64 (m1)), .sl (tcs l1) (List.length l1) .any, .sc (.int .i64 (T.n (growE (T.mk n2 k2) (T.mk m2 l2)).1)), .sl (tcs (T.ks (growE (T.mk n2 k2) (T.mk m2 l2)).1)) (List.length (T.ks (growE (T.mk n2 k2) (T.mk m2 l2)).1)) .any] 2 .any], .sc (.int .i64 ((growE (T.mk n2 k2) (T.mk m2 l2)).2 + 1))]) ?_
          refine Shrink.dataK [] (True) (.tup [.agg [.sc (.int .i64 (m)), .sl [.sc (.int .i64 (m1)), .sl (tcs l1) (List.length l1) .any, .sc (.int .i64 (T.n (growE (T.mk n2 k2) (T.mk m2 l2)).1)), .sl (tcs (T.ks (growE (T.mk n2 k2) (T.mk m2 l2)).1)) (List.length (T.ks (growE (T.mk n2 k2) (T.mk m2 l2)).1)) .any] 2 .any], .sc (.int .i64 ((growE (T.mk n2 k2) (T.mk m2 l2)).2 + 1))]) (by kernel_rfl) trivial ?_ rfl
          (exact gl _ (.mk m1 l1) _ _; done)
        · have q1 := dec_f (s_is n1 0 (tcs k1) k1.length) (by exact ha)
          by_cases hb1 : isT (.mk n2 k2) 0
          · have q2 := dec_t (s_is n2 0 (tcs k2) k2.length) (by exact hb1)
            replace i1 := i1 ha
            clear i2
            have cl := s_left n m n1 n2 m1 m2 k1 k2 l1 l2 _ (by omega) i1
            rw [grow_b ha hb1]
            refine EvD.body Try.func119 rfl rfl rfl ?_
            refine AWP.seq ?_
            refine TO ⟨[.agg [(I6 n), .sl [(I6 n1), tl k1, (I6 n2), tl k2] 2 .any], .agg [(I6 m), .sl [(I6 m1), tl l1, (I6 m2), tl l2] 2 .any]] ++ UU 75, []⟩ ?_
            refine AWP.reg (RT 4 ?_)
            refine AWP.seq (AWP.seq (KL [0, 1] ⟨[U6, U6, .ptr 0 0, .ptr 1 0, .ptr 2 0, (I6 0)] ++ UU 71, [⟨[(I6 n), .sl [(I6 n1), tl k1, (I6 n2), tl k2] 2 .any], 2, .fresh⟩, ⟨[(I6 m), .sl [(I6 m1), tl l1, (I6 m2), tl l2] 2 .any], 2, .fresh⟩, ⟨[(I6 0), .sl [] 0 .nil], 2, .fresh⟩]⟩ ?_))
            refine AWP.reg (PI 1 (2 ≤ 2 ∧ True) ⟨(by omega), trivial⟩ ?_)
            refine CD (c0) ?_
            refine DerQ.nil ?_
            refine KL [14] ⟨[U6, U6, .ptr 0 0, .ptr 1 0, .ptr 2 0, (I6 0)] ++ UU 9 ++ [(B6 false)] ++ UU 61, [⟨[(I6 n), .sl [(I6 n1), tl k1, (I6 n2), tl k2] 2 .any], 2, .fresh⟩, ⟨[(I6 m), .sl [(I6 m1), tl l1, (I6 m2), tl l2] 2 .any], 2, .fresh⟩, ⟨[(I6 0), .sl [] 0 .nil], 2, .fresh⟩]⟩ ?_
            refine CN false (fun h => nomatch h) (fun _ => ?_)
            refine AWP.skip (AWP.seq (SQ (RI (True ∧ 1 < 2 ∧ True ∧ True ∧ True) ⟨trivial, (by omega), trivial, trivial, trivial⟩ ?_)))
            refine KL [15, 21, 22, 23] ⟨[U6, U6, .ptr 0 0, .ptr 1 0, .ptr 2 0, (I6 0)] ++ UU 18 ++ [(B6 false)] ++ UU 52, [⟨[(I6 n), .sl [(I6 n1), tl k1, (I6 n2), tl k2] 2 .any], 2, .fresh⟩, ⟨[(I6 m), .sl [(I6 m1), tl l1, (I6 m2), tl l2] 2 .any], 2, .fresh⟩, ⟨[(I6 0), .sl [] 0 .nil], 2, .fresh⟩]⟩ ?_
            refine CN false (fun h => nomatch h) (fun _ => ?_)
            refine AWP.skip (SQ (RT 2 ?_))
            refine AWP.seq ?_
            refine AWP.fro [0, 1] ((dataAll [(I6 n), AVal.sl [(I6 n1), tl k1, (I6 n2), tl k2] 2 SlK.any] = true) ∧ ((dataAll [(I6 m), AVal.sl [(I6 m1), tl l1, (I6 m2), tl l2] 2 SlK.any] = true) ∧ (True))) ⟨[U6, U6, .dptr [(I6 n), .sl [(I6 n1), tl k1, (I6 n2), tl k2] 2 .any], .dptr [(I6 m), .sl [(I6 m1), tl l1, (I6 m2), tl l2] 2 .any], .ptr 2 0, (I6 0), U6, U6, .fn 127 [.dptr [(I6 n), .sl [(I6 n1), tl k1, (I6 n2), tl k2] 2 .any], .dptr [(I6 m), .sl [(I6 m1), tl l1, (I6 m2), tl l2] 2 .any]]] ++ UU 15 ++ [(B6 false)] ++ UU 13 ++ [.fn 127 [.dptr [(I6 n), .sl [(I6 n1), tl k1, (I6 n2), tl k2] 2 .any], .dptr [(I6 m), .sl [(I6 m1), tl l1, (I6 m2), tl l2] 2 .any]]] ++ UU 38, [⟨[(I6 n), .sl [(I6 n1), tl k1, (I6 n2), tl k2] 2 .any], 2, .frozen⟩, ⟨[(I6 m), .sl [(I6 m1), tl l1, (I6 m2), tl l2] 2 .any], 2, .frozen⟩, ⟨[(I6 0), .sl [] 0 .nil], 2, .fresh⟩]⟩ (by kernel_rfl) ⟨(by rfl), ⟨(by rfl), trivial⟩⟩ ?_
            refine AWP.reg (RT 2 ?_)
            refine AWP.seq (AWP.block (AWP.seq (KL [3, 24, 38, 39] ⟨[U6, U6, .dptr [(I6 n), .sl [(I6 n1), tl k1, (I6 n2), tl k2] 2 .any], U6, .ptr 2 0, (I6 0), U6, U6, .fn 127 [.dptr [(I6 n), .sl [(I6 n1), tl k1, (I6 n2), tl k2] 2 .any], .dptr [(I6 m), .sl [(I6 m1), tl l1, (I6 m2), tl l2] 2 .any]], .fn 128 [.dptr [(I6 n), .sl [(I6 n1), tl k1, (I6 n2), tl k2] 2 .any], .dptr [(I6 m), .sl [(I6 m1), tl l1, (I6 m2), tl l2] 2 .any]]] ++ UU 67, [⟨[(I6 n), .sl [(I6 n1), tl k1, (I6 n2), tl k2] 2 .any], 2, .frozen⟩, ⟨[(I6 m), .sl [(I6 m1), tl l1, (I6 m2), tl l2] 2 .any], 2, .frozen⟩, ⟨[(I6 0), .sl [] 0 .nil], 2, .fresh⟩]⟩ ?_)))
            refine AWP.reg (PI 4 (2 ≤ 2 ∧ 0 < 1 ∧ ((((0 : Int) ≤ (0 : Int)) ∧ ((0 : Int) < (2 : Int))) ∧ ((2 : Nat) ≤ (4 : Nat))) ∧ 2 ≤ 2 ∧ True) ⟨(by omega), (by omega), ⟨⟨(by omega), (by omega)⟩, (by omega)⟩, (by omega), trivial⟩ ?_)
            refine CD (q1) ?_
            refine RT 1 ?_
            refine KL (NN 41 5) ⟨[U6, U6, .dptr [(I6 n), .sl [(I6 n1), tl k1, (I6 n2), tl k2] 2 .any], U6, .ptr 2 0, (I6 0), U6, U6, .fn 127 [.dptr [(I6 n), .sl [(I6 n1), tl k1, (I6 n2), tl k2] 2 .any], .dptr [(I6 m), .sl [(I6 m1), tl l1, (I6 m2), tl l2] 2 .any]], .fn 128 [.dptr [(I6 n), .sl [(I6 n1), tl k1, (I6 n2), tl k2] 2 .any], .dptr [(I6 m), .sl [(I6 m1), tl l1, (I6 m2), tl l2] 2 .any]]] ++ UU 30 ++ [(B6 false)] ++ UU 36, [⟨[(I6 n), .sl [(I6 n1), tl k1, (I6 n2), tl k2] 2 .any], 2, .frozen⟩, ⟨[(I6 m), .sl [(I6 m1), tl l1, (I6 m2), tl l2] 2 .any], 2, .frozen⟩, ⟨[(I6 0), .sl [] 0 .nil], 2, .fresh⟩]⟩ ?_
            refine CN false (fun h => nomatch h) (fun _ => ?_)
            refine SQ (PI 4 (2 ≤ 2 ∧ 0 < 1 ∧ ((((0 : Int) ≤ (1 : Int)) ∧ ((1 : Int) < (2 : Int))) ∧ ((4 : Nat) ≤ (4 : Nat))) ∧ 2 ≤ 2 ∧ True) ⟨(by omega), (by omega), ⟨⟨(by omega), (by omega)⟩, (by omega)⟩, (by omega), trivial⟩ ?_)
            refine CD (q2) ?_
            refine RT 1 ?_
            refine KL ([2, 40] ++ NN 51 5) ⟨[U6, U6, U6, U6, .ptr 2 0, (I6 0), U6, U6, .fn 127 [.dptr [(I6 n), .sl [(I6 n1), tl k1, (I6 n2), tl k2] 2 .any], .dptr [(I6 m), .sl [(I6 m1), tl l1, (I6 m2), tl l2] 2 .any]], .fn 128 [.dptr [(I6 n), .sl [(I6 n1), tl k1, (I6 n2), tl k2] 2 .any], .dptr [(I6 m), .sl [(I6 m1), tl l1, (I6 m2), tl l2] 2 .any]]] ++ UU 40 ++ [(B6 true)] ++ UU 26, [⟨[(I6 n), .sl [(I6 n1), tl k1, (I6 n2), tl k2] 2 .any], 2, .frozen⟩, ⟨[(I6 m), .sl [(I6 m1), tl l1, (I6 m2), tl l2] 2 .any], 2, .frozen⟩, ⟨[(I6 0), .sl [] 0 .nil], 2, .fresh⟩]⟩ ?_
            refine CN true (fun _ => ?_) (fun h => nomatch h)
            refine SQ (PT 1 1 ?_)
            refine CD (cl) ?_
            refine RI (True ∧ True ∧ 2 ≤ 2 ∧ True ∧ True) ⟨trivial, trivial, (by omega), trivial, trivial⟩ ?_
            refine AWP.ret ?_
            refine FI (.tup [.agg [.sc (.int .i64 (m)), .sl [.sc (.int .i64 (T.n (growE (T.mk n1 k1) (T.mk m1 l1)).1)), .sl (tcs (T.ks (growE (T.mk n1 k1) (T.mk m1 l1)).1)) (List.length (T.ks (growE (T.mk n1 k1) (T.mk m1 l1)).1)) .any, .sc (.int .i64 (m2)), .sl (tcs l2) (List.length l2) .any] 2 .any], .sc (.int .i64 ((growE (T.mk n1 k1) (T.mk m1 l1)).2 + 1))]) ?_
            refine Shrink.dataK [] (True) (.tup [.agg [.sc (.int .i64 (m)), .sl [.sc (.int .i64 (T.n (growE (T.mk n1 k1) (T.mk m1 l1)).1)), .sl (tcs (T.ks (growE (T.mk n1 k1) (T.mk m1 l1)).1)) (List.length (T.ks (growE (T.mk n1 k1) (T.mk m1 l1)).1)) .any, .sc (.int .i64 (m2)), .sl (tcs l2) (List.length l2) .any] 2 .any], .sc (.int .i64 ((growE (T.mk n1 k1) (T.mk m1 l1)).2 + 1))]) (by kernel_rfl) trivial ?_ rfl
            (exact gl _ _ (.mk m2 l2) _; done)
          · have q2 := dec_f (s_is n2 0 (tcs k2) k2.length) (by exact hb1)
            replace i1 := i1 ha
            replace i2 := i2 hb1
            have cl := s_left n m n1 n2 m1 m2 k1 k2 l1 l2 _ (by omega) i1
            have cr := s_right n m n1 n2 m1 m2 k1 k2 l1 l2 _ (by omega) i2
            rw [grow_c ha hb1]
            refine EvD.body Try.func119 rfl rfl rfl ?_
            refine AWP.seq ?_
            refine TO ⟨[.agg [(I6 n), .sl [(I6 n1), tl k1, (I6 n2), tl k2] 2 .any], .agg [(I6 m), .sl [(I6 m1), tl l1, (I6 m2), tl l2] 2 .any]] ++ UU 75, []⟩ ?_
            refine AWP.reg (RT 4 ?_)
            refine AWP.seq (AWP.seq (KL [0, 1] ⟨[U6, U6, .ptr 0 0, .ptr 1 0, .ptr 2 0, (I6 0)] ++ UU 71, [⟨[(I6 n), .sl [(I6 n1), tl k1, (I6 n2), tl k2] 2 .any], 2, .fresh⟩, ⟨[(I6 m), .sl [(I6 m1), tl l1, (I6 m2), tl l2] 2 .any], 2, .fresh⟩, ⟨[(I6 0), .sl [] 0 .nil], 2, .fresh⟩]⟩ ?_))
            refine AWP.reg (PI 1 (2 ≤ 2 ∧ True) ⟨(by omega), trivial⟩ ?_)
            refine CD (c0) ?_
            refine DerQ.nil ?_
            refine KL [14] ⟨[U6, U6, .ptr 0 0, .ptr 1 0, .ptr 2 0, (I6 0)] ++ UU 9 ++ [(B6 false)] ++ UU 61, [⟨[(I6 n), .sl [(I6 n1), tl k1, (I6 n2), tl k2] 2 .any], 2, .fresh⟩, ⟨[(I6 m), .sl [(I6 m1), tl l1, (I6 m2), tl l2] 2 .any], 2, .fresh⟩, ⟨[(I6 0), .sl [] 0 .nil], 2, .fresh⟩]⟩ ?_
            refine CN false (fun h => nomatch h) (fun _ => ?_)
            refine AWP.skip (AWP.seq (SQ (RI (True ∧ 1 < 2 ∧ True ∧ True ∧ True) ⟨trivial, (by omega), trivial, trivial, trivial⟩ ?_)))
            refine KL [15, 21, 22, 23] ⟨[U6, U6, .ptr 0 0, .ptr 1 0, .ptr 2 0, (I6 0)] ++ UU 18 ++ [(B6 false)] ++ UU 52, [⟨[(I6 n), .sl [(I6 n1), tl k1, (I6 n2), tl k2] 2 .any], 2, .fresh⟩, ⟨[(I6 m), .sl [(I6 m1), tl l1, (I6 m2), tl l2] 2 .any], 2, .fresh⟩, ⟨[(I6 0), .sl [] 0 .nil], 2, .fresh⟩]⟩ ?_
            refine CN false (fun h => nomatch h) (fun _ => ?_)
            refine AWP.skip (SQ (RT 2 ?_))
            refine AWP.seq ?_
            refine AWP.fro [0, 1] ((dataAll [(I6 n), AVal.sl [(I6 n1), tl k1, (I6 n2), tl k2] 2 SlK.any] = true) ∧ ((dataAll [(I6 m), AVal.sl [(I6 m1), tl l1, (I6 m2), tl l2] 2 SlK.any] = true) ∧ (True))) ⟨[U6, U6, .dptr [(I6 n), .sl [(I6 n1), tl k1, (I6 n2), tl k2] 2 .any], .dptr [(I6 m), .sl [(I6 m1), tl l1, (I6 m2), tl l2] 2 .any], .ptr 2 0, (I6 0), U6, U6, .fn 127 [.dptr [(I6 n), .sl [(I6 n1), tl k1, (I6 n2), tl k2] 2 .any], .dptr [(I6 m), .sl [(I6 m1), tl l1, (I6 m2), tl l2] 2 .any]]] ++ UU 15 ++ [(B6 false)] ++ UU 13 ++ [.fn 127 [.dptr [(I6 n), .sl [(I6 n1), tl k1, (I6 n2), tl k2] 2 .any], .dptr [(I6 m), .sl [(I6 m1), tl l1, (I6 m2), tl l2] 2 .any]]] ++ UU 38, [⟨[(I6 n), .sl [(I6 n1), tl k1, (I6 n2), tl k2] 2 .any], 2, .frozen⟩, ⟨[(I6 m), .sl [(I6 m1), tl l1, (I6 m2), tl l2] 2 .any], 2, .frozen⟩, ⟨[(I6 0), .sl [] 0 .nil], 2, .fresh⟩]⟩ (by kernel_rfl) ⟨(by rfl), ⟨(by rfl), trivial⟩⟩ ?_
            refine AWP.reg (RT 2 ?_)
            refine AWP.seq (AWP.block (AWP.seq (KL [3, 24, 38, 39] ⟨[U6, U6, .dptr [(I6 n), .sl [(I6 n1), tl k1, (I6 n2), tl k2] 2 .any], U6, .ptr 2 0, (I6 0), U6, U6, .fn 127 [.dptr [(I6 n), .sl [(I6 n1), tl k1, (I6 n2), tl k2] 2 .any], .dptr [(I6 m), .sl [(I6 m1), tl l1, (I6 m2), tl l2] 2 .any]], .fn 128 [.dptr [(I6 n), .sl [(I6 n1), tl k1, (I6 n2), tl k2] 2 .any], .dptr [(I6 m), .sl [(I6 m1), tl l1, (I6 m2), tl l2] 2 .any]]] ++ UU 67, [⟨[(I6 n), .sl [(I6 n1), tl k1, (I6 n2), tl k2] 2 .any], 2, .frozen⟩, ⟨[(I6 m), .sl [(I6 m1), tl l1, (I6 m2), tl l2] 2 .any], 2, .frozen⟩, ⟨[(I6 0), .sl [] 0 .nil], 2, .fresh⟩]⟩ ?_)))
            refine AWP.reg (PI 4 (2 ≤ 2 ∧ 0 < 1 ∧ ((((0 : Int) ≤ (0 : Int)) ∧ ((0 : Int) < (2 : Int))) ∧ ((2 : Nat) ≤ (4 : Nat))) ∧ 2 ≤ 2 ∧ True) ⟨(by omega), (by omega), ⟨⟨(by omega), (by omega)⟩, (by omega)⟩, (by omega), trivial⟩ ?_)
            refine CD (q1) ?_
            refine RT 1 ?_
            refine KL (NN 41 5) ⟨[U6, U6, .dptr [(I6 n), .sl [(I6 n1), tl k1, (I6 n2), tl k2] 2 .any], U6, .ptr 2 0, (I6 0), U6, U6, .fn 127 [.dptr [(I6 n), .sl [(I6 n1), tl k1, (I6 n2), tl k2] 2 .any], .dptr [(I6 m), .sl [(I6 m1), tl l1, (I6 m2), tl l2] 2 .any]], .fn 128 [.dptr [(I6 n), .sl [(I6 n1), tl k1, (I6 n2), tl k2] 2 .any], .dptr [(I6 m), .sl [(I6 m1), tl l1, (I6 m2), tl l2] 2 .any]]] ++ UU 30 ++ [(B6 false)] ++ UU 36, [⟨[(I6 n), .sl [(I6 n1), tl k1, (I6 n2), tl k2] 2 .any], 2, .frozen⟩, ⟨[(I6 m), .sl [(I6 m1), tl l1, (I6 m2), tl l2] 2 .any], 2, .frozen⟩, ⟨[(I6 0), .sl [] 0 .nil], 2, .fresh⟩]⟩ ?_
            refine CN false (fun h => nomatch h) (fun _ => ?_)
            refine SQ (PI 4 (2 ≤ 2 ∧ 0 < 1 ∧ ((((0 : Int) ≤ (1 : Int)) ∧ ((1 : Int) < (2 : Int))) ∧ ((4 : Nat) ≤ (4 : Nat))) ∧ 2 ≤ 2 ∧ True) ⟨(by omega), (by omega), ⟨⟨(by omega), (by omega)⟩, (by omega)⟩, (by omega), trivial⟩ ?_)
            refine CD (q2) ?_
            refine RT 1 ?_
            refine KL ([2, 40] ++ NN 51 5) ⟨[U6, U6, U6, U6, .ptr 2 0, (I6 0), U6, U6, .fn 127 [.dptr [(I6 n), .sl [(I6 n1), tl k1, (I6 n2), tl k2] 2 .any], .dptr [(I6 m), .sl [(I6 m1), tl l1, (I6 m2), tl l2] 2 .any]], .fn 128 [.dptr [(I6 n), .sl [(I6 n1), tl k1, (I6 n2), tl k2] 2 .any], .dptr [(I6 m), .sl [(I6 m1), tl l1, (I6 m2), tl l2] 2 .any]]] ++ UU 40 ++ [(B6 false)] ++ UU 26, [⟨[(I6 n), .sl [(I6 n1), tl k1, (I6 n2), tl k2] 2 .any], 2, .frozen⟩, ⟨[(I6 m), .sl [(I6 m1), tl l1, (I6 m2), tl l2] 2 .any], 2, .frozen⟩, ⟨[(I6 0), .sl [] 0 .nil], 2, .fresh⟩]⟩ ?_
            refine CN false (fun h => nomatch h) (fun _ => ?_)
            refine AWP.skip (SQ (PT 1 1 ?_))
            refine CD (cl) ?_
            refine RI (True ∧ True ∧ True ∧ True ∧ 2 ≤ 2 ∧ True ∧ True) ⟨trivial, trivial, trivial, trivial, (by omega), trivial, trivial⟩ ?_
            refine AWP.seq (KL ([8, 50] ++ NN 60 5) ⟨[U6, U6, U6, U6, .ptr 2 0, (I6 0), U6, U6, U6, .fn 128 [.dptr [(I6 n), .sl [(I6 n1), tl k1, (I6 n2), tl k2] 2 .any], .dptr [(I6 m), .sl [(I6 m1), tl l1, (I6 m2), tl l2] 2 .any]], .ptr 3 0, (I6 ((growE (T.mk n1 k1) (T.mk m1 l1)).2 + 1))] ++ UU 65, [⟨[(I6 n), .sl [(I6 n1), tl k1, (I6 n2), tl k2] 2 .any], 2, .frozen⟩, ⟨[(I6 m), .sl [(I6 m1), tl l1, (I6 m2), tl l2] 2 .any], 2, .frozen⟩, ⟨[(I6 0), .sl [] 0 .nil], 2, .fresh⟩, ⟨[(I6 m), .sl [(I6 (T.n (growE (T.mk n1 k1) (T.mk m1 l1)).1)), tl (T.ks (growE (T.mk n1 k1) (T.mk m1 l1)).1), (I6 m2), tl l2] 2 .any], 2, .fresh⟩]⟩ ?_)
            refine AWP.reg (PT 1 1 ?_)
            refine CD (cr) ?_
            refine RI (True ∧ True ∧ True ∧ True ∧ 2 ≤ 2 ∧ True ∧ True) ⟨trivial, trivial, trivial, trivial, (by omega), trivial, trivial⟩ ?_
            refine AWP.seq (AWP.seq (KL ([9] ++ NN 65 5) ⟨[U6, U6, U6, U6, .ptr 2 0, (I6 0), U6, U6, U6, U6, .ptr 3 0, (I6 ((growE (T.mk n1 k1) (T.mk m1 l1)).2 + 1)), .ptr 4 0, (I6 ((growE (T.mk n2 k2) (T.mk m2 l2)).2 + 1))] ++ UU 63, [⟨[(I6 n), .sl [(I6 n1), tl k1, (I6 n2), tl k2] 2 .any], 2, .frozen⟩, ⟨[(I6 m), .sl [(I6 m1), tl l1, (I6 m2), tl l2] 2 .any], 2, .frozen⟩, ⟨[(I6 0), .sl [] 0 .nil], 2, .fresh⟩, ⟨[(I6 m), .sl [(I6 (T.n (growE (T.mk n1 k1) (T.mk m1 l1)).1)), tl (T.ks (growE (T.mk n1 k1) (T.mk m1 l1)).1), (I6 m2), tl l2] 2 .any], 2, .fresh⟩, ⟨[(I6 m), .sl [(I6 m1), tl l1, (I6 (T.n (growE (T.mk n2 k2) (T.mk m2 l2)).1)), tl (T.ks (growE (T.mk n2 k2) (T.mk m2 l2)).1)] 2 .any], 2, .fresh⟩]⟩ ?_))
            refine AWP.reg (RT 3 ?_)
            refine KL [70, 71] ⟨[U6, U6, U6, U6, .ptr 2 0, (I6 0), U6, U6, U6, U6, .ptr 3 0, (I6 ((growE (T.mk n1 k1) (T.mk m1 l1)).2 + 1)), .ptr 4 0, (I6 ((growE (T.mk n2 k2) (T.mk m2 l2)).2 + 1))] ++ UU 58 ++ [(B6 (decide ((growE (T.mk n1 k1) (T.mk m1 l1)).2 + 1 < (growE (T.mk n2 k2) (T.mk m2 l2)).2 + 1))), U6, U6, U6, .undef], [⟨[(I6 n), .sl [(I6 n1), tl k1, (I6 n2), tl k2] 2 .any], 2, .frozen⟩, ⟨[(I6 m), .sl [(I6 m1), tl l1, (I6 m2), tl l2] 2 .any], 2, .frozen⟩, ⟨[(I6 0), .sl [] 0 .nil], 2, .fresh⟩, ⟨[(I6 m), .sl [(I6 (T.n (growE (T.mk n1 k1) (T.mk m1 l1)).1)), tl (T.ks (growE (T.mk n1 k1) (T.mk m1 l1)).1), (I6 m2), tl l2] 2 .any], 2, .fresh⟩, ⟨[(I6 m), .sl [(I6 m1), tl l1, (I6 (T.n (growE (T.mk n2 k2) (T.mk m2 l2)).1)), tl (T.ks (growE (T.mk n2 k2) (T.mk m2 l2)).1)] 2 .any], 2, .fresh⟩]⟩ ?_
            refine CN (decide ((growE (T.mk n1 k1) (T.mk m1 l1)).2 + 1 < (growE (T.mk n2 k2) (T.mk m2 l2)).2 + 1)) (fun h1 => ?_) (fun h1 => ?_)
            · have h1' := of_decide_eq_true h1
              refine SQ (RI (2 ≤ 2 ∧ True ∧ 2 ≤ 2 ∧ True ∧ True) ⟨(by omega), trivial, (by omega), trivial, trivial⟩ ?_)
              refine AWP.ret ?_
              refine FI (.tup [.agg [.sc (.int .i64 (m)), .sl [.sc (.int .i64 (T.n (growE (T.mk n1 k1) (T.mk m1 l1)).1)), .sl (tcs (T.ks (growE (T.mk n1 k1) (T.mk m1 l1)).1)) (List.length (T.ks (growE (T.mk n1 k1) (T.mk m1 l1)).1)) .any, .sc (.int .i64 (m2)), .sl (tcs l2) (List.length l2) .any] 2 .any], .sc (.int .i64 ((growE (T.mk n1 k1) (T.mk m1 l1)).2 + 1))]) ?_
              refine Shrink.dataK [] (True) (.tup [.agg [.sc (.int .i64 (m)), .sl [.sc (.int .i64 (T.n (growE (T.mk n1 k1) (T.mk m1 l1)).1)), .sl (tcs (T.ks (growE (T.mk n1 k1) (T.mk m1 l1)).1)) (List.length (T.ks (growE (T.mk n1 k1) (T.mk m1 l1)).1)) .any, .sc (.int .i64 (m2)), .sl (tcs l2) (List.length l2) .any] 2 .any], .sc (.int .i64 ((growE (T.mk n1 k1) (T.mk m1 l1)).2 + 1))]) (by kernel_rfl) trivial ?_ rfl
              (rw [if_pos (by omega)]; exact gl _ _ (.mk m2 l2) _; done)
            · have h1' := of_decide_eq_false h1
              refine AWP.skip (SQ (RI (2 ≤ 2 ∧ True ∧ 2 ≤ 2 ∧ True ∧ True) ⟨(by omega), trivial, (by omega), trivial, trivial⟩ ?_))
              refine AWP.ret ?_
              refine FI (.tup [.agg [.sc (.int .i64 (m)), .sl [.sc (.int .i64 (m1)), .sl (tcs l1) (List.length l1) .any, .sc (.int .i64 (T.n (growE (T.mk n2 k2) (T.mk m2 l2)).1)), .sl (tcs (T.ks (growE (T.mk n2 k2) (T.mk m2 l2)).1)) (List.length (T.ks (growE (T.mk n2 k2) (T.mk m2 l2)).1)) .any] 2 .any], .sc (.int .i64 ((growE (T.mk n2 k2) (T.mk m2 l2)).2 + 1))]) ?_
              refine Shrink.dataK [] (True) (.tup [.agg [.sc (.int .i64 (m)), .sl [.sc (.int .i64 (m1)), .sl (tcs l1) (List.length l1) .any, .sc (.int .i64 (T.n (growE (T.mk n2 k2) (T.mk m2 l2)).1)), .sl (tcs (T.ks (growE (T.mk n2 k2) (T.mk m2 l2)).1)) (List.length (T.ks (growE (T.mk n2 k2) (T.mk m2 l2)).1)) .any] 2 .any], .sc (.int .i64 ((growE (T.mk n2 k2) (T.mk m2 l2)).2 + 1))]) (by kernel_rfl) trivial ?_ rfl
              (rw [if_neg (by omega)]; exact gl _ (.mk m1 l1) _ _; done)
      rcases bin_case (roughE_bin _ _ _ hr) with rfl | ⟨m1, l1, m2, l2, rfl⟩
      · have lf : roughE (d - 1) (l - m) (.mk 0 []) = true := by simp only [roughE, decide_eq_true_eq]; omega
        have k0 := key 0 0 [] [] lf lf
        have zc := grow_cost (.mk n [.mk n1 k1, .mk n2 k2]) (.mk m [.mk 0 [], .mk 0 []])
        simp only [size, sizes] at zc
        rw [tcs0] at k0
        clear key
        rw [grow_e, tcs2]
        refine EvD.body Try.func119 rfl rfl rfl ?_
        refine AWP.seq ?_
        refine TO ⟨[.agg [(I6 n), .sl [(I6 n1), tl k1, (I6 n2), tl k2] 2 .any], .agg [(I6 m), .sl [] 0 .any]] ++ UU 75, []⟩ ?_
        refine AWP.reg (RT 4 ?_)
        refine AWP.seq (AWP.seq (KL [0, 1] ⟨[U6, U6, .ptr 0 0, .ptr 1 0, .ptr 2 0, (I6 0)] ++ UU 71, [⟨[(I6 n), .sl [(I6 n1), tl k1, (I6 n2), tl k2] 2 .any], 2, .fresh⟩, ⟨[(I6 m), .sl [] 0 .any], 2, .fresh⟩, ⟨[(I6 0), .sl [] 0 .nil], 2, .fresh⟩]⟩ ?_))
        refine AWP.reg (PI 1 (2 ≤ 2 ∧ True) ⟨(by omega), trivial⟩ ?_)
        refine CD (c0) ?_
        refine DerQ.nil ?_
        refine KL [14] ⟨[U6, U6, .ptr 0 0, .ptr 1 0, .ptr 2 0, (I6 0)] ++ UU 9 ++ [(B6 false)] ++ UU 61, [⟨[(I6 n), .sl [(I6 n1), tl k1, (I6 n2), tl k2] 2 .any], 2, .fresh⟩, ⟨[(I6 m), .sl [] 0 .any], 2, .fresh⟩, ⟨[(I6 0), .sl [] 0 .nil], 2, .fresh⟩]⟩ ?_
        refine CN false (fun h => nomatch h) (fun _ => ?_)
        refine AWP.skip (AWP.seq (SQ (RI (True ∧ 1 < 2 ∧ True ∧ True ∧ True) ⟨trivial, (by omega), trivial, trivial, trivial⟩ ?_)))
        refine KL [15, 21, 22, 23] ⟨[U6, U6, .ptr 0 0, .ptr 1 0, .ptr 2 0, (I6 0)] ++ UU 18 ++ [(B6 true)] ++ UU 52, [⟨[(I6 n), .sl [(I6 n1), tl k1, (I6 n2), tl k2] 2 .any], 2, .fresh⟩, ⟨[(I6 m), .sl [] 0 .any], 2, .fresh⟩, ⟨[(I6 0), .sl [] 0 .nil], 2, .fresh⟩]⟩ ?_
        refine CN true (fun _ => ?_) (fun h => nomatch h)
        refine AWP.seq ?_
        refine AWP.drawX mixed (fun o => [6, 0].contains (o.dst.getD 0)) (by kernel_rfl) ?_
        refine DerX.preI 5 (((2 : Nat) ≤ (2 : Nat)) ∧ ((True) ∧ (((0 : Nat) < (2 : Nat)) ∧ ((True) ∧ ((True) ∧ (True)))))) (by intro ext; kernel_rfl) ⟨(by omega), ⟨trivial, ⟨(by omega), ⟨trivial, ⟨trivial, trivial⟩⟩⟩⟩⟩ ?_
        refine DerX.callEI (s_inner m ((0 : Int)) ((0 : Int)) [] [] ((0 : Nat)) ((0 : Nat))) ⟨by kernel_rfl, by kernel_rfl⟩ ?_
        refine DerX.callDI (k0) ⟨by kernel_rfl, by kernel_rfl⟩ ?_
        refine DerX.preI 3 ((True) ∧ ((True) ∧ ((True) ∧ (True)))) (by intro ext; kernel_rfl) ⟨trivial, ⟨trivial, ⟨trivial, trivial⟩⟩⟩ ?_
        refine DerX.effI (True) (by kernel_rfl) ⟨by kernel_rfl, by kernel_rfl, by kernel_rfl⟩ trivial ?_
        refine DerX.effI ((2 : Nat) ≤ (2 : Nat)) (by kernel_rfl) ⟨by kernel_rfl, by kernel_rfl, by kernel_rfl⟩ (by omega) ?_
        refine DerX.quietI (True) (by intro ext; kernel_rfl) (by kernel_rfl) trivial ?_
        refine DerX.nil ?_
        refine AWP.seq (KL (NN 24 11) ⟨[U6, U6, .ptr 0 0, .ptr 1 0, .ptr 2 0, (I6 0), .ptr 3 0, (I6 ((growE (T.mk n [T.mk n1 k1, T.mk n2 k2]) (T.mk m [T.mk 0 [], T.mk 0 []])).2))] ++ UU 69, [⟨[(I6 n), .sl [(I6 n1), tl k1, (I6 n2), tl k2] 2 .any], 2, .fresh⟩, ⟨[(I6 m), .sl [] 0 .any], 2, .fresh⟩, ⟨[(I6 0), .sl [] 0 .nil], 2, .fresh⟩, ⟨[(I6 (T.n (growE (T.mk n [T.mk n1 k1, T.mk n2 k2]) (T.mk m [T.mk 0 [], T.mk 0 []])).1)), tl (T.ks (growE (T.mk n [T.mk n1 k1, T.mk n2 k2]) (T.mk m [T.mk 0 [], T.mk 0 []])).1)], 2, .fresh⟩]⟩ ?_)
        refine AWP.reg (RI (2 ≤ 2 ∧ True ∧ True ∧ 2 ≤ 2 ∧ True ∧ True) ⟨(by omega), trivial, trivial, (by omega), trivial, trivial⟩ ?_)
        refine AWP.ret ?_
        refine FI (.tup [.agg [.sc (.int .i64 (T.n (growE (T.mk n [T.mk n1 k1, T.mk n2 k2]) (T.mk m [T.mk 0 [], T.mk 0 []])).1)), .sl (tcs (T.ks (growE (T.mk n [T.mk n1 k1, T.mk n2 k2]) (T.mk m [T.mk 0 [], T.mk 0 []])).1)) (List.length (T.ks (growE (T.mk n [T.mk n1 k1, T.mk n2 k2]) (T.mk m [T.mk 0 [], T.mk 0 []])).1)) .any], .sc (.int .i64 (IntKind.wrap IntKind.i64 ((growE (T.mk n [T.mk n1 k1, T.mk n2 k2]) (T.mk m [T.mk 0 [], T.mk 0 []])).2 + 1000)))]) ?_
        refine Shrink.dataK [] (True) (.tup [.agg [.sc (.int .i64 (T.n (growE (T.mk n [T.mk n1 k1, T.mk n2 k2]) (T.mk m [T.mk 0 [], T.mk 0 []])).1)), .sl (tcs (T.ks (growE (T.mk n [T.mk n1 k1, T.mk n2 k2]) (T.mk m [T.mk 0 [], T.mk 0 []])).1)) (List.length (T.ks (growE (T.mk n [T.mk n1 k1, T.mk n2 k2]) (T.mk m [T.mk 0 [], T.mk 0 []])).1)) .any], .sc (.int .i64 (IntKind.wrap IntKind.i64 ((growE (T.mk n [T.mk n1 k1, T.mk n2 k2]) (T.mk m [T.mk 0 [], T.mk 0 []])).2 + 1000)))]) (by kernel_rfl) trivial ?_ rfl
        (rw [IntWalk.i64_in _ (by omega)]; rfl; done)
      · obtain ⟨g1, g2, g3, g4, g5⟩ := roughE_kids hr
        rw [tcs2, tcs2]
        exact key m1 m2 l1 l2 g4 g5
end Go.Tr
