/- Walks and laws. -/
import Derived.Test.YtgpikfncinkjlaaId1
import Derived.Test.YtgpikfncinkjlaaLibB
set_option maxRecDepth 100000
set_option maxHeartbeats 0
set_option linter.unusedSimpArgs false
set_option linter.unusedVariables false
namespace Go.Tr
open Go Go.Abs Go.Proofs
theorem norm (N : Nat) : ∀ (n : Int) (ks : List T), size (.mk n ks) ≤ N → binT (.mk n ks) = true → EvD Try.prog 84 [.agg [.sc (.int .i64 n), .sl (tcs ks) ks.length .any]] (ag (normI (.mk n ks))) := by
  induction N with
  | zero => intro n ks h; rw [size] at h; omega
  | succ N ih =>
    intro n ks hN hb
    rcases bin_case hb with rfl | ⟨n1, k1, n2, k2, rfl⟩
    · refine EvD.body Try.func84 rfl rfl rfl ?_
      refine AWP.seq ?_
      refine TO ⟨[.agg [(I6 n), .sl [] 0 .any]] ++ UU 20, []⟩ ?_
      refine AWP.reg (RT 2 ?_)
      refine AWP.seq (AWP.seq (KL [0] ⟨[U6, .ptr 0 0, .ptr 1 0] ++ UU 18, [⟨[(I6 n), .sl [] 0 .any], 2, .fresh⟩, ⟨[(I6 0), .sl [] 0 .nil], 2, .fresh⟩]⟩ ?_))
      refine AWP.reg (RI (True ∧ 1 < 2 ∧ True ∧ True ∧ True) ⟨trivial, (by omega), trivial, trivial, trivial⟩ ?_)
      refine KL [3, 4, 5] ⟨[U6, .ptr 0 0, .ptr 1 0, U6, U6, U6, (B6 true)] ++ UU 14, [⟨[(I6 n), .sl [] 0 .any], 2, .fresh⟩, ⟨[(I6 0), .sl [] 0 .nil], 2, .fresh⟩]⟩ ?_
      refine CN true (fun _ => ?_) (fun h => nomatch h)
      refine SQ (PI 2 (True ∧ 0 < 2 ∧ True) ⟨trivial, (by omega), trivial⟩ ?_)
      refine CD (leaf n) ?_
      refine RI (2 ≤ 2 ∧ True) ⟨(by omega), trivial⟩ ?_
      refine AWP.ret FA
    · have hb' := bin_kids hb
      simp only [size, sizes] at hN
      rw [tcs2]
      refine EvD.body Try.func84 rfl rfl rfl ?_
      refine AWP.seq ?_
      refine TO ⟨[.agg [(I6 n), .sl [(I6 n1), tl k1, (I6 n2), tl k2] 2 .any]] ++ UU 20, []⟩ ?_
      refine AWP.reg (RT 2 ?_)
      refine AWP.seq (AWP.seq (KL [0] ⟨[U6, .ptr 0 0, .ptr 1 0] ++ UU 18, [⟨[(I6 n), .sl [(I6 n1), tl k1, (I6 n2), tl k2] 2 .any], 2, .fresh⟩, ⟨[(I6 0), .sl [] 0 .nil], 2, .fresh⟩]⟩ ?_))
      refine AWP.reg (RI (True ∧ 1 < 2 ∧ True ∧ True ∧ True) ⟨trivial, (by omega), trivial, trivial, trivial⟩ ?_)
      refine KL [3, 4, 5] ⟨[U6, .ptr 0 0, .ptr 1 0, U6, U6, U6, (B6 false)] ++ UU 14, [⟨[(I6 n), .sl [(I6 n1), tl k1, (I6 n2), tl k2] 2 .any], 2, .fresh⟩, ⟨[(I6 0), .sl [] 0 .nil], 2, .fresh⟩]⟩ ?_
      refine CN false (fun h => nomatch h) (fun _ => ?_)
      refine AWP.skip (AWP.seq ?_)
      refine AWP.drawB mixed (fun o => if [].contains (o.dst.getD 0) then 1 else if [].contains (o.dst.getD 0) then 2 else if [0, 14, 19, 20].contains (o.dst.getD 0) then 3 else 0) 0 2 (fun x => [⟨[(I6 n), .sl [(I6 n1), tl k1, (I6 n2), tl k2] 2 .any], 2, .fresh⟩, ⟨x 1, 2, .fresh⟩]) ⟨[U6, .ptr 0 0, .ptr 1 0, U6, U6, U6, (B6 false)] ++ UU 14, [⟨[(I6 n), .sl [(I6 n1), tl k1, (I6 n2), tl k2] 2 .any], 2, .fresh⟩, ⟨[(I6 0), .sl [] 0 .nil], 2, .fresh⟩]⟩ (by kernel_rfl) ⟨by kernel_rfl, by kernel_rfl⟩ (by kernel_rfl) ?_
      refine DerZ.preI 4 ((True) ∧ (((1 : Nat) < (2 : Nat)) ∧ (((((0 : Int) ≤ (0 : Int)) ∧ ((0 : Int) < (2 : Int))) ∧ ((2 : Nat) ≤ (4 : Nat))) ∧ (((2 : Nat) ≤ (2 : Nat)) ∧ (True))))) (by intro x ext; kernel_rfl) ⟨trivial, ⟨(by omega), ⟨⟨⟨(by omega), (by omega)⟩, (by omega)⟩, ⟨(by omega), trivial⟩⟩⟩⟩ ?_
      refine DerZ.callDI (ih n1 k1 (by (rw [size]; omega)) (by (exact hb'.1))) ⟨by kernel_rfl, by kernel_rfl⟩ ?_
      refine DerZ.preI 4 ((True) ∧ (((1 : Nat) < (2 : Nat)) ∧ (((((0 : Int) ≤ (1 : Int)) ∧ ((1 : Int) < (2 : Int))) ∧ ((4 : Nat) ≤ (4 : Nat))) ∧ (((2 : Nat) ≤ (2 : Nat)) ∧ (True))))) (by intro x ext; kernel_rfl) ⟨trivial, ⟨(by omega), ⟨⟨⟨(by omega), (by omega)⟩, (by omega)⟩, ⟨(by omega), trivial⟩⟩⟩⟩ ?_
      refine DerZ.callDI (ih n2 k2 (by (rw [size]; omega)) (by (exact hb'.2))) ⟨by kernel_rfl, by kernel_rfl⟩ ?_
      refine DerZ.callD (short (T.n (normI (T.mk n1 k1))) (T.n (normI (T.mk n2 k2))) (T.ks (normI (T.mk n1 k1))) (T.ks (normI (T.mk n2 k2)))) ⟨[U6, .ptr 0 0, .ptr 1 0, U6, U6, U6, (B6 false), U6, U6, U6, .ptr 0 1, .sl [(I6 n1), tl k1, (I6 n2), tl k2] 2 .any, .dptr [(I6 n1), tl k1], .agg [(I6 n1), tl k1], .agg [(I6 (T.n (normI (T.mk n1 k1)))), tl (T.ks (normI (T.mk n1 k1)))], .ptr 0 1, .sl [(I6 n1), tl k1, (I6 n2), tl k2] 2 .any, .dptr [(I6 n2), tl k2], .agg [(I6 n2), tl k2], .agg [(I6 (T.n (normI (T.mk n2 k2)))), tl (T.ks (normI (T.mk n2 k2)))], .agg [(I6 (T.n (shortI (T.mk (T.n (normI (T.mk n1 k1))) (T.ks (normI (T.mk n1 k1)))) (T.mk (T.n (normI (T.mk n2 k2))) (T.ks (normI (T.mk n2 k2))))))), .sl (tcs (T.ks (shortI (T.mk (T.n (normI (T.mk n1 k1))) (T.ks (normI (T.mk n1 k1)))) (T.mk (T.n (normI (T.mk n2 k2))) (T.ks (normI (T.mk n2 k2))))))) (List.length (T.ks (shortI (T.mk (T.n (normI (T.mk n1 k1))) (T.ks (normI (T.mk n1 k1)))) (T.mk (T.n (normI (T.mk n2 k2))) (T.ks (normI (T.mk n2 k2))))))) .any]], [⟨[(I6 n), .sl [(I6 n1), tl k1, (I6 n2), tl k2] 2 .any], 2, .fresh⟩, ⟨[(I6 0), .sl [] 0 .nil], 2, .fresh⟩]⟩ ⟨by kernel_rfl, by kernel_rfl, by kernel_rfl⟩ ?_
      rw [Go.Tr.T.mk_eta (normI (T.mk n1 k1))]
      rw [Go.Tr.T.mk_eta (normI (T.mk n2 k2))]
      refine DerZ.effI 2 ((2 : Nat) ≤ (2 : Nat)) (by kernel_rfl) ⟨⟨by kernel_rfl, by kernel_rfl⟩, by kernel_rfl⟩ (by omega) ?_
      refine DerZ.nil ?_
      refine AWP.ret FA
theorem r_norm (N : Nat) : ∀ (n : Int) (ks : List T), size (.mk n ks) ≤ N → binT (.mk n ks) = true → EvD Try.prog 86 [.agg [.sc (.int .i64 n), .sl (tcs ks) ks.length .any]] (ag (normI (.mk n ks))) := by
  induction N with
  | zero => intro n ks h; rw [size] at h; omega
  | succ N ih =>
    intro n ks hN hb
    rcases bin_case hb with rfl | ⟨n1, k1, n2, k2, rfl⟩
    · refine EvD.body Try.func86 rfl rfl rfl ?_
      refine AWP.seq ?_
      refine TO ⟨[.agg [(I6 n), .sl [] 0 .any]] ++ UU 35, []⟩ ?_
      refine AWP.reg (RT 2 ?_)
      refine AWP.seq (AWP.seq (KL [0] ⟨[U6, .ptr 0 0, .ptr 1 0] ++ UU 33, [⟨[(I6 n), .sl [] 0 .any], 2, .fresh⟩, ⟨[(I6 0), .sl [] 0 .nil], 2, .fresh⟩]⟩ ?_))
      refine AWP.reg (RI (True ∧ 1 < 2 ∧ True ∧ True ∧ True) ⟨trivial, (by omega), trivial, trivial, trivial⟩ ?_)
      refine KL [5, 6, 7] ⟨[U6, .ptr 0 0, .ptr 1 0] ++ UU 5 ++ [(B6 true)] ++ UU 27, [⟨[(I6 n), .sl [] 0 .any], 2, .fresh⟩, ⟨[(I6 0), .sl [] 0 .nil], 2, .fresh⟩]⟩ ?_
      refine CN true (fun _ => ?_) (fun h => nomatch h)
      refine SQ (PI 2 (True ∧ 0 < 2 ∧ True) ⟨trivial, (by omega), trivial⟩ ?_)
      refine CD (r_leaf n) ?_
      refine RI (2 ≤ 2 ∧ True) ⟨(by omega), trivial⟩ ?_
      refine AWP.ret FA
    · have hb' := bin_kids hb
      simp only [size, sizes] at hN
      rw [tcs2]
      refine EvD.body Try.func86 rfl rfl rfl ?_
      refine AWP.seq ?_
      refine TO ⟨[.agg [(I6 n), .sl [(I6 n1), tl k1, (I6 n2), tl k2] 2 .any]] ++ UU 35, []⟩ ?_
      refine AWP.reg (RT 2 ?_)
      refine AWP.seq (AWP.seq (KL [0] ⟨[U6, .ptr 0 0, .ptr 1 0] ++ UU 33, [⟨[(I6 n), .sl [(I6 n1), tl k1, (I6 n2), tl k2] 2 .any], 2, .fresh⟩, ⟨[(I6 0), .sl [] 0 .nil], 2, .fresh⟩]⟩ ?_))
      refine AWP.reg (RI (True ∧ 1 < 2 ∧ True ∧ True ∧ True) ⟨trivial, (by omega), trivial, trivial, trivial⟩ ?_)
      refine KL [5, 6, 7] ⟨[U6, .ptr 0 0, .ptr 1 0] ++ UU 5 ++ [(B6 false)] ++ UU 27, [⟨[(I6 n), .sl [(I6 n1), tl k1, (I6 n2), tl k2] 2 .any], 2, .fresh⟩, ⟨[(I6 0), .sl [] 0 .nil], 2, .fresh⟩]⟩ ?_
      refine CN false (fun h => nomatch h) (fun _ => ?_)
      refine AWP.skip (AWP.seq ?_)
      refine AWP.drawB mixed (fun o => if [3, 4].contains (o.dst.getD 0) then 1 else if [].contains (o.dst.getD 0) then 2 else if [0, 0].contains (o.dst.getD 0) then 3 else 0) 2 2 (fun x => [⟨[(I6 n), .sl [(I6 n1), tl k1, (I6 n2), tl k2] 2 .any], 2, .fresh⟩, ⟨[(I6 0), .sl [] 0 .nil], 2, .fresh⟩]) ⟨[U6, .ptr 0 0, .ptr 1 0] ++ UU 5 ++ [(B6 false)] ++ UU 27, [⟨[(I6 n), .sl [(I6 n1), tl k1, (I6 n2), tl k2] 2 .any], 2, .fresh⟩, ⟨[(I6 0), .sl [] 0 .nil], 2, .fresh⟩, ⟨[], 0, .unborn⟩, ⟨[], 0, .unborn⟩]⟩ (by kernel_rfl) ⟨by kernel_rfl, by kernel_rfl⟩ (by kernel_rfl) ?_
      refine DerZ.preI 4 ((True) ∧ (((1 : Nat) < (2 : Nat)) ∧ (((((0 : Int) ≤ (0 : Int)) ∧ ((0 : Int) < (2 : Int))) ∧ ((2 : Nat) ≤ (4 : Nat))) ∧ (((2 : Nat) ≤ (2 : Nat)) ∧ (True))))) (by intro x ext; kernel_rfl) ⟨trivial, ⟨(by omega), ⟨⟨⟨(by omega), (by omega)⟩, (by omega)⟩, ⟨(by omega), trivial⟩⟩⟩⟩ ?_
      refine DerZ.callDI (ih n1 k1 (by (rw [size]; omega)) (by (exact hb'.1))) ⟨by kernel_rfl, by kernel_rfl⟩ ?_
      refine DerZ.preI 4 ((True) ∧ (((1 : Nat) < (2 : Nat)) ∧ (((((0 : Int) ≤ (1 : Int)) ∧ ((1 : Int) < (2 : Int))) ∧ ((4 : Nat) ≤ (4 : Nat))) ∧ (((2 : Nat) ≤ (2 : Nat)) ∧ (True))))) (by intro x ext; kernel_rfl) ⟨trivial, ⟨(by omega), ⟨⟨⟨(by omega), (by omega)⟩, (by omega)⟩, ⟨(by omega), trivial⟩⟩⟩⟩ ?_
      refine DerZ.callDI (ih n2 k2 (by (rw [size]; omega)) (by (exact hb'.2))) ⟨by kernel_rfl, by kernel_rfl⟩ ?_
      refine DerZ.birthI 2 ⟨by kernel_rfl, by kernel_rfl, by kernel_rfl, by kernel_rfl, (by intro x; kernel_rfl), by kernel_rfl⟩ ?_
      refine DerZ.birthI 3 ⟨by kernel_rfl, by kernel_rfl, by kernel_rfl, by kernel_rfl, (by intro x; kernel_rfl), by kernel_rfl⟩ ?_
      refine DerZ.effI 2 ((2 : Nat) ≤ (2 : Nat)) (by kernel_rfl) ⟨⟨by kernel_rfl, by kernel_rfl⟩, by kernel_rfl⟩ (by omega) ?_
      refine DerZ.effI 2 ((2 : Nat) ≤ (2 : Nat)) (by kernel_rfl) ⟨⟨by kernel_rfl, by kernel_rfl⟩, by kernel_rfl⟩ (by omega) ?_
      refine DerZ.nil ?_
      refine AWP.seq (AWP.seq (KL ([1, 8] ++ NN 12 10) ⟨[U6, U6, .ptr 1 0, .ptr 2 0, .ptr 3 0] ++ UU 31, [⟨[(I6 n), .sl [(I6 n1), tl k1, (I6 n2), tl k2] 2 .any], 2, .fresh⟩, ⟨[(I6 0), .sl [] 0 .nil], 2, .fresh⟩, ⟨[(I6 (T.n (normI (T.mk n1 k1)))), tl (T.ks (normI (T.mk n1 k1)))], 2, .fresh⟩, ⟨[(I6 (T.n (normI (T.mk n2 k2)))), tl (T.ks (normI (T.mk n2 k2)))], 2, .fresh⟩]⟩ ?_))
      refine AWP.reg (PI 5 (True ∧ 1 < 2 ∧ True ∧ True ∧ True ∧ True) ⟨trivial, (by omega), trivial, trivial, trivial, trivial⟩ ?_)
      refine DerQ.to ⟨[U6, U6, .ptr 1 0, .ptr 2 0, .ptr 3 0] ++ UU 17 ++ [.ptr 2 1, tl (T.ks (normI (T.mk n1 k1))), (I6 (↑(List.length (T.ks (normI (T.mk n1 k1)))) : Int)), (B6 ((↑(List.length (T.ks (normI (T.mk n1 k1)))) : Int) == 0)), (B6 ((↑(List.length (T.ks (normI (T.mk n1 k1)))) : Int) == 0))] ++ UU 9, [⟨[(I6 n), .sl [(I6 n1), tl k1, (I6 n2), tl k2] 2 .any], 2, .fresh⟩, ⟨[(I6 0), .sl [] 0 .nil], 2, .fresh⟩, ⟨[(I6 (T.n (normI (T.mk n1 k1)))), tl (T.ks (normI (T.mk n1 k1)))], 2, .fresh⟩, ⟨[(I6 (T.n (normI (T.mk n2 k2)))), tl (T.ks (normI (T.mk n2 k2)))], 2, .fresh⟩]⟩ (by kernel_rfl) ?_
      cases h1 : ((↑(List.length (T.ks (normI (T.mk n1 k1)))) : Int) == 0)
      · have h1' := ne_of_beq_false h1
        refine RT 1 ?_
        refine KL (NN 22 9) ⟨[U6, U6, .ptr 1 0, .ptr 2 0, .ptr 3 0] ++ UU 26 ++ [(B6 false), U6, U6, U6, .undef], [⟨[(I6 n), .sl [(I6 n1), tl k1, (I6 n2), tl k2] 2 .any], 2, .fresh⟩, ⟨[(I6 0), .sl [] 0 .nil], 2, .fresh⟩, ⟨[(I6 (T.n (normI (T.mk n1 k1)))), tl (T.ks (normI (T.mk n1 k1)))], 2, .fresh⟩, ⟨[(I6 (T.n (normI (T.mk n2 k2)))), tl (T.ks (normI (T.mk n2 k2)))], 2, .fresh⟩]⟩ ?_
        refine CN false (fun h => nomatch h) (fun _ => ?_)
        refine AWP.skip (SQ (PI 2 (2 ≤ 2 ∧ 2 ≤ 2 ∧ True) ⟨(by omega), (by omega), trivial⟩ ?_))
        refine CD (r_inner ((0 : Int)) (T.n (normI (T.mk n1 k1))) (T.n (normI (T.mk n2 k2))) (tcs (T.ks (normI (T.mk n1 k1)))) (tcs (T.ks (normI (T.mk n2 k2)))) (List.length (T.ks (normI (T.mk n1 k1)))) (List.length (T.ks (normI (T.mk n2 k2))))) ?_
        refine RI (2 ≤ 2 ∧ True) ⟨(by omega), trivial⟩ ?_
        refine AWP.ret ?_
        refine FI (.agg [.sc (.int .i64 0), .sl [.sc (.int .i64 (T.n (normI (T.mk n1 k1)))), .sl (tcs (T.ks (normI (T.mk n1 k1)))) (List.length (T.ks (normI (T.mk n1 k1)))) .any, .sc (.int .i64 (T.n (normI (T.mk n2 k2)))), .sl (tcs (T.ks (normI (T.mk n2 k2)))) (List.length (T.ks (normI (T.mk n2 k2)))) .any] 2 .any]) ?_
        refine Shrink.dataK [] (True) (.agg [.sc (.int .i64 0), .sl [.sc (.int .i64 (T.n (normI (T.mk n1 k1)))), .sl (tcs (T.ks (normI (T.mk n1 k1)))) (List.length (T.ks (normI (T.mk n1 k1)))) .any, .sc (.int .i64 (T.n (normI (T.mk n2 k2)))), .sl (tcs (T.ks (normI (T.mk n2 k2)))) (List.length (T.ks (normI (T.mk n2 k2)))) .any] 2 .any]) (by kernel_rfl) trivial ?_ rfl
        (rw [norm_two, short_no] <;> first | (simp only [ag, T.n_mk, T.ks_mk, tcs_pair]; rfl) | rfl | (unfold isT; omega); done)
      · have h1' := eq_of_beq h1
        refine PI 3 (2 ≤ 2 ∧ True ∧ 0 < 2 ∧ True) ⟨(by omega), trivial, (by omega), trivial⟩ ?_
        refine CD (r_is (T.n (normI (T.mk n2 k2))) (T.n (normI (T.mk n1 k1))) (tcs (T.ks (normI (T.mk n2 k2)))) (List.length (T.ks (normI (T.mk n2 k2))))) ?_
        refine RT 1 ?_
        refine KL (NN 22 9) ⟨[U6, U6, .ptr 1 0, .ptr 2 0, .ptr 3 0] ++ UU 26 ++ [(B6 (decide (List.length (T.ks (normI (T.mk n2 k2))) = 0 ∧ T.n (normI (T.mk n2 k2)) = T.n (normI (T.mk n1 k1))))), U6, U6, U6, .undef], [⟨[(I6 n), .sl [(I6 n1), tl k1, (I6 n2), tl k2] 2 .any], 2, .fresh⟩, ⟨[(I6 0), .sl [] 0 .nil], 2, .fresh⟩, ⟨[(I6 (T.n (normI (T.mk n1 k1)))), tl (T.ks (normI (T.mk n1 k1)))], 2, .fresh⟩, ⟨[(I6 (T.n (normI (T.mk n2 k2)))), tl (T.ks (normI (T.mk n2 k2)))], 2, .fresh⟩]⟩ ?_
        refine CN (decide (List.length (T.ks (normI (T.mk n2 k2))) = 0 ∧ T.n (normI (T.mk n2 k2)) = T.n (normI (T.mk n1 k1)))) (fun h2 => ?_) (fun h2 => ?_)
        · have h2' := of_decide_eq_true h2
          refine SQ (RI (2 ≤ 2 ∧ 2 ≤ 2 ∧ True) ⟨(by omega), (by omega), trivial⟩ ?_)
          refine AWP.ret ?_
          refine FI (.agg [.sc (.int .i64 (T.n (normI (T.mk n1 k1)))), .sl (tcs (T.ks (normI (T.mk n1 k1)))) (List.length (T.ks (normI (T.mk n1 k1)))) .any]) ?_
          refine Shrink.dataK [] (True) (.agg [.sc (.int .i64 (T.n (normI (T.mk n1 k1)))), .sl (tcs (T.ks (normI (T.mk n1 k1)))) (List.length (T.ks (normI (T.mk n1 k1)))) .any]) (by kernel_rfl) trivial ?_ rfl
          (rw [norm_two, short_yes] <;> first | (simp only [ag, T.n_mk, T.ks_mk, tcs_pair]; rfl) | rfl | (unfold isT; omega); done)
        · have h2' := of_decide_eq_false h2
          refine AWP.skip (SQ (PI 2 (2 ≤ 2 ∧ 2 ≤ 2 ∧ True) ⟨(by omega), (by omega), trivial⟩ ?_))
          refine CD (r_inner ((0 : Int)) (T.n (normI (T.mk n1 k1))) (T.n (normI (T.mk n2 k2))) (tcs (T.ks (normI (T.mk n1 k1)))) (tcs (T.ks (normI (T.mk n2 k2)))) (List.length (T.ks (normI (T.mk n1 k1)))) (List.length (T.ks (normI (T.mk n2 k2))))) ?_
          refine RI (2 ≤ 2 ∧ True) ⟨(by omega), trivial⟩ ?_
          refine AWP.ret ?_
          refine FI (.agg [.sc (.int .i64 0), .sl [.sc (.int .i64 (T.n (normI (T.mk n1 k1)))), .sl (tcs (T.ks (normI (T.mk n1 k1)))) (List.length (T.ks (normI (T.mk n1 k1)))) .any, .sc (.int .i64 (T.n (normI (T.mk n2 k2)))), .sl (tcs (T.ks (normI (T.mk n2 k2)))) (List.length (T.ks (normI (T.mk n2 k2)))) .any] 2 .any]) ?_
          refine Shrink.dataK [] (True) (.agg [.sc (.int .i64 0), .sl [.sc (.int .i64 (T.n (normI (T.mk n1 k1)))), .sl (tcs (T.ks (normI (T.mk n1 k1)))) (List.length (T.ks (normI (T.mk n1 k1)))) .any, .sc (.int .i64 (T.n (normI (T.mk n2 k2)))), .sl (tcs (T.ks (normI (T.mk n2 k2)))) (List.length (T.ks (normI (T.mk n2 k2)))) .any] 2 .any]) (by kernel_rfl) trivial ?_ rfl
          (rw [norm_two, short_no] <;> first | (simp only [ag, T.n_mk, T.ks_mk, tcs_pair]; rfl) | rfl | (unfold isT; omega); done)
theorem check (n : Int) (ks : List T) (hN : size (.mk n ks) ≤ 1000000) : EvD Try.prog 39 [.agg [.sc (.int .i64 n), .sl (tcs ks) ks.length .any]] (.sc (.bool (checkI (.mk n ks)))) := by
  have hs := size_norm (.mk n ks)
  cases hr : roughI 16 (.mk n ks)
  · have q := rough 1000000 n ks 16 hN (by omega) (by omega)
    rw [hr] at q
    refine EvD.body Try.func39 rfl rfl rfl ?_
    refine AWP.seq ?_
    refine TO ⟨[.agg [(I6 n), tl ks]] ++ UU 10, []⟩ ?_
    refine AWP.reg (RT 2 ?_)
    refine AWP.seq (KL [0] ⟨[U6, .ptr 0 0, (B6 false)] ++ UU 8, [⟨[(I6 n), tl ks], 2, .fresh⟩]⟩ ?_)
    refine AWP.drawX mixed (fun o => [8, 9, 4].contains (o.dst.getD 0)) (by kernel_rfl) ?_
    refine DerX.quietI ((2 : Nat) ≤ (2 : Nat)) (by intro ext; kernel_rfl) (by kernel_rfl) (by omega) ?_
    refine DerX.callDI (q) ⟨by kernel_rfl, by kernel_rfl⟩ ?_
    refine DerX.preI 7 ((True) ∧ ((True) ∧ ((True) ∧ (True)))) (by intro ext; kernel_rfl) ⟨trivial, ⟨trivial, ⟨trivial, trivial⟩⟩⟩ ?_
    refine DerX.nil ?_
    refine AWP.ret ?_
    refine FI (.sc (.bool false)) ?_
    refine Shrink.all ?_ rfl
    (simp [checkI, hr]; done)
  · have q := rough 1000000 n ks 16 hN (by omega) (by omega)
    rw [hr] at q
    refine EvD.body Try.func39 rfl rfl rfl ?_
    refine AWP.seq ?_
    refine TO ⟨[.agg [(I6 n), tl ks]] ++ UU 10, []⟩ ?_
    refine AWP.reg (RT 2 ?_)
    refine AWP.seq (KL [0] ⟨[U6, .ptr 0 0, (B6 false)] ++ UU 8, [⟨[(I6 n), tl ks], 2, .fresh⟩]⟩ ?_)
    refine AWP.drawX mixed (fun o => [4, 8, 9].contains (o.dst.getD 0)) (by kernel_rfl) ?_
    refine DerX.quietI ((2 : Nat) ≤ (2 : Nat)) (by intro ext; kernel_rfl) (by kernel_rfl) (by omega) ?_
    refine DerX.callDI (q) ⟨by kernel_rfl, by kernel_rfl⟩ ?_
    refine DerX.preI 3 ((True) ∧ (((2 : Nat) ≤ (2 : Nat)) ∧ (((2 : Nat) ≤ (2 : Nat)) ∧ (True)))) (by intro ext; kernel_rfl) ⟨trivial, ⟨(by omega), ⟨(by omega), trivial⟩⟩⟩ ?_
    refine DerX.callDI (norm 1000000 n ks (by omega) (by (exact bin_of_rough _ _ hr))) ⟨by kernel_rfl, by kernel_rfl⟩ ?_
    refine DerX.callD (same94 1000000 (by omega) n (T.n (normI (T.mk n ks))) ks (T.ks (normI (T.mk n ks))) (by omega)) ⟨[U6, .ptr 0 0, (B6 false), .agg [(I6 n), tl ks], (B6 true), (B6 true), .agg [(I6 n), tl ks], .agg [(I6 n), tl ks], .agg [(I6 (T.n (normI (T.mk n ks)))), tl (T.ks (normI (T.mk n ks)))], (B6 (beqT (T.mk n ks) (T.mk (T.n (normI (T.mk n ks))) (T.ks (normI (T.mk n ks)))))), .undef], [⟨[(I6 n), tl ks], 2, .fresh⟩]⟩ ⟨by kernel_rfl, by kernel_rfl, by kernel_rfl⟩ ?_
    rw [Go.Tr.T.mk_eta (normI (T.mk n ks))]
    refine DerX.preI 2 ((True) ∧ ((True) ∧ (True))) (by intro ext; kernel_rfl) ⟨trivial, ⟨trivial, trivial⟩⟩ ?_
    refine DerX.nil ?_
    refine AWP.ret ?_
    refine FI (.sc (.bool (beqT (T.mk n ks) (normI (T.mk n ks))))) ?_
    refine Shrink.all ?_ rfl
    (simp [checkI, hr]; done)
theorem r_check (n : Int) (ks : List T) (hN : size (.mk n ks) ≤ 1000000) : EvD Try.prog 40 [.agg [.sc (.int .i64 n), .sl (tcs ks) ks.length .any]] (.sc (.bool (checkI (.mk n ks)))) := by
  have hs := size_norm (.mk n ks)
  cases hr : roughI 16 (.mk n ks)
  · have q := r_rough 1000000 n ks 16 hN (by omega) (by omega)
    rw [hr] at q
    refine EvD.body Try.func40 rfl rfl rfl ?_
    refine AWP.seq ?_
    refine TO ⟨[.agg [(I6 n), tl ks]] ++ UU 10, []⟩ ?_
    refine AWP.reg (RT 2 ?_)
    refine AWP.seq (KL [0] ⟨[U6, .ptr 0 0, (B6 false)] ++ UU 8, [⟨[(I6 n), tl ks], 2, .fresh⟩]⟩ ?_)
    refine AWP.drawX mixed (fun o => [7, 9, 4].contains (o.dst.getD 0)) (by kernel_rfl) ?_
    refine DerX.quietI ((2 : Nat) ≤ (2 : Nat)) (by intro ext; kernel_rfl) (by kernel_rfl) (by omega) ?_
    refine DerX.callDI (q) ⟨by kernel_rfl, by kernel_rfl⟩ ?_
    refine DerX.preI 7 ((True) ∧ ((True) ∧ ((True) ∧ (True)))) (by intro ext; kernel_rfl) ⟨trivial, ⟨trivial, ⟨trivial, trivial⟩⟩⟩ ?_
    refine DerX.nil ?_
    refine AWP.ret ?_
    refine FI (.sc (.bool false)) ?_
    refine Shrink.all ?_ rfl
    (simp [checkI, hr]; done)
  · have q := r_rough 1000000 n ks 16 hN (by omega) (by omega)
    rw [hr] at q
    refine EvD.body Try.func40 rfl rfl rfl ?_
    refine AWP.seq ?_
    refine TO ⟨[.agg [(I6 n), tl ks]] ++ UU 10, []⟩ ?_
    refine AWP.reg (RT 2 ?_)
    refine AWP.seq (KL [0] ⟨[U6, .ptr 0 0, (B6 false)] ++ UU 8, [⟨[(I6 n), tl ks], 2, .fresh⟩]⟩ ?_)
    refine AWP.drawX mixed (fun o => [4, 7, 9].contains (o.dst.getD 0)) (by kernel_rfl) ?_
    refine DerX.quietI ((2 : Nat) ≤ (2 : Nat)) (by intro ext; kernel_rfl) (by kernel_rfl) (by omega) ?_
    refine DerX.callDI (q) ⟨by kernel_rfl, by kernel_rfl⟩ ?_
    refine DerX.preI 2 ((True) ∧ (((2 : Nat) ≤ (2 : Nat)) ∧ (True))) (by intro ext; kernel_rfl) ⟨trivial, ⟨(by omega), trivial⟩⟩ ?_
    refine DerX.callDI (r_norm 1000000 n ks (by omega) (by (exact bin_of_rough _ _ hr))) ⟨by kernel_rfl, by kernel_rfl⟩ ?_
    refine DerX.quietI ((2 : Nat) ≤ (2 : Nat)) (by intro ext; kernel_rfl) (by kernel_rfl) (by omega) ?_
    refine DerX.callD (r_same 1000000 (by omega) (T.n (normI (T.mk n ks))) n (T.ks (normI (T.mk n ks))) ks (by (rw [T.mk_eta]; omega))) ⟨[U6, .ptr 0 0, (B6 false), .agg [(I6 n), tl ks], (B6 true), (B6 true), .agg [(I6 n), tl ks], .agg [(I6 (T.n (normI (T.mk n ks)))), tl (T.ks (normI (T.mk n ks)))], .agg [(I6 n), tl ks], (B6 (beqT (T.mk (T.n (normI (T.mk n ks))) (T.ks (normI (T.mk n ks)))) (T.mk n ks))), .undef], [⟨[(I6 n), tl ks], 2, .fresh⟩]⟩ ⟨by kernel_rfl, by kernel_rfl, by kernel_rfl⟩ ?_
    rw [Go.Tr.T.mk_eta (normI (T.mk n ks))]
    refine DerX.preI 2 ((True) ∧ ((True) ∧ (True))) (by intro ext; kernel_rfl) ⟨trivial, ⟨trivial, trivial⟩⟩ ?_
    refine DerX.nil ?_
    refine AWP.ret ?_
    refine FI (.sc (.bool (beqT (normI (T.mk n ks)) (T.mk n ks)))) ?_
    refine Shrink.all ?_ rfl
    (simp [checkI, hr, beqT_comm]; done)
theorem halves (N : Nat) : ∀ (n : Int) (ks : List T), size (.mk n ks) ≤ N → binT (.mk n ks) = true → EvD Try.prog 88 [.agg [.sc (.int .i64 n), .sl (tcs ks) ks.length .any]] (.tup [ag (halvesI (.mk n ks)).1, ag (halvesI (.mk n ks)).2]) := by
  induction N with
  | zero => intro n ks h; rw [size] at h; omega
  | succ N ih =>
    intro n ks hN hb
    rcases bin_case hb with rfl | ⟨n1, k1, n2, k2, rfl⟩
    · refine EvD.body Try.func88 rfl rfl rfl ?_
      refine AWP.seq ?_
      refine TO ⟨[.agg [(I6 n), .sl [] 0 .any]] ++ UU 61, []⟩ ?_
      refine AWP.reg (RT 3 ?_)
      refine AWP.seq (AWP.seq (KL [0] ⟨[U6, .ptr 0 0, .ptr 1 0, .ptr 2 0] ++ UU 58, [⟨[(I6 n), .sl [] 0 .any], 2, .fresh⟩, ⟨[(I6 0), .sl [] 0 .nil], 2, .fresh⟩, ⟨[(I6 0), .sl [] 0 .nil], 2, .fresh⟩]⟩ ?_))
      refine AWP.reg (RI (True ∧ 1 < 2 ∧ True ∧ True ∧ True) ⟨trivial, (by omega), trivial, trivial, trivial⟩ ?_)
      refine KL [10, 11, 12] ⟨[U6, .ptr 0 0, .ptr 1 0, .ptr 2 0] ++ UU 9 ++ [(B6 true)] ++ UU 48, [⟨[(I6 n), .sl [] 0 .any], 2, .fresh⟩, ⟨[(I6 0), .sl [] 0 .nil], 2, .fresh⟩, ⟨[(I6 0), .sl [] 0 .nil], 2, .fresh⟩]⟩ ?_
      refine CN true (fun _ => ?_) (fun h => nomatch h)
      refine SQ (CD (leaf ((1 : Int))) ?_)
      refine CD (leaf ((0 : Int))) ?_
      refine CD (inner ((1 : Int)) ((0 : Int)) [] [] ((0 : Nat)) ((0 : Nat))) ?_
      refine CD (leaf ((0 : Int))) ?_
      refine CD (leaf ((1 : Int))) ?_
      refine CD (inner ((0 : Int)) ((1 : Int)) [] [] ((0 : Nat)) ((0 : Nat))) ?_
      refine RI (2 ≤ 2 ∧ 2 ≤ 2 ∧ True) ⟨(by omega), (by omega), trivial⟩ ?_
      refine AWP.ret FA
    · have hb' := bin_kids hb
      simp only [size, sizes] at hN
      rw [tcs2]
      refine EvD.body Try.func88 rfl rfl rfl ?_
      refine AWP.seq ?_
      refine TO ⟨[.agg [(I6 n), .sl [(I6 n1), tl k1, (I6 n2), tl k2] 2 .any]] ++ UU 61, []⟩ ?_
      refine AWP.reg (RT 3 ?_)
      refine AWP.seq (AWP.seq (KL [0] ⟨[U6, .ptr 0 0, .ptr 1 0, .ptr 2 0] ++ UU 58, [⟨[(I6 n), .sl [(I6 n1), tl k1, (I6 n2), tl k2] 2 .any], 2, .fresh⟩, ⟨[(I6 0), .sl [] 0 .nil], 2, .fresh⟩, ⟨[(I6 0), .sl [] 0 .nil], 2, .fresh⟩]⟩ ?_))
      refine AWP.reg (RI (True ∧ 1 < 2 ∧ True ∧ True ∧ True) ⟨trivial, (by omega), trivial, trivial, trivial⟩ ?_)
      refine KL [10, 11, 12] ⟨[U6, .ptr 0 0, .ptr 1 0, .ptr 2 0] ++ UU 9 ++ [(B6 false)] ++ UU 48, [⟨[(I6 n), .sl [(I6 n1), tl k1, (I6 n2), tl k2] 2 .any], 2, .fresh⟩, ⟨[(I6 0), .sl [] 0 .nil], 2, .fresh⟩, ⟨[(I6 0), .sl [] 0 .nil], 2, .fresh⟩]⟩ ?_
      refine CN false (fun h => nomatch h) (fun _ => ?_)
      refine AWP.skip (AWP.seq ?_)
      refine AWP.drawB mixed (fun o => if [4, 5].contains (o.dst.getD 0) then 1 else if [].contains (o.dst.getD 0) then 2 else if [0, 0].contains (o.dst.getD 0) then 3 else 0) 2 3 (fun x => [⟨[(I6 n), .sl [(I6 n1), tl k1, (I6 n2), tl k2] 2 .any], 2, .fresh⟩, ⟨[(I6 0), .sl [] 0 .nil], 2, .fresh⟩, ⟨[(I6 0), .sl [] 0 .nil], 2, .fresh⟩]) ⟨[U6, .ptr 0 0, .ptr 1 0, .ptr 2 0] ++ UU 9 ++ [(B6 false)] ++ UU 48, [⟨[(I6 n), .sl [(I6 n1), tl k1, (I6 n2), tl k2] 2 .any], 2, .fresh⟩, ⟨[(I6 0), .sl [] 0 .nil], 2, .fresh⟩, ⟨[(I6 0), .sl [] 0 .nil], 2, .fresh⟩, ⟨[], 0, .unborn⟩, ⟨[], 0, .unborn⟩]⟩ (by kernel_rfl) ⟨by kernel_rfl, by kernel_rfl⟩ (by kernel_rfl) ?_
      refine DerZ.preI 8 ((True) ∧ (((1 : Nat) < (2 : Nat)) ∧ (((((0 : Int) ≤ (0 : Int)) ∧ ((0 : Int) < (2 : Int))) ∧ ((2 : Nat) ≤ (4 : Nat))) ∧ (((2 : Nat) ≤ (2 : Nat)) ∧ ((True) ∧ (((1 : Nat) < (2 : Nat)) ∧ (((((0 : Int) ≤ (1 : Int)) ∧ ((1 : Int) < (2 : Int))) ∧ ((4 : Nat) ≤ (4 : Nat))) ∧ (((2 : Nat) ≤ (2 : Nat)) ∧ (True))))))))) (by intro x ext; kernel_rfl) ⟨trivial, ⟨(by omega), ⟨⟨⟨(by omega), (by omega)⟩, (by omega)⟩, ⟨(by omega), ⟨trivial, ⟨(by omega), ⟨⟨⟨(by omega), (by omega)⟩, (by omega)⟩, ⟨(by omega), trivial⟩⟩⟩⟩⟩⟩⟩⟩ ?_
      refine DerZ.birthI 3 ⟨by kernel_rfl, by kernel_rfl, by kernel_rfl, by kernel_rfl, (by intro x; kernel_rfl), by kernel_rfl⟩ ?_
      refine DerZ.birthI 4 ⟨by kernel_rfl, by kernel_rfl, by kernel_rfl, by kernel_rfl, (by intro x; kernel_rfl), by kernel_rfl⟩ ?_
      refine DerZ.effI 3 ((2 : Nat) ≤ (2 : Nat)) (by kernel_rfl) ⟨⟨by kernel_rfl, by kernel_rfl⟩, by kernel_rfl⟩ (by omega) ?_
      refine DerZ.effI 3 ((2 : Nat) ≤ (2 : Nat)) (by kernel_rfl) ⟨⟨by kernel_rfl, by kernel_rfl⟩, by kernel_rfl⟩ (by omega) ?_
      refine DerZ.nil ?_
      refine AWP.seq (AWP.block (AWP.seq (KL ([1, 13] ++ NN 20 8) ⟨[U6, U6, .ptr 1 0, .ptr 2 0, .ptr 3 0, .ptr 4 0] ++ UU 56, [⟨[(I6 n), .sl [(I6 n1), tl k1, (I6 n2), tl k2] 2 .any], 2, .fresh⟩, ⟨[(I6 0), .sl [] 0 .nil], 2, .fresh⟩, ⟨[(I6 0), .sl [] 0 .nil], 2, .fresh⟩, ⟨[(I6 n1), tl k1], 2, .fresh⟩, ⟨[(I6 n2), tl k2], 2, .fresh⟩]⟩ ?_)))
      refine AWP.reg (PI 1 (2 ≤ 2 ∧ True) ⟨(by omega), trivial⟩ ?_)
      refine CD (is n1 ((0 : Int)) (tcs k1) (List.length k1)) ?_
      refine RT 1 ?_
      refine KL [29, 30] ⟨[U6, U6, .ptr 1 0, .ptr 2 0, .ptr 3 0, .ptr 4 0] ++ UU 22 ++ [(B6 (decide (List.length k1 = 0 ∧ n1 = 0)))] ++ UU 33, [⟨[(I6 n), .sl [(I6 n1), tl k1, (I6 n2), tl k2] 2 .any], 2, .fresh⟩, ⟨[(I6 0), .sl [] 0 .nil], 2, .fresh⟩, ⟨[(I6 0), .sl [] 0 .nil], 2, .fresh⟩, ⟨[(I6 n1), tl k1], 2, .fresh⟩, ⟨[(I6 n2), tl k2], 2, .fresh⟩]⟩ ?_
      refine CN (decide (List.length k1 = 0 ∧ n1 = 0)) (fun h1 => ?_) (fun h1 => ?_)
      · have h1' := of_decide_eq_true h1
        refine SQ (PI 1 (2 ≤ 2 ∧ True) ⟨(by omega), trivial⟩ ?_)
        refine CD (ih n2 k2 (by (rw [size]; omega)) (by (exact hb'.2))) ?_
        refine RI (True ∧ True ∧ True ∧ True ∧ True ∧ 2 ≤ 2 ∧ 2 ≤ 2 ∧ True) ⟨trivial, trivial, trivial, trivial, trivial, (by omega), (by omega), trivial⟩ ?_
        refine AWP.seq (KL ([28] ++ NN 31 5) ⟨[U6, U6, .ptr 1 0, .ptr 2 0, .ptr 3 0, .ptr 4 0, .ptr 5 0, .ptr 6 0] ++ UU 54, [⟨[(I6 n), .sl [(I6 n1), tl k1, (I6 n2), tl k2] 2 .any], 2, .fresh⟩, ⟨[(I6 0), .sl [] 0 .nil], 2, .fresh⟩, ⟨[(I6 0), .sl [] 0 .nil], 2, .fresh⟩, ⟨[(I6 n1), tl k1], 2, .fresh⟩, ⟨[(I6 n2), tl k2], 2, .fresh⟩, ⟨[(I6 (T.n (halvesI (T.mk n2 k2)).1)), tl (T.ks (halvesI (T.mk n2 k2)).1)], 2, .fresh⟩, ⟨[(I6 (T.n (halvesI (T.mk n2 k2)).2)), tl (T.ks (halvesI (T.mk n2 k2)).2)], 2, .fresh⟩]⟩ ?_)
        refine AWP.drawB mixed (fun o => if [].contains (o.dst.getD 0) then 1 else if [].contains (o.dst.getD 0) then 2 else if [0, 0, 38, 41].contains (o.dst.getD 0) then 3 else 0) 0 7 (fun x => [⟨[(I6 n), .sl [(I6 n1), tl k1, (I6 n2), tl k2] 2 .any], 2, .fresh⟩, ⟨x 1, 2, .fresh⟩, ⟨x 2, 2, .fresh⟩, ⟨[(I6 n1), tl k1], 2, .fresh⟩, ⟨[(I6 n2), tl k2], 2, .fresh⟩, ⟨[(I6 (T.n (halvesI (T.mk n2 k2)).1)), tl (T.ks (halvesI (T.mk n2 k2)).1)], 2, .fresh⟩, ⟨[(I6 (T.n (halvesI (T.mk n2 k2)).2)), tl (T.ks (halvesI (T.mk n2 k2)).2)], 2, .fresh⟩]) ⟨[U6, U6, .ptr 1 0, .ptr 2 0, .ptr 3 0, .ptr 4 0, .ptr 5 0, .ptr 6 0] ++ UU 54, [⟨[(I6 n), .sl [(I6 n1), tl k1, (I6 n2), tl k2] 2 .any], 2, .fresh⟩, ⟨[(I6 0), .sl [] 0 .nil], 2, .fresh⟩, ⟨[(I6 0), .sl [] 0 .nil], 2, .fresh⟩, ⟨[(I6 n1), tl k1], 2, .fresh⟩, ⟨[(I6 n2), tl k2], 2, .fresh⟩, ⟨[(I6 (T.n (halvesI (T.mk n2 k2)).1)), tl (T.ks (halvesI (T.mk n2 k2)).1)], 2, .fresh⟩, ⟨[(I6 (T.n (halvesI (T.mk n2 k2)).2)), tl (T.ks (halvesI (T.mk n2 k2)).2)], 2, .fresh⟩]⟩ (by kernel_rfl) ⟨by kernel_rfl, by kernel_rfl⟩ (by kernel_rfl) ?_
        refine DerZ.preI 2 (((2 : Nat) ≤ (2 : Nat)) ∧ (((2 : Nat) ≤ (2 : Nat)) ∧ (True))) (by intro x ext; kernel_rfl) ⟨(by omega), ⟨(by omega), trivial⟩⟩ ?_
        refine DerZ.callDI (inner n1 (T.n (halvesI (T.mk n2 k2)).1) (tcs k1) (tcs (T.ks (halvesI (T.mk n2 k2)).1)) (List.length k1) (List.length (T.ks (halvesI (T.mk n2 k2)).1))) ⟨by kernel_rfl, by kernel_rfl⟩ ?_
        refine DerZ.preI 2 (((2 : Nat) ≤ (2 : Nat)) ∧ (((2 : Nat) ≤ (2 : Nat)) ∧ (True))) (by intro x ext; kernel_rfl) ⟨(by omega), ⟨(by omega), trivial⟩⟩ ?_
        refine DerZ.callDI (inner n1 (T.n (halvesI (T.mk n2 k2)).2) (tcs k1) (tcs (T.ks (halvesI (T.mk n2 k2)).2)) (List.length k1) (List.length (T.ks (halvesI (T.mk n2 k2)).2))) ⟨by kernel_rfl, by kernel_rfl⟩ ?_
        refine DerZ.effI 7 ((2 : Nat) ≤ (2 : Nat)) (by kernel_rfl) ⟨⟨by kernel_rfl, by kernel_rfl⟩, by kernel_rfl⟩ (by omega) ?_
        refine DerZ.effI 7 ((2 : Nat) ≤ (2 : Nat)) (by kernel_rfl) ⟨⟨by kernel_rfl, by kernel_rfl⟩, by kernel_rfl⟩ (by omega) ?_
        refine DerZ.nil ?_
        refine AWP.ret ?_
        refine FI (.tup [.agg [.sc (.int .i64 0), .sl [.sc (.int .i64 (n1)), .sl (tcs k1) (List.length k1) .any, .sc (.int .i64 (T.n (halvesI (T.mk n2 k2)).1)), .sl (tcs (T.ks (halvesI (T.mk n2 k2)).1)) (List.length (T.ks (halvesI (T.mk n2 k2)).1)) .any] 2 .any], .agg [.sc (.int .i64 0), .sl [.sc (.int .i64 (n1)), .sl (tcs k1) (List.length k1) .any, .sc (.int .i64 (T.n (halvesI (T.mk n2 k2)).2)), .sl (tcs (T.ks (halvesI (T.mk n2 k2)).2)) (List.length (T.ks (halvesI (T.mk n2 k2)).2)) .any] 2 .any]]) ?_
        refine Shrink.dataK [] (True) (.tup [.agg [.sc (.int .i64 0), .sl [.sc (.int .i64 (n1)), .sl (tcs k1) (List.length k1) .any, .sc (.int .i64 (T.n (halvesI (T.mk n2 k2)).1)), .sl (tcs (T.ks (halvesI (T.mk n2 k2)).1)) (List.length (T.ks (halvesI (T.mk n2 k2)).1)) .any] 2 .any], .agg [.sc (.int .i64 0), .sl [.sc (.int .i64 (n1)), .sl (tcs k1) (List.length k1) .any, .sc (.int .i64 (T.n (halvesI (T.mk n2 k2)).2)), .sl (tcs (T.ks (halvesI (T.mk n2 k2)).2)) (List.length (T.ks (halvesI (T.mk n2 k2)).2)) .any] 2 .any]]) (by kernel_rfl) trivial ?_ rfl
        (rw [halves_a] <;> first | (simp only [ag, T.n_mk, T.ks_mk, tcs_pair]; rfl) | (unfold isT; simp only [T.ks_mk, T.n_mk]; omega); done)
      · have h1' := of_decide_eq_false h1
        refine SQ (PI 1 (2 ≤ 2 ∧ True) ⟨(by omega), trivial⟩ ?_)
        refine CD (is n2 ((0 : Int)) (tcs k2) (List.length k2)) ?_
        refine RT 1 ?_
        refine KL [28, 43, 44] ⟨[U6, U6, .ptr 1 0, .ptr 2 0, .ptr 3 0, .ptr 4 0] ++ UU 36 ++ [(B6 (decide (List.length k2 = 0 ∧ n2 = 0)))] ++ UU 19, [⟨[(I6 n), .sl [(I6 n1), tl k1, (I6 n2), tl k2] 2 .any], 2, .fresh⟩, ⟨[(I6 0), .sl [] 0 .nil], 2, .fresh⟩, ⟨[(I6 0), .sl [] 0 .nil], 2, .fresh⟩, ⟨[(I6 n1), tl k1], 2, .fresh⟩, ⟨[(I6 n2), tl k2], 2, .fresh⟩]⟩ ?_
        refine CN (decide (List.length k2 = 0 ∧ n2 = 0)) (fun h2 => ?_) (fun h2 => ?_)
        · have h2' := of_decide_eq_true h2
          refine SQ (PI 1 (2 ≤ 2 ∧ True) ⟨(by omega), trivial⟩ ?_)
          refine CD (ih n1 k1 (by (rw [size]; omega)) (by (exact hb'.1))) ?_
          refine RI (True ∧ True ∧ True ∧ True ∧ True ∧ 2 ≤ 2 ∧ 2 ≤ 2 ∧ True) ⟨trivial, trivial, trivial, trivial, trivial, (by omega), (by omega), trivial⟩ ?_
          refine AWP.seq (KL ([42] ++ NN 45 5) ⟨[U6, U6, .ptr 1 0, .ptr 2 0, .ptr 3 0, .ptr 4 0, U6, U6, .ptr 5 0, .ptr 6 0] ++ UU 52, [⟨[(I6 n), .sl [(I6 n1), tl k1, (I6 n2), tl k2] 2 .any], 2, .fresh⟩, ⟨[(I6 0), .sl [] 0 .nil], 2, .fresh⟩, ⟨[(I6 0), .sl [] 0 .nil], 2, .fresh⟩, ⟨[(I6 n1), tl k1], 2, .fresh⟩, ⟨[(I6 n2), tl k2], 2, .fresh⟩, ⟨[(I6 (T.n (halvesI (T.mk n1 k1)).1)), tl (T.ks (halvesI (T.mk n1 k1)).1)], 2, .fresh⟩, ⟨[(I6 (T.n (halvesI (T.mk n1 k1)).2)), tl (T.ks (halvesI (T.mk n1 k1)).2)], 2, .fresh⟩]⟩ ?_)
          refine AWP.drawB mixed (fun o => if [].contains (o.dst.getD 0) then 1 else if [].contains (o.dst.getD 0) then 2 else if [0, 0, 52, 55].contains (o.dst.getD 0) then 3 else 0) 0 7 (fun x => [⟨[(I6 n), .sl [(I6 n1), tl k1, (I6 n2), tl k2] 2 .any], 2, .fresh⟩, ⟨x 1, 2, .fresh⟩, ⟨x 2, 2, .fresh⟩, ⟨[(I6 n1), tl k1], 2, .fresh⟩, ⟨[(I6 n2), tl k2], 2, .fresh⟩, ⟨[(I6 (T.n (halvesI (T.mk n1 k1)).1)), tl (T.ks (halvesI (T.mk n1 k1)).1)], 2, .fresh⟩, ⟨[(I6 (T.n (halvesI (T.mk n1 k1)).2)), tl (T.ks (halvesI (T.mk n1 k1)).2)], 2, .fresh⟩]) ⟨[U6, U6, .ptr 1 0, .ptr 2 0, .ptr 3 0, .ptr 4 0, U6, U6, .ptr 5 0, .ptr 6 0] ++ UU 52, [⟨[(I6 n), .sl [(I6 n1), tl k1, (I6 n2), tl k2] 2 .any], 2, .fresh⟩, ⟨[(I6 0), .sl [] 0 .nil], 2, .fresh⟩, ⟨[(I6 0), .sl [] 0 .nil], 2, .fresh⟩, ⟨[(I6 n1), tl k1], 2, .fresh⟩, ⟨[(I6 n2), tl k2], 2, .fresh⟩, ⟨[(I6 (T.n (halvesI (T.mk n1 k1)).1)), tl (T.ks (halvesI (T.mk n1 k1)).1)], 2, .fresh⟩, ⟨[(I6 (T.n (halvesI (T.mk n1 k1)).2)), tl (T.ks (halvesI (T.mk n1 k1)).2)], 2, .fresh⟩]⟩ (by kernel_rfl) ⟨by kernel_rfl, by kernel_rfl⟩ (by kernel_rfl) ?_
          refine DerZ.preI 2 (((2 : Nat) ≤ (2 : Nat)) ∧ (((2 : Nat) ≤ (2 : Nat)) ∧ (True))) (by intro x ext; kernel_rfl) ⟨(by omega), ⟨(by omega), trivial⟩⟩ ?_
          refine DerZ.callDI (inner (T.n (halvesI (T.mk n1 k1)).1) n2 (tcs (T.ks (halvesI (T.mk n1 k1)).1)) (tcs k2) (List.length (T.ks (halvesI (T.mk n1 k1)).1)) (List.length k2)) ⟨by kernel_rfl, by kernel_rfl⟩ ?_
          refine DerZ.preI 2 (((2 : Nat) ≤ (2 : Nat)) ∧ (((2 : Nat) ≤ (2 : Nat)) ∧ (True))) (by intro x ext; kernel_rfl) ⟨(by omega), ⟨(by omega), trivial⟩⟩ ?_
          refine DerZ.callDI (inner (T.n (halvesI (T.mk n1 k1)).2) n2 (tcs (T.ks (halvesI (T.mk n1 k1)).2)) (tcs k2) (List.length (T.ks (halvesI (T.mk n1 k1)).2)) (List.length k2)) ⟨by kernel_rfl, by kernel_rfl⟩ ?_
          refine DerZ.effI 7 ((2 : Nat) ≤ (2 : Nat)) (by kernel_rfl) ⟨⟨by kernel_rfl, by kernel_rfl⟩, by kernel_rfl⟩ (by omega) ?_
          refine DerZ.effI 7 ((2 : Nat) ≤ (2 : Nat)) (by kernel_rfl) ⟨⟨by kernel_rfl, by kernel_rfl⟩, by kernel_rfl⟩ (by omega) ?_
          refine DerZ.nil ?_
          refine AWP.ret ?_
          refine FI (.tup [.agg [.sc (.int .i64 0), .sl [.sc (.int .i64 (T.n (halvesI (T.mk n1 k1)).1)), .sl (tcs (T.ks (halvesI (T.mk n1 k1)).1)) (List.length (T.ks (halvesI (T.mk n1 k1)).1)) .any, .sc (.int .i64 (n2)), .sl (tcs k2) (List.length k2) .any] 2 .any], .agg [.sc (.int .i64 0), .sl [.sc (.int .i64 (T.n (halvesI (T.mk n1 k1)).2)), .sl (tcs (T.ks (halvesI (T.mk n1 k1)).2)) (List.length (T.ks (halvesI (T.mk n1 k1)).2)) .any, .sc (.int .i64 (n2)), .sl (tcs k2) (List.length k2) .any] 2 .any]]) ?_
          refine Shrink.dataK [] (True) (.tup [.agg [.sc (.int .i64 0), .sl [.sc (.int .i64 (T.n (halvesI (T.mk n1 k1)).1)), .sl (tcs (T.ks (halvesI (T.mk n1 k1)).1)) (List.length (T.ks (halvesI (T.mk n1 k1)).1)) .any, .sc (.int .i64 (n2)), .sl (tcs k2) (List.length k2) .any] 2 .any], .agg [.sc (.int .i64 0), .sl [.sc (.int .i64 (T.n (halvesI (T.mk n1 k1)).2)), .sl (tcs (T.ks (halvesI (T.mk n1 k1)).2)) (List.length (T.ks (halvesI (T.mk n1 k1)).2)) .any, .sc (.int .i64 (n2)), .sl (tcs k2) (List.length k2) .any] 2 .any]]) (by kernel_rfl) trivial ?_ rfl
          (rw [halves_b] <;> first | (simp only [ag, T.n_mk, T.ks_mk, tcs_pair]; rfl) | (unfold isT; simp only [T.ks_mk, T.n_mk]; omega); done)
        · have h2' := of_decide_eq_false h2
          refine AWP.skip (AWP.seq ?_)
          refine AWP.drawB mixed (fun o => if [].contains (o.dst.getD 0) then 1 else if [].contains (o.dst.getD 0) then 2 else if [0, 0, 57, 58, 59, 61].contains (o.dst.getD 0) then 3 else 0) 0 5 (fun x => [⟨[(I6 n), .sl [(I6 n1), tl k1, (I6 n2), tl k2] 2 .any], 2, .fresh⟩, ⟨x 1, 2, .fresh⟩, ⟨x 2, 2, .fresh⟩, ⟨[(I6 n1), tl k1], 2, .fresh⟩, ⟨[(I6 n2), tl k2], 2, .fresh⟩]) ⟨[U6, U6, .ptr 1 0, .ptr 2 0, .ptr 3 0, .ptr 4 0] ++ UU 36 ++ [(B6 (decide (List.length k2 = 0 ∧ n2 = 0)))] ++ UU 19, [⟨[(I6 n), .sl [(I6 n1), tl k1, (I6 n2), tl k2] 2 .any], 2, .fresh⟩, ⟨[(I6 0), .sl [] 0 .nil], 2, .fresh⟩, ⟨[(I6 0), .sl [] 0 .nil], 2, .fresh⟩, ⟨[(I6 n1), tl k1], 2, .fresh⟩, ⟨[(I6 n2), tl k2], 2, .fresh⟩]⟩ (by kernel_rfl) ⟨by kernel_rfl, by kernel_rfl⟩ (by kernel_rfl) ?_
          refine DerZ.quietI ((2 : Nat) ≤ (2 : Nat)) (by intro x ext; kernel_rfl) (by kernel_rfl) (by omega) ?_
          refine DerZ.callDI (leaf ((0 : Int))) ⟨by kernel_rfl, by kernel_rfl⟩ ?_
          refine DerZ.callDI (inner n1 ((0 : Int)) (tcs k1) [] (List.length k1) ((0 : Nat))) ⟨by kernel_rfl, by kernel_rfl⟩ ?_
          refine DerZ.callDI (leaf ((0 : Int))) ⟨by kernel_rfl, by kernel_rfl⟩ ?_
          refine DerZ.quietI ((2 : Nat) ≤ (2 : Nat)) (by intro x ext; kernel_rfl) (by kernel_rfl) (by omega) ?_
          refine DerZ.callDI (inner ((0 : Int)) n2 [] (tcs k2) ((0 : Nat)) (List.length k2)) ⟨by kernel_rfl, by kernel_rfl⟩ ?_
          refine DerZ.effI 5 ((2 : Nat) ≤ (2 : Nat)) (by kernel_rfl) ⟨⟨by kernel_rfl, by kernel_rfl⟩, by kernel_rfl⟩ (by omega) ?_
          refine DerZ.effI 5 ((2 : Nat) ≤ (2 : Nat)) (by kernel_rfl) ⟨⟨by kernel_rfl, by kernel_rfl⟩, by kernel_rfl⟩ (by omega) ?_
          refine DerZ.nil ?_
          refine AWP.ret ?_
          refine FI (.tup [.agg [.sc (.int .i64 0), .sl [.sc (.int .i64 (n1)), .sl (tcs k1) (List.length k1) .any, .sc (.int .i64 0), .sl [] 0 .any] 2 .any], .agg [.sc (.int .i64 0), .sl [.sc (.int .i64 0), .sl [] 0 .any, .sc (.int .i64 (n2)), .sl (tcs k2) (List.length k2) .any] 2 .any]]) ?_
          refine Shrink.dataK [] (True) (.tup [.agg [.sc (.int .i64 0), .sl [.sc (.int .i64 (n1)), .sl (tcs k1) (List.length k1) .any, .sc (.int .i64 0), .sl [] 0 .any] 2 .any], .agg [.sc (.int .i64 0), .sl [.sc (.int .i64 0), .sl [] 0 .any, .sc (.int .i64 (n2)), .sl (tcs k2) (List.length k2) .any] 2 .any]]) (by kernel_rfl) trivial ?_ rfl
          (rw [halves_c] <;> first | (simp only [ag, T.n_mk, T.ks_mk, tcs_pair]; rfl) | (unfold isT; simp only [T.ks_mk, T.n_mk]; omega); done)
end Go.Tr
