/- Walks and laws. -/
import Derived.Test.YtgpikfncinkjlaaEvH
import Derived.Test.YtgpikfncinkjlaaEvP
import Derived.Test.YtgpikfncinkjlaaIdD
import Derived.Test.YtgpikfncinkjlaaLibB
set_option maxRecDepth 100000
set_option maxHeartbeats 0
set_option linter.unusedSimpArgs false
set_option linter.unusedVariables false
namespace Go.Tr
open Go Go.Abs Go.Proofs
theorem eventsNorms (n : Int) (ks : List T) : EvD Try.prog 3 [.agg [.sc (.int .i64 n), .sl (tcs ks) ks.length .any]] (.sc (.bool true)) := by
  by_cases h1 : size (.mk n ks) ≤ 120
  · have f1 := dec_t (few n ks) h1
    have s1 := size_normE (.mk n ks)
    have c1 := e_Norm n ks (by omega)
    cases hr : roughE 16 1073741824 (.mk n ks)
    · have e : normEP (.mk n ks) = (.mk 0 [], 3) := by rw [normEP, if_neg (by rw [hr]; simp)]
      have e2 : checkE (.mk n ks) = false := by simp [checkE, hr]
      have c2 := e_check n ks (by omega)
      rw [e2] at c2
      rw [e] at c1
      refine EvD.body Try.func3 rfl rfl rfl ?_
      refine AWP.seq ?_
      refine AWP.reg ?_
      refine DerQ.run (TT 2) ⟨[.agg [(I6 n), tl ks], .ptr 0 0, (B6 false)] ++ UU 48, [⟨[(I6 n), tl ks], 2, .fresh⟩]⟩ (by kernel_rfl) (tt 2) ?_
      refine AWP.seq ?_
      refine AWP.seq ?_
      refine AWP.reg ?_
      refine DerQ.pre 1 (((2 : Nat) ≤ (2 : Nat)) ∧ (True)) ⟨[.agg [(I6 n), tl ks], .ptr 0 0, (B6 false), U6, U6, U6, U6, .agg [(I6 n), tl ks]] ++ UU 43, [⟨[(I6 n), tl ks], 2, .fresh⟩]⟩ (by kernel_rfl) ⟨(by omega), trivial⟩ ?_
      refine DerQ.callD (f1) ⟨[.agg [(I6 n), tl ks], .ptr 0 0, (B6 false), U6, U6, U6, U6, .agg [(I6 n), tl ks], (B6 true)] ++ UU 42, [⟨[(I6 n), tl ks], 2, .fresh⟩]⟩ ⟨by kernel_rfl, by kernel_rfl, by kernel_rfl⟩ ?_
      refine DerQ.run ((True) ∧ (True)) ⟨[.agg [(I6 n), tl ks], .ptr 0 0, (B6 false), U6, U6, U6, U6, .agg [(I6 n), tl ks], (B6 true), (B6 false)] ++ UU 41, [⟨[(I6 n), tl ks], 2, .fresh⟩]⟩ (by kernel_rfl) ⟨trivial, trivial⟩ ?_
      refine AWP.cond (b := false) (by kernel_rfl) (fun h => nomatch h) (fun _ => ?_)
      refine AWP.kill [0, 7, 8, 9] ⟨[.undef, .ptr 0 0, .sc (.bool false), .undef, .undef, .undef, .undef, .undef, .undef, .undef, .undef, .undef, .undef, .undef, .undef, .undef, .undef, .undef, .undef, .undef, .undef, .undef, .undef, .undef, .undef, .undef, .undef, .undef, .undef, .undef, .undef, .undef, .undef, .undef, .undef, .undef, .undef, .undef, .undef, .undef, .undef, .undef, .undef, .undef, .undef, .undef, .undef, .undef, .undef, .undef, .undef], [⟨[.sc (.int .i64 (n)), .sl (tcs ks) (List.length ks) .any], 2, .fresh⟩]⟩ (by kernel_rfl) ?_
      refine AWP.skip ?_
      refine AWP.seq ?_
      refine AWP.reg ?_
      refine DerQ.pre 1 (((2 : Nat) ≤ (2 : Nat)) ∧ (True)) ⟨[U6, .ptr 0 0, (B6 false)] ++ UU 9 ++ [.agg [(I6 n), tl ks]] ++ UU 38, [⟨[(I6 n), tl ks], 2, .fresh⟩]⟩ (by kernel_rfl) ⟨(by omega), trivial⟩ ?_
      refine DerQ.callD (c1) ⟨[U6, .ptr 0 0, (B6 false)] ++ UU 9 ++ [.agg [(I6 n), tl ks], .tup [.agg [(I6 0), .sl [] 0 .any], (I6 3)]] ++ UU 37, [⟨[(I6 n), tl ks], 2, .fresh⟩]⟩ ⟨by kernel_rfl, by kernel_rfl, by kernel_rfl⟩ ?_
      refine DerQ.run ((True) ∧ ((True) ∧ ((True) ∧ ((True) ∧ (((2 : Nat) ≤ (2 : Nat)) ∧ ((True) ∧ (True))))))) ⟨[U6, .ptr 0 0, (B6 false), .ptr 1 0, (I6 3)] ++ UU 6 ++ [.tup [.agg [(I6 0), .sl [] 0 .any], (I6 3)], .agg [(I6 n), tl ks], .tup [.agg [(I6 0), .sl [] 0 .any], (I6 3)], .agg [(I6 0), .sl [] 0 .any], (I6 3)] ++ UU 35, [⟨[(I6 n), tl ks], 2, .fresh⟩, ⟨[(I6 0), .sl [] 0 .any], 2, .fresh⟩]⟩ (by kernel_rfl) ⟨trivial, ⟨trivial, ⟨trivial, ⟨trivial, ⟨(by omega), ⟨trivial, trivial⟩⟩⟩⟩⟩⟩ ?_
      refine AWP.seq ?_
      refine AWP.seq ?_
      refine AWP.kill [11, 12, 13, 14, 15] ⟨[.undef, .ptr 0 0, .sc (.bool false), .ptr 1 0, .sc (.int .i64 3), .undef, .undef, .undef, .undef, .undef, .undef, .undef, .undef, .undef, .undef, .undef, .undef, .undef, .undef, .undef, .undef, .undef, .undef, .undef, .undef, .undef, .undef, .undef, .undef, .undef, .undef, .undef, .undef, .undef, .undef, .undef, .undef, .undef, .undef, .undef, .undef, .undef, .undef, .undef, .undef, .undef, .undef, .undef, .undef, .undef, .undef], [⟨[.sc (.int .i64 (n)), .sl (tcs ks) (List.length ks) .any], 2, .fresh⟩, ⟨[.sc (.int .i64 0), .sl [] 0 .any], 2, .fresh⟩]⟩ (by kernel_rfl) ?_
      refine AWP.reg ?_
      refine DerQ.run (TT 2) ⟨[U6, .ptr 0 0, (B6 false), .ptr 1 0, (I6 3)] ++ UU 11 ++ [(I6 3), (B6 true)] ++ UU 33, [⟨[(I6 n), tl ks], 2, .fresh⟩, ⟨[(I6 0), .sl [] 0 .any], 2, .fresh⟩]⟩ (by kernel_rfl) (tt 2) ?_
      refine AWP.cond (b := true) (by kernel_rfl) (fun _ => ?_) (fun h => nomatch h)
      refine AWP.seq ?_
      refine AWP.reg ?_
      refine DerQ.pre 1 (((2 : Nat) ≤ (2 : Nat)) ∧ (True)) ⟨[U6, .ptr 0 0, (B6 false), .ptr 1 0, (I6 3)] ++ UU 11 ++ [(I6 3), (B6 true), .agg [(I6 n), tl ks]] ++ UU 32, [⟨[(I6 n), tl ks], 2, .fresh⟩, ⟨[(I6 0), .sl [] 0 .any], 2, .fresh⟩]⟩ (by kernel_rfl) ⟨(by omega), trivial⟩ ?_
      refine DerQ.callD (c2) ⟨[U6, .ptr 0 0, (B6 false), .ptr 1 0, (I6 3)] ++ UU 11 ++ [(I6 3), (B6 true), .agg [(I6 n), tl ks], (B6 false)] ++ UU 31, [⟨[(I6 n), tl ks], 2, .fresh⟩, ⟨[(I6 0), .sl [] 0 .any], 2, .fresh⟩]⟩ ⟨by kernel_rfl, by kernel_rfl, by kernel_rfl⟩ ?_
      refine DerQ.pre 2 (TT 2) ⟨[U6, .ptr 0 0, (B6 false), .ptr 1 0, (I6 3)] ++ UU 11 ++ [(I6 3), (B6 true), .agg [(I6 n), tl ks], (B6 false), (B6 true), (B6 true)] ++ UU 29, [⟨[(I6 n), tl ks], 2, .fresh⟩, ⟨[(I6 0), .sl [] 0 .any], 2, .fresh⟩]⟩ (by kernel_rfl) (tt 2) ?_
      refine DerQ.callD (heads05) ⟨[U6, .ptr 0 0, (B6 false), .ptr 1 0, (I6 3)] ++ UU 11 ++ [(I6 3), (B6 true), .agg [(I6 n), tl ks], (B6 false), (B6 true), (B6 true), (B6 true)] ++ UU 28, [⟨[(I6 n), tl ks], 2, .fresh⟩, ⟨[(I6 0), .sl [] 0 .any], 2, .fresh⟩]⟩ ⟨by kernel_rfl, by kernel_rfl, by kernel_rfl⟩ ?_
      refine DerQ.run (TT 2) ⟨[U6, .ptr 0 0, (B6 true), .ptr 1 0, (I6 3)] ++ UU 11 ++ [(I6 3), (B6 true), .agg [(I6 n), tl ks], (B6 false), (B6 true), (B6 true), (B6 true), (B6 true)] ++ UU 27, [⟨[(I6 n), tl ks], 2, .fresh⟩, ⟨[(I6 0), .sl [] 0 .any], 2, .fresh⟩]⟩ (by kernel_rfl) (tt 2) ?_
      refine AWP.kill [4, 16, 17, 18, 19, 20, 21, 22, 23] ⟨[.undef, .ptr 0 0, .sc (.bool true), .ptr 1 0, .undef, .undef, .undef, .undef, .undef, .undef, .undef, .undef, .undef, .undef, .undef, .undef, .undef, .undef, .undef, .undef, .undef, .undef, .undef, .undef, .undef, .undef, .undef, .undef, .undef, .undef, .undef, .undef, .undef, .undef, .undef, .undef, .undef, .undef, .undef, .undef, .undef, .undef, .undef, .undef, .undef, .undef, .undef, .undef, .undef, .undef, .undef], [⟨[.sc (.int .i64 (n)), .sl (tcs ks) (List.length ks) .any], 2, .fresh⟩, ⟨[.sc (.int .i64 0), .sl [] 0 .any], 2, .fresh⟩]⟩ (by kernel_rfl) ?_
      refine AWP.ret ?_
      refine EvF.fin (.sc (.bool true)) _ (by simp) (by kernel_rfl) ?_
      exact Shrink.all rfl rfl
    · have e : normEP (.mk n ks) = (normE (.mk n ks), 0) := by rw [normEP, if_pos hr]
      have hn := roughE_norm _ _ _ hr
      have e3 : normEP (normE (.mk n ks)) = (normE (.mk n ks), 0) := by rw [normEP, if_pos hn, normE_idem]
      have c2 := e_Norm (normE (.mk n ks)).n (normE (.mk n ks)).ks (by rw [T.mk_eta]; omega)
      rw [T.mk_eta, e3] at c2
      rw [e] at c1
      have c3 := e_check (normE (.mk n ks)).n (normE (.mk n ks)).ks (by rw [T.mk_eta]; omega)
      rw [T.mk_eta, checkE_of hn (normE_idem _)] at c3
      have c4 := e_check n ks (by omega)
      have c5 := r_same 1000 (by decide) (normE (.mk n ks)).n (normE (.mk n ks)).n (normE (.mk n ks)).ks (normE (.mk n ks)).ks (by rw [T.mk_eta]; omega)
      rw [T.mk_eta, beqT_self] at c5
      have c6 := r_same 1000 (by decide) (normE (.mk n ks)).n n (normE (.mk n ks)).ks ks (by rw [T.mk_eta]; omega)
      have e5 : checkE (.mk n ks) = beqT (normE (.mk n ks)) (.mk n ks) := by simp [checkE, hr, beqT_comm]
      rw [T.mk_eta, ← e5] at c6
      refine EvD.body Try.func3 rfl rfl rfl ?_
      refine AWP.seq ?_
      refine AWP.reg ?_
      refine DerQ.run (TT 2) ⟨[.agg [(I6 n), tl ks], .ptr 0 0, (B6 false)] ++ UU 48, [⟨[(I6 n), tl ks], 2, .fresh⟩]⟩ (by kernel_rfl) (tt 2) ?_
      refine AWP.seq ?_
      refine AWP.seq ?_
      refine AWP.reg ?_
      refine DerQ.pre 1 (((2 : Nat) ≤ (2 : Nat)) ∧ (True)) ⟨[.agg [(I6 n), tl ks], .ptr 0 0, (B6 false), U6, U6, U6, U6, .agg [(I6 n), tl ks]] ++ UU 43, [⟨[(I6 n), tl ks], 2, .fresh⟩]⟩ (by kernel_rfl) ⟨(by omega), trivial⟩ ?_
      refine DerQ.callD (f1) ⟨[.agg [(I6 n), tl ks], .ptr 0 0, (B6 false), U6, U6, U6, U6, .agg [(I6 n), tl ks], (B6 true)] ++ UU 42, [⟨[(I6 n), tl ks], 2, .fresh⟩]⟩ ⟨by kernel_rfl, by kernel_rfl, by kernel_rfl⟩ ?_
      refine DerQ.run ((True) ∧ (True)) ⟨[.agg [(I6 n), tl ks], .ptr 0 0, (B6 false), U6, U6, U6, U6, .agg [(I6 n), tl ks], (B6 true), (B6 false)] ++ UU 41, [⟨[(I6 n), tl ks], 2, .fresh⟩]⟩ (by kernel_rfl) ⟨trivial, trivial⟩ ?_
      refine AWP.cond (b := false) (by kernel_rfl) (fun h => nomatch h) (fun _ => ?_)
      refine AWP.kill [0, 7, 8, 9] ⟨[.undef, .ptr 0 0, .sc (.bool false), .undef, .undef, .undef, .undef, .undef, .undef, .undef, .undef, .undef, .undef, .undef, .undef, .undef, .undef, .undef, .undef, .undef, .undef, .undef, .undef, .undef, .undef, .undef, .undef, .undef, .undef, .undef, .undef, .undef, .undef, .undef, .undef, .undef, .undef, .undef, .undef, .undef, .undef, .undef, .undef, .undef, .undef, .undef, .undef, .undef, .undef, .undef, .undef], [⟨[.sc (.int .i64 (n)), .sl (tcs ks) (List.length ks) .any], 2, .fresh⟩]⟩ (by kernel_rfl) ?_
      refine AWP.skip ?_
      refine AWP.seq ?_
      refine AWP.reg ?_
      refine DerQ.pre 1 (((2 : Nat) ≤ (2 : Nat)) ∧ (True)) ⟨[U6, .ptr 0 0, (B6 false)] ++ UU 9 ++ [.agg [(I6 n), tl ks]] ++ UU 38, [⟨[(I6 n), tl ks], 2, .fresh⟩]⟩ (by kernel_rfl) ⟨(by omega), trivial⟩ ?_
      refine DerQ.callD (c1) ⟨[U6, .ptr 0 0, (B6 false)] ++ UU 9 ++ [.agg [(I6 n), tl ks], .tup [.agg [(I6 (T.n (normE (T.mk n ks)))), tl (T.ks (normE (T.mk n ks)))], (I6 0)]] ++ UU 37, [⟨[(I6 n), tl ks], 2, .fresh⟩]⟩ ⟨by kernel_rfl, by kernel_rfl, by kernel_rfl⟩ ?_
      refine DerQ.run ((True) ∧ ((True) ∧ ((True) ∧ ((True) ∧ (((2 : Nat) ≤ (2 : Nat)) ∧ ((True) ∧ (True))))))) ⟨[U6, .ptr 0 0, (B6 false), .ptr 1 0, (I6 0)] ++ UU 6 ++ [.tup [.agg [(I6 (T.n (normE (T.mk n ks)))), tl (T.ks (normE (T.mk n ks)))], (I6 0)], .agg [(I6 n), tl ks], .tup [.agg [(I6 (T.n (normE (T.mk n ks)))), tl (T.ks (normE (T.mk n ks)))], (I6 0)], .agg [(I6 (T.n (normE (T.mk n ks)))), tl (T.ks (normE (T.mk n ks)))], (I6 0)] ++ UU 35, [⟨[(I6 n), tl ks], 2, .fresh⟩, ⟨[(I6 (T.n (normE (T.mk n ks)))), tl (T.ks (normE (T.mk n ks)))], 2, .fresh⟩]⟩ (by kernel_rfl) ⟨trivial, ⟨trivial, ⟨trivial, ⟨trivial, ⟨(by omega), ⟨trivial, trivial⟩⟩⟩⟩⟩⟩ ?_
      refine AWP.seq ?_
      refine AWP.seq ?_
      refine AWP.kill [11, 12, 13, 14, 15] ⟨[.undef, .ptr 0 0, .sc (.bool false), .ptr 1 0, .sc (.int .i64 0), .undef, .undef, .undef, .undef, .undef, .undef, .undef, .undef, .undef, .undef, .undef, .undef, .undef, .undef, .undef, .undef, .undef, .undef, .undef, .undef, .undef, .undef, .undef, .undef, .undef, .undef, .undef, .undef, .undef, .undef, .undef, .undef, .undef, .undef, .undef, .undef, .undef, .undef, .undef, .undef, .undef, .undef, .undef, .undef, .undef, .undef], [⟨[.sc (.int .i64 (n)), .sl (tcs ks) (List.length ks) .any], 2, .fresh⟩, ⟨[.sc (.int .i64 (T.n (normE (T.mk n ks)))), .sl (tcs (T.ks (normE (T.mk n ks)))) (List.length (T.ks (normE (T.mk n ks)))) .any], 2, .fresh⟩]⟩ (by kernel_rfl) ?_
      refine AWP.reg ?_
      refine DerQ.run (TT 2) ⟨[U6, .ptr 0 0, (B6 false), .ptr 1 0, (I6 0)] ++ UU 11 ++ [(I6 0), (B6 false)] ++ UU 33, [⟨[(I6 n), tl ks], 2, .fresh⟩, ⟨[(I6 (T.n (normE (T.mk n ks)))), tl (T.ks (normE (T.mk n ks)))], 2, .fresh⟩]⟩ (by kernel_rfl) (tt 2) ?_
      refine AWP.cond (b := false) (by kernel_rfl) (fun h => nomatch h) (fun _ => ?_)
      refine AWP.skip ?_
      refine AWP.seq ?_
      refine AWP.reg ?_
      refine DerQ.pre 1 (((2 : Nat) ≤ (2 : Nat)) ∧ (True)) ⟨[U6, .ptr 0 0, (B6 false), .ptr 1 0, (I6 0)] ++ UU 11 ++ [(I6 0), (B6 false)] ++ UU 7 ++ [.agg [(I6 (T.n (normE (T.mk n ks)))), tl (T.ks (normE (T.mk n ks)))]] ++ UU 25, [⟨[(I6 n), tl ks], 2, .fresh⟩, ⟨[(I6 (T.n (normE (T.mk n ks)))), tl (T.ks (normE (T.mk n ks)))], 2, .fresh⟩]⟩ (by kernel_rfl) ⟨(by omega), trivial⟩ ?_
      refine DerQ.callD (c2) ⟨[U6, .ptr 0 0, (B6 false), .ptr 1 0, (I6 0)] ++ UU 11 ++ [(I6 0), (B6 false)] ++ UU 7 ++ [.agg [(I6 (T.n (normE (T.mk n ks)))), tl (T.ks (normE (T.mk n ks)))], .tup [.agg [(I6 (T.n (normE (T.mk n ks)))), tl (T.ks (normE (T.mk n ks)))], (I6 0)]] ++ UU 24, [⟨[(I6 n), tl ks], 2, .fresh⟩, ⟨[(I6 (T.n (normE (T.mk n ks)))), tl (T.ks (normE (T.mk n ks)))], 2, .fresh⟩]⟩ ⟨by kernel_rfl, by kernel_rfl, by kernel_rfl⟩ ?_
      refine DerQ.run ((True) ∧ ((True) ∧ ((True) ∧ ((True) ∧ (((2 : Nat) ≤ (2 : Nat)) ∧ ((True) ∧ (True))))))) ⟨[U6, .ptr 0 0, (B6 false), .ptr 1 0, (I6 0), .ptr 2 0, (I6 0)] ++ UU 9 ++ [(I6 0), (B6 false)] ++ UU 6 ++ [.tup [.agg [(I6 (T.n (normE (T.mk n ks)))), tl (T.ks (normE (T.mk n ks)))], (I6 0)], .agg [(I6 (T.n (normE (T.mk n ks)))), tl (T.ks (normE (T.mk n ks)))], .tup [.agg [(I6 (T.n (normE (T.mk n ks)))), tl (T.ks (normE (T.mk n ks)))], (I6 0)], .agg [(I6 (T.n (normE (T.mk n ks)))), tl (T.ks (normE (T.mk n ks)))], (I6 0)] ++ UU 22, [⟨[(I6 n), tl ks], 2, .fresh⟩, ⟨[(I6 (T.n (normE (T.mk n ks)))), tl (T.ks (normE (T.mk n ks)))], 2, .fresh⟩, ⟨[(I6 (T.n (normE (T.mk n ks)))), tl (T.ks (normE (T.mk n ks)))], 2, .fresh⟩]⟩ (by kernel_rfl) ⟨trivial, ⟨trivial, ⟨trivial, ⟨trivial, ⟨(by omega), ⟨trivial, trivial⟩⟩⟩⟩⟩⟩ ?_
      refine AWP.seq ?_
      refine AWP.kill [4, 16, 17, 24, 25, 26, 27, 28] ⟨[.undef, .ptr 0 0, .sc (.bool false), .ptr 1 0, .undef, .ptr 2 0, .sc (.int .i64 0), .undef, .undef, .undef, .undef, .undef, .undef, .undef, .undef, .undef, .undef, .undef, .undef, .undef, .undef, .undef, .undef, .undef, .undef, .undef, .undef, .undef, .undef, .undef, .undef, .undef, .undef, .undef, .undef, .undef, .undef, .undef, .undef, .undef, .undef, .undef, .undef, .undef, .undef, .undef, .undef, .undef, .undef, .undef, .undef], [⟨[.sc (.int .i64 (n)), .sl (tcs ks) (List.length ks) .any], 2, .fresh⟩, ⟨[.sc (.int .i64 (T.n (normE (T.mk n ks)))), .sl (tcs (T.ks (normE (T.mk n ks)))) (List.length (T.ks (normE (T.mk n ks)))) .any], 2, .fresh⟩, ⟨[.sc (.int .i64 (T.n (normE (T.mk n ks)))), .sl (tcs (T.ks (normE (T.mk n ks)))) (List.length (T.ks (normE (T.mk n ks)))) .any], 2, .fresh⟩]⟩ (by kernel_rfl) ?_
      refine AWP.drawX mixed (fun o => [33, 38, 42, 45, 49].contains (o.dst.getD 0)) (by kernel_rfl) ?_
      refine DerX.pre 4 ((True) ∧ ((True) ∧ ((True) ∧ (((2 : Nat) ≤ (2 : Nat)) ∧ (True))))) [(I6 0), (B6 true), (B6 true), .agg [(I6 (T.n (normE (T.mk n ks)))), tl (T.ks (normE (T.mk n ks)))]] ⟨[U6, .ptr 0 0, (B6 false), .ptr 1 0, U6, .ptr 2 0, (I6 0)] ++ UU 22 ++ [(I6 0), (B6 true), (B6 true), .agg [(I6 (T.n (normE (T.mk n ks)))), tl (T.ks (normE (T.mk n ks)))]] ++ UU 18, [⟨[(I6 n), tl ks], 2, .fresh⟩, ⟨[(I6 (T.n (normE (T.mk n ks)))), tl (T.ks (normE (T.mk n ks)))], 2, .fresh⟩, ⟨[(I6 (T.n (normE (T.mk n ks)))), tl (T.ks (normE (T.mk n ks)))], 2, .fresh⟩]⟩ (by intro ext; kernel_rfl) (by kernel_rfl) ⟨trivial, ⟨trivial, ⟨trivial, ⟨(by omega), trivial⟩⟩⟩⟩ ?_
      refine DerX.callD (c3) ⟨[U6, .ptr 0 0, (B6 false), .ptr 1 0, U6, .ptr 2 0, (I6 0)] ++ UU 22 ++ [(I6 0), (B6 true), (B6 true), .agg [(I6 (T.n (normE (T.mk n ks)))), tl (T.ks (normE (T.mk n ks)))], (B6 true)] ++ UU 17, [⟨[(I6 n), tl ks], 2, .fresh⟩, ⟨[(I6 (T.n (normE (T.mk n ks)))), tl (T.ks (normE (T.mk n ks)))], 2, .fresh⟩, ⟨[(I6 (T.n (normE (T.mk n ks)))), tl (T.ks (normE (T.mk n ks)))], 2, .fresh⟩]⟩ ⟨by kernel_rfl, by kernel_rfl, by kernel_rfl⟩ ?_
      refine DerX.pre 4 ((True) ∧ ((True) ∧ (((2 : Nat) ≤ (2 : Nat)) ∧ (((2 : Nat) ≤ (2 : Nat)) ∧ (True))))) [(B6 true), (B6 true), .agg [(I6 (T.n (normE (T.mk n ks)))), tl (T.ks (normE (T.mk n ks)))], .agg [(I6 (T.n (normE (T.mk n ks)))), tl (T.ks (normE (T.mk n ks)))]] ⟨[U6, .ptr 0 0, (B6 false), .ptr 1 0, U6, .ptr 2 0, (I6 0)] ++ UU 22 ++ [(I6 0), (B6 true), (B6 true), .agg [(I6 (T.n (normE (T.mk n ks)))), tl (T.ks (normE (T.mk n ks)))], (B6 true), (B6 true), (B6 true), .agg [(I6 (T.n (normE (T.mk n ks)))), tl (T.ks (normE (T.mk n ks)))], .agg [(I6 (T.n (normE (T.mk n ks)))), tl (T.ks (normE (T.mk n ks)))]] ++ UU 13, [⟨[(I6 n), tl ks], 2, .fresh⟩, ⟨[(I6 (T.n (normE (T.mk n ks)))), tl (T.ks (normE (T.mk n ks)))], 2, .fresh⟩, ⟨[(I6 (T.n (normE (T.mk n ks)))), tl (T.ks (normE (T.mk n ks)))], 2, .fresh⟩]⟩ (by intro ext; kernel_rfl) (by kernel_rfl) ⟨trivial, ⟨trivial, ⟨(by omega), ⟨(by omega), trivial⟩⟩⟩⟩ ?_
      refine DerX.callD (c5) ⟨[U6, .ptr 0 0, (B6 false), .ptr 1 0, U6, .ptr 2 0, (I6 0)] ++ UU 22 ++ [(I6 0), (B6 true), (B6 true), .agg [(I6 (T.n (normE (T.mk n ks)))), tl (T.ks (normE (T.mk n ks)))], (B6 true), (B6 true), (B6 true), .agg [(I6 (T.n (normE (T.mk n ks)))), tl (T.ks (normE (T.mk n ks)))], .agg [(I6 (T.n (normE (T.mk n ks)))), tl (T.ks (normE (T.mk n ks)))], (B6 true)] ++ UU 12, [⟨[(I6 n), tl ks], 2, .fresh⟩, ⟨[(I6 (T.n (normE (T.mk n ks)))), tl (T.ks (normE (T.mk n ks)))], 2, .fresh⟩, ⟨[(I6 (T.n (normE (T.mk n ks)))), tl (T.ks (normE (T.mk n ks)))], 2, .fresh⟩]⟩ ⟨by kernel_rfl, by kernel_rfl, by kernel_rfl⟩ ?_
      refine DerX.pre 3 ((True) ∧ ((True) ∧ (((2 : Nat) ≤ (2 : Nat)) ∧ (True)))) [(B6 true), (B6 true), .agg [(I6 n), tl ks]] ⟨[U6, .ptr 0 0, (B6 false), .ptr 1 0, U6, .ptr 2 0, (I6 0)] ++ UU 22 ++ [(I6 0), (B6 true), (B6 true), .agg [(I6 (T.n (normE (T.mk n ks)))), tl (T.ks (normE (T.mk n ks)))], (B6 true), (B6 true), (B6 true), .agg [(I6 (T.n (normE (T.mk n ks)))), tl (T.ks (normE (T.mk n ks)))], .agg [(I6 (T.n (normE (T.mk n ks)))), tl (T.ks (normE (T.mk n ks)))], (B6 true), (B6 true), (B6 true), .agg [(I6 n), tl ks]] ++ UU 9, [⟨[(I6 n), tl ks], 2, .fresh⟩, ⟨[(I6 (T.n (normE (T.mk n ks)))), tl (T.ks (normE (T.mk n ks)))], 2, .fresh⟩, ⟨[(I6 (T.n (normE (T.mk n ks)))), tl (T.ks (normE (T.mk n ks)))], 2, .fresh⟩]⟩ (by intro ext; kernel_rfl) (by kernel_rfl) ⟨trivial, ⟨trivial, ⟨(by omega), trivial⟩⟩⟩ ?_
      refine DerX.callD (c4) ⟨[U6, .ptr 0 0, (B6 false), .ptr 1 0, U6, .ptr 2 0, (I6 0)] ++ UU 22 ++ [(I6 0), (B6 true), (B6 true), .agg [(I6 (T.n (normE (T.mk n ks)))), tl (T.ks (normE (T.mk n ks)))], (B6 true), (B6 true), (B6 true), .agg [(I6 (T.n (normE (T.mk n ks)))), tl (T.ks (normE (T.mk n ks)))], .agg [(I6 (T.n (normE (T.mk n ks)))), tl (T.ks (normE (T.mk n ks)))], (B6 true), (B6 true), (B6 true), .agg [(I6 n), tl ks], (B6 (checkE (T.mk n ks)))] ++ UU 8, [⟨[(I6 n), tl ks], 2, .fresh⟩, ⟨[(I6 (T.n (normE (T.mk n ks)))), tl (T.ks (normE (T.mk n ks)))], 2, .fresh⟩, ⟨[(I6 (T.n (normE (T.mk n ks)))), tl (T.ks (normE (T.mk n ks)))], 2, .fresh⟩]⟩ ⟨by kernel_rfl, by kernel_rfl, by kernel_rfl⟩ ?_
      refine DerX.pre 2 (((2 : Nat) ≤ (2 : Nat)) ∧ (((2 : Nat) ≤ (2 : Nat)) ∧ (True))) [.agg [(I6 (T.n (normE (T.mk n ks)))), tl (T.ks (normE (T.mk n ks)))], .agg [(I6 n), tl ks]] ⟨[U6, .ptr 0 0, (B6 false), .ptr 1 0, U6, .ptr 2 0, (I6 0)] ++ UU 22 ++ [(I6 0), (B6 true), (B6 true), .agg [(I6 (T.n (normE (T.mk n ks)))), tl (T.ks (normE (T.mk n ks)))], (B6 true), (B6 true), (B6 true), .agg [(I6 (T.n (normE (T.mk n ks)))), tl (T.ks (normE (T.mk n ks)))], .agg [(I6 (T.n (normE (T.mk n ks)))), tl (T.ks (normE (T.mk n ks)))], (B6 true), (B6 true), (B6 true), .agg [(I6 n), tl ks], (B6 (checkE (T.mk n ks))), .agg [(I6 (T.n (normE (T.mk n ks)))), tl (T.ks (normE (T.mk n ks)))], .agg [(I6 n), tl ks]] ++ UU 6, [⟨[(I6 n), tl ks], 2, .fresh⟩, ⟨[(I6 (T.n (normE (T.mk n ks)))), tl (T.ks (normE (T.mk n ks)))], 2, .fresh⟩, ⟨[(I6 (T.n (normE (T.mk n ks)))), tl (T.ks (normE (T.mk n ks)))], 2, .fresh⟩]⟩ (by intro ext; kernel_rfl) (by kernel_rfl) ⟨(by omega), ⟨(by omega), trivial⟩⟩ ?_
      refine DerX.callD (c6) ⟨[U6, .ptr 0 0, (B6 false), .ptr 1 0, U6, .ptr 2 0, (I6 0)] ++ UU 22 ++ [(I6 0), (B6 true), (B6 true), .agg [(I6 (T.n (normE (T.mk n ks)))), tl (T.ks (normE (T.mk n ks)))], (B6 true), (B6 true), (B6 true), .agg [(I6 (T.n (normE (T.mk n ks)))), tl (T.ks (normE (T.mk n ks)))], .agg [(I6 (T.n (normE (T.mk n ks)))), tl (T.ks (normE (T.mk n ks)))], (B6 true), (B6 true), (B6 true), .agg [(I6 n), tl ks], (B6 (checkE (T.mk n ks))), .agg [(I6 (T.n (normE (T.mk n ks)))), tl (T.ks (normE (T.mk n ks)))], .agg [(I6 n), tl ks], (B6 (checkE (T.mk n ks)))] ++ UU 5, [⟨[(I6 n), tl ks], 2, .fresh⟩, ⟨[(I6 (T.n (normE (T.mk n ks)))), tl (T.ks (normE (T.mk n ks)))], 2, .fresh⟩, ⟨[(I6 (T.n (normE (T.mk n ks)))), tl (T.ks (normE (T.mk n ks)))], 2, .fresh⟩]⟩ ⟨by kernel_rfl, by kernel_rfl, by kernel_rfl⟩ ?_
      refine DerX.pre 3 (TT 3) [(B6 (checkE (T.mk n ks) == checkE (T.mk n ks))), (B6 (checkE (T.mk n ks) == checkE (T.mk n ks))), (B6 (checkE (T.mk n ks) == checkE (T.mk n ks)))] ⟨[U6, .ptr 0 0, (B6 false), .ptr 1 0, U6, .ptr 2 0, (I6 0)] ++ UU 22 ++ [(I6 0), (B6 true), (B6 true), .agg [(I6 (T.n (normE (T.mk n ks)))), tl (T.ks (normE (T.mk n ks)))], (B6 true), (B6 true), (B6 true), .agg [(I6 (T.n (normE (T.mk n ks)))), tl (T.ks (normE (T.mk n ks)))], .agg [(I6 (T.n (normE (T.mk n ks)))), tl (T.ks (normE (T.mk n ks)))], (B6 true), (B6 true), (B6 true), .agg [(I6 n), tl ks], (B6 (checkE (T.mk n ks))), .agg [(I6 (T.n (normE (T.mk n ks)))), tl (T.ks (normE (T.mk n ks)))], .agg [(I6 n), tl ks], (B6 (checkE (T.mk n ks))), (B6 (checkE (T.mk n ks) == checkE (T.mk n ks))), (B6 (checkE (T.mk n ks) == checkE (T.mk n ks))), (B6 (checkE (T.mk n ks) == checkE (T.mk n ks))), U6, .undef], [⟨[(I6 n), tl ks], 2, .fresh⟩, ⟨[(I6 (T.n (normE (T.mk n ks)))), tl (T.ks (normE (T.mk n ks)))], 2, .fresh⟩, ⟨[(I6 (T.n (normE (T.mk n ks)))), tl (T.ks (normE (T.mk n ks)))], 2, .fresh⟩]⟩ (by intro ext; kernel_rfl) (by kernel_rfl) (tt 3) ?_
      cases h2 : (checkE (T.mk n ks) == checkE (T.mk n ks))
      · have h2' := ne_of_beq_false h2
        exact absurd h2 (by simp)
      · have h2' := eq_of_beq h2
        refine DerX.callD (heads05) ⟨[U6, .ptr 0 0, (B6 false), .ptr 1 0, U6, .ptr 2 0, (I6 0)] ++ UU 22 ++ [(I6 0), (B6 true), (B6 true), .agg [(I6 (T.n (normE (T.mk n ks)))), tl (T.ks (normE (T.mk n ks)))], (B6 true), (B6 true), (B6 true), .agg [(I6 (T.n (normE (T.mk n ks)))), tl (T.ks (normE (T.mk n ks)))], .agg [(I6 (T.n (normE (T.mk n ks)))), tl (T.ks (normE (T.mk n ks)))], (B6 true), (B6 true), (B6 true), .agg [(I6 n), tl ks], (B6 (checkE (T.mk n ks))), .agg [(I6 (T.n (normE (T.mk n ks)))), tl (T.ks (normE (T.mk n ks)))], .agg [(I6 n), tl ks], (B6 (checkE (T.mk n ks))), (B6 true), (B6 true), (B6 true), (B6 true), .undef], [⟨[(I6 n), tl ks], 2, .fresh⟩, ⟨[(I6 (T.n (normE (T.mk n ks)))), tl (T.ks (normE (T.mk n ks)))], 2, .fresh⟩, ⟨[(I6 (T.n (normE (T.mk n ks)))), tl (T.ks (normE (T.mk n ks)))], 2, .fresh⟩]⟩ ⟨by kernel_rfl, by kernel_rfl, by kernel_rfl⟩ ?_
        refine DerX.pre 2 (TT 2) [(B6 true), (B6 true)] ⟨[U6, .ptr 0 0, (B6 true), .ptr 1 0, U6, .ptr 2 0, (I6 0)] ++ UU 22 ++ [(I6 0), (B6 true), (B6 true), .agg [(I6 (T.n (normE (T.mk n ks)))), tl (T.ks (normE (T.mk n ks)))], (B6 true), (B6 true), (B6 true), .agg [(I6 (T.n (normE (T.mk n ks)))), tl (T.ks (normE (T.mk n ks)))], .agg [(I6 (T.n (normE (T.mk n ks)))), tl (T.ks (normE (T.mk n ks)))], (B6 true), (B6 true), (B6 true), .agg [(I6 n), tl ks], (B6 (checkE (T.mk n ks))), .agg [(I6 (T.n (normE (T.mk n ks)))), tl (T.ks (normE (T.mk n ks)))], .agg [(I6 n), tl ks], (B6 (checkE (T.mk n ks))), (B6 true), (B6 true), (B6 true), (B6 true), (B6 true)], [⟨[(I6 n), tl ks], 2, .fresh⟩, ⟨[(I6 (T.n (normE (T.mk n ks)))), tl (T.ks (normE (T.mk n ks)))], 2, .fresh⟩, ⟨[(I6 (T.n (normE (T.mk n ks)))), tl (T.ks (normE (T.mk n ks)))], 2, .fresh⟩]⟩ (by intro ext; kernel_rfl) (by kernel_rfl) (tt 2) ?_
        refine DerX.nil ?_
        refine AWP.kill [1, 3, 5, 6, 29, 30, 31, 32, 33, 34, 35, 36, 37, 38, 39, 40, 41, 42, 43, 44, 45, 46, 47, 48, 49, 50] ⟨[.undef, .undef, .sc (.bool true), .undef, .undef, .undef, .undef, .undef, .undef, .undef, .undef, .undef, .undef, .undef, .undef, .undef, .undef, .undef, .undef, .undef, .undef, .undef, .undef, .undef, .undef, .undef, .undef, .undef, .undef, .undef, .undef, .undef, .undef, .undef, .undef, .undef, .undef, .undef, .undef, .undef, .undef, .undef, .undef, .undef, .undef, .undef, .undef, .undef, .undef, .undef, .undef], [⟨[.sc (.int .i64 (n)), .sl (tcs ks) (List.length ks) .any], 2, .fresh⟩, ⟨[.sc (.int .i64 (T.n (normE (T.mk n ks)))), .sl (tcs (T.ks (normE (T.mk n ks)))) (List.length (T.ks (normE (T.mk n ks)))) .any], 2, .fresh⟩, ⟨[.sc (.int .i64 (T.n (normE (T.mk n ks)))), .sl (tcs (T.ks (normE (T.mk n ks)))) (List.length (T.ks (normE (T.mk n ks)))) .any], 2, .fresh⟩]⟩ (by kernel_rfl) ?_
        refine AWP.ret ?_
        refine EvF.fin (.sc (.bool true)) _ (by simp) (by kernel_rfl) ?_
        exact Shrink.all rfl rfl
  · have f1 := dec_f (few n ks) h1
    refine EvD.body Try.func3 rfl rfl rfl ?_
    refine AWP.seq ?_
    refine AWP.reg ?_
    refine DerQ.run (TT 2) ⟨[.agg [(I6 n), tl ks], .ptr 0 0, (B6 false)] ++ UU 48, [⟨[(I6 n), tl ks], 2, .fresh⟩]⟩ (by kernel_rfl) (tt 2) ?_
    refine AWP.seq ?_
    refine AWP.seq ?_
    refine AWP.reg ?_
    refine DerQ.pre 1 (((2 : Nat) ≤ (2 : Nat)) ∧ (True)) ⟨[.agg [(I6 n), tl ks], .ptr 0 0, (B6 false), U6, U6, U6, U6, .agg [(I6 n), tl ks]] ++ UU 43, [⟨[(I6 n), tl ks], 2, .fresh⟩]⟩ (by kernel_rfl) ⟨(by omega), trivial⟩ ?_
    refine DerQ.callD (f1) ⟨[.agg [(I6 n), tl ks], .ptr 0 0, (B6 false), U6, U6, U6, U6, .agg [(I6 n), tl ks], (B6 false)] ++ UU 42, [⟨[(I6 n), tl ks], 2, .fresh⟩]⟩ ⟨by kernel_rfl, by kernel_rfl, by kernel_rfl⟩ ?_
    refine DerQ.run ((True) ∧ (True)) ⟨[.agg [(I6 n), tl ks], .ptr 0 0, (B6 false), U6, U6, U6, U6, .agg [(I6 n), tl ks], (B6 false), (B6 true)] ++ UU 41, [⟨[(I6 n), tl ks], 2, .fresh⟩]⟩ (by kernel_rfl) ⟨trivial, trivial⟩ ?_
    refine AWP.cond (b := true) (by kernel_rfl) (fun _ => ?_) (fun h => nomatch h)
    refine AWP.seq ?_
    refine AWP.kill [0, 7, 8, 9] ⟨[.undef, .ptr 0 0, .sc (.bool false), .undef, .undef, .undef, .undef, .undef, .undef, .undef, .undef, .undef, .undef, .undef, .undef, .undef, .undef, .undef, .undef, .undef, .undef, .undef, .undef, .undef, .undef, .undef, .undef, .undef, .undef, .undef, .undef, .undef, .undef, .undef, .undef, .undef, .undef, .undef, .undef, .undef, .undef, .undef, .undef, .undef, .undef, .undef, .undef, .undef, .undef, .undef, .undef], [⟨[.sc (.int .i64 (n)), .sl (tcs ks) (List.length ks) .any], 2, .fresh⟩]⟩ (by kernel_rfl) ?_
    refine AWP.reg ?_
    refine DerQ.callD (heads05) ⟨[U6, .ptr 0 0, (B6 false)] ++ UU 7 ++ [(B6 true)] ++ UU 40, [⟨[(I6 n), tl ks], 2, .fresh⟩]⟩ ⟨by kernel_rfl, by kernel_rfl, by kernel_rfl⟩ ?_
    refine DerQ.run ((True) ∧ (True)) ⟨[U6, .ptr 0 0, (B6 true)] ++ UU 7 ++ [(B6 true)] ++ UU 40, [⟨[(I6 n), tl ks], 2, .fresh⟩]⟩ (by kernel_rfl) ⟨trivial, trivial⟩ ?_
    refine AWP.ret ?_
    refine EvF.fin (.sc (.bool true)) _ (by simp) (by kernel_rfl) ?_
    exact Shrink.all rfl rfl
end Go.Tr
