/- Walks and laws. -/
import Derived.Test.YtgpikfncinkjlaaId0
import Derived.Test.YtgpikfncinkjlaaLibB
set_option maxRecDepth 100000
set_option maxHeartbeats 0
set_option linter.unusedSimpArgs false
set_option linter.unusedVariables false
namespace Go.Tr
open Go Go.Abs Go.Proofs
theorem few (n : Int) (ks : List T) : EvD Try.prog 15 [.agg [.sc (.int .i64 n), .sl (tcs ks) ks.length .any]] (.sc (.bool (decide (size (.mk n ks) ≤ 120)))) := by
  refine EvD.body Try.func15 rfl rfl rfl ?_
  refine AWP.seq ?_
  refine AWP.reg ?_
  refine DerQ.run (TT 2) ⟨[.agg [(I6 n), tl ks], .ptr 0 0, (B6 false), U6, U6, .undef], [⟨[(I6 n), tl ks], 2, .fresh⟩]⟩ (by kernel_rfl) (tt 2) ?_
  refine AWP.seq ?_
  refine AWP.reg ?_
  refine DerQ.pre 1 (((2 : Nat) ≤ (2 : Nat)) ∧ (True)) ⟨[.agg [(I6 n), tl ks], .ptr 0 0, (B6 false), .agg [(I6 n), tl ks], U6, .undef], [⟨[(I6 n), tl ks], 2, .fresh⟩]⟩ (by kernel_rfl) ⟨(by omega), trivial⟩ ?_
  refine DerQ.callD (r_size (size (.mk n ks)) n ks ((120 : Int)) (by omega) (by omega) (by omega)) ⟨[.agg [(I6 n), tl ks], .ptr 0 0, (B6 false), .agg [(I6 n), tl ks], (I6 (minI (size (T.mk n ks)) 120)), .undef], [⟨[(I6 n), tl ks], 2, .fresh⟩]⟩ ⟨by kernel_rfl, by kernel_rfl, by kernel_rfl⟩ ?_
  refine DerQ.run (TT 2) ⟨[.agg [(I6 n), tl ks], .ptr 0 0, (B6 (decide (minI (size (T.mk n ks)) 120 ≤ 120))), .agg [(I6 n), tl ks], (I6 (minI (size (T.mk n ks)) 120)), (B6 (decide (minI (size (T.mk n ks)) 120 ≤ 120)))], [⟨[(I6 n), tl ks], 2, .fresh⟩]⟩ (by kernel_rfl) (tt 2) ?_
  refine AWP.kill [0, 1, 3, 4, 5] ⟨[.undef, .undef, .sc (.bool (decide (minI (size (T.mk n ks)) 120 ≤ 120))), .undef, .undef, .undef], [⟨[.sc (.int .i64 (n)), .sl (tcs ks) (List.length ks) .any], 2, .fresh⟩]⟩ (by kernel_rfl) ?_
  refine AWP.ret ?_
  refine EvF.fin (.sc (.bool (decide (minI (size (T.mk n ks)) 120 ≤ 120)))) _ (by simp) (by kernel_rfl) ?_
  refine Shrink.all ?_ rfl
  (congr 2; rw [Bool.eq_iff_iff, decide_eq_true_eq, decide_eq_true_eq]; unfold minI; split <;> omega; done)
theorem short (a b : Int) (c d : List T) : EvD Try.prog 113 [.agg [.sc (.int .i64 a), .sl (tcs c) c.length .any], .agg [.sc (.int .i64 b), .sl (tcs d) d.length .any]] (ag (shortI (.mk a c) (.mk b d))) := by
  refine EvD.body Try.func113 rfl rfl rfl ?_
  refine AWP.seq ?_
  refine AWP.reg ?_
  refine DerQ.run (TT 3) ⟨[.agg [(I6 a), tl c], .agg [(I6 b), tl d], .ptr 0 0, .ptr 1 0, .ptr 2 0] ++ UU 14, [⟨[(I6 a), tl c], 2, .fresh⟩, ⟨[(I6 b), tl d], 2, .fresh⟩, ⟨[(I6 0), .sl [] 0 .nil], 2, .fresh⟩]⟩ (by kernel_rfl) (tt 3) ?_
  refine AWP.seq ?_
  refine AWP.seq ?_
  refine AWP.reg ?_
  refine DerQ.pre 5 ((True) ∧ (((1 : Nat) < (2 : Nat)) ∧ ((True) ∧ ((True) ∧ ((True) ∧ (True)))))) ⟨[.agg [(I6 a), tl c], .agg [(I6 b), tl d], .ptr 0 0, .ptr 1 0, .ptr 2 0, .ptr 0 1, tl c, (I6 (↑(List.length c) : Int)), (B6 ((↑(List.length c) : Int) == 0)), (B6 ((↑(List.length c) : Int) == 0))] ++ UU 9, [⟨[(I6 a), tl c], 2, .fresh⟩, ⟨[(I6 b), tl d], 2, .fresh⟩, ⟨[(I6 0), .sl [] 0 .nil], 2, .fresh⟩]⟩ (by kernel_rfl) ⟨trivial, ⟨(by omega), ⟨trivial, ⟨trivial, ⟨trivial, trivial⟩⟩⟩⟩⟩ ?_
  cases h1 : ((↑(List.length c) : Int) == 0)
  · have h1' := ne_of_beq_false h1
    refine DerQ.run ((True) ∧ (True)) ⟨[.agg [(I6 a), tl c], .agg [(I6 b), tl d], .ptr 0 0, .ptr 1 0, .ptr 2 0, .ptr 0 1, tl c, (I6 (↑(List.length c) : Int)), (B6 false), (B6 false), .tup [], .tup [], .tup [], .tup [], (B6 false), U6, U6, U6, .undef], [⟨[(I6 a), tl c], 2, .fresh⟩, ⟨[(I6 b), tl d], 2, .fresh⟩, ⟨[(I6 0), .sl [] 0 .nil], 2, .fresh⟩]⟩ (by kernel_rfl) ⟨trivial, trivial⟩ ?_
    refine AWP.kill [0, 1, 5, 6, 7, 8, 9, 10, 11, 12, 13] ⟨[.undef, .undef, .ptr 0 0, .ptr 1 0, .ptr 2 0, .undef, .undef, .undef, .undef, .undef, .undef, .undef, .undef, .undef, .sc (.bool false), .undef, .undef, .undef, .undef], [⟨[.sc (.int .i64 (a)), .sl (tcs c) (List.length c) .any], 2, .fresh⟩, ⟨[.sc (.int .i64 (b)), .sl (tcs d) (List.length d) .any], 2, .fresh⟩, ⟨[.sc (.int .i64 0), .sl [] 0 .nil], 2, .fresh⟩]⟩ (by kernel_rfl) ?_
    refine AWP.cond (b := false) (by kernel_rfl) (fun h => nomatch h) (fun _ => ?_)
    refine AWP.skip ?_
    refine AWP.seq ?_
    refine AWP.reg ?_
    refine DerQ.pre 2 (((2 : Nat) ≤ (2 : Nat)) ∧ (((2 : Nat) ≤ (2 : Nat)) ∧ (True))) ⟨[U6, U6, .ptr 0 0, .ptr 1 0, .ptr 2 0] ++ UU 9 ++ [(B6 false), U6, .agg [(I6 a), tl c], .agg [(I6 b), tl d], .undef], [⟨[(I6 a), tl c], 2, .fresh⟩, ⟨[(I6 b), tl d], 2, .fresh⟩, ⟨[(I6 0), .sl [] 0 .nil], 2, .fresh⟩]⟩ (by kernel_rfl) ⟨(by omega), ⟨(by omega), trivial⟩⟩ ?_
    refine DerQ.callD (inner a b (tcs c) (tcs d) (List.length c) (List.length d)) ⟨[U6, U6, .ptr 0 0, .ptr 1 0, .ptr 2 0] ++ UU 9 ++ [(B6 false), U6, .agg [(I6 a), tl c], .agg [(I6 b), tl d], .agg [(I6 0), .sl [(I6 a), tl c, (I6 b), tl d] 2 .any]], [⟨[(I6 a), tl c], 2, .fresh⟩, ⟨[(I6 b), tl d], 2, .fresh⟩, ⟨[(I6 0), .sl [] 0 .nil], 2, .fresh⟩]⟩ ⟨by kernel_rfl, by kernel_rfl, by kernel_rfl⟩ ?_
    refine DerQ.run (((2 : Nat) ≤ (2 : Nat)) ∧ (True)) ⟨[U6, U6, .ptr 0 0, .ptr 1 0, .ptr 2 0] ++ UU 9 ++ [(B6 false), U6, .agg [(I6 a), tl c], .agg [(I6 b), tl d], .agg [(I6 0), .sl [(I6 a), tl c, (I6 b), tl d] 2 .any]], [⟨[(I6 a), tl c], 2, .fresh⟩, ⟨[(I6 b), tl d], 2, .fresh⟩, ⟨[(I6 0), .sl [(I6 a), tl c, (I6 b), tl d] 2 .any], 2, .fresh⟩]⟩ (by kernel_rfl) ⟨(by omega), trivial⟩ ?_
    refine AWP.kill [2, 3, 14, 16, 17, 18] ⟨[.undef, .undef, .undef, .undef, .ptr 2 0, .undef, .undef, .undef, .undef, .undef, .undef, .undef, .undef, .undef, .undef, .undef, .undef, .undef, .undef], [⟨[.sc (.int .i64 (a)), .sl (tcs c) (List.length c) .any], 2, .fresh⟩, ⟨[.sc (.int .i64 (b)), .sl (tcs d) (List.length d) .any], 2, .fresh⟩, ⟨[.sc (.int .i64 0), .sl [.sc (.int .i64 (a)), .sl (tcs c) (List.length c) .any, .sc (.int .i64 (b)), .sl (tcs d) (List.length d) .any] 2 .any], 2, .fresh⟩]⟩ (by kernel_rfl) ?_
    refine AWP.ret ?_
    refine EvF.fin (.agg [.sc (.int .i64 0), .sl [.sc (.int .i64 (a)), .sl (tcs c) (List.length c) .any, .sc (.int .i64 (b)), .sl (tcs d) (List.length d) .any] 2 .any]) _ (by simp) (by kernel_rfl) ?_
    refine Shrink.dataK [] (True) (.agg [.sc (.int .i64 0), .sl [.sc (.int .i64 (a)), .sl (tcs c) (List.length c) .any, .sc (.int .i64 (b)), .sl (tcs d) (List.length d) .any] 2 .any]) (by kernel_rfl) trivial ?_ rfl
    (rw [short_no (by simp only [T.ks_mk, T.n_mk, isT]; omega)]; rfl; done)
  · have h1' := eq_of_beq h1
    refine DerQ.pre 3 (((2 : Nat) ≤ (2 : Nat)) ∧ ((True) ∧ (((0 : Nat) < (2 : Nat)) ∧ (True)))) ⟨[.agg [(I6 a), tl c], .agg [(I6 b), tl d], .ptr 0 0, .ptr 1 0, .ptr 2 0, .ptr 0 1, tl c, (I6 (↑(List.length c) : Int)), (B6 true), (B6 true), .agg [(I6 b), tl d], .ptr 0 0, (I6 a)] ++ UU 6, [⟨[(I6 a), tl c], 2, .fresh⟩, ⟨[(I6 b), tl d], 2, .fresh⟩, ⟨[(I6 0), .sl [] 0 .nil], 2, .fresh⟩]⟩ (by kernel_rfl) ⟨(by omega), ⟨trivial, ⟨(by omega), trivial⟩⟩⟩ ?_
    refine DerQ.callD (is b a (tcs d) (List.length d)) ⟨[.agg [(I6 a), tl c], .agg [(I6 b), tl d], .ptr 0 0, .ptr 1 0, .ptr 2 0, .ptr 0 1, tl c, (I6 (↑(List.length c) : Int)), (B6 true), (B6 true), .agg [(I6 b), tl d], .ptr 0 0, (I6 a), (B6 (decide (List.length d = 0 ∧ b = a)))] ++ UU 5, [⟨[(I6 a), tl c], 2, .fresh⟩, ⟨[(I6 b), tl d], 2, .fresh⟩, ⟨[(I6 0), .sl [] 0 .nil], 2, .fresh⟩]⟩ ⟨by kernel_rfl, by kernel_rfl, by kernel_rfl⟩ ?_
    refine DerQ.run ((True) ∧ (True)) ⟨[.agg [(I6 a), tl c], .agg [(I6 b), tl d], .ptr 0 0, .ptr 1 0, .ptr 2 0, .ptr 0 1, tl c, (I6 (↑(List.length c) : Int)), (B6 true), (B6 true), .agg [(I6 b), tl d], .ptr 0 0, (I6 a), (B6 (decide (List.length d = 0 ∧ b = a))), (B6 (decide (List.length d = 0 ∧ b = a))), U6, U6, U6, .undef], [⟨[(I6 a), tl c], 2, .fresh⟩, ⟨[(I6 b), tl d], 2, .fresh⟩, ⟨[(I6 0), .sl [] 0 .nil], 2, .fresh⟩]⟩ (by kernel_rfl) ⟨trivial, trivial⟩ ?_
    refine AWP.kill [0, 1, 5, 6, 7, 8, 9, 10, 11, 12, 13] ⟨[.undef, .undef, .ptr 0 0, .ptr 1 0, .ptr 2 0, .undef, .undef, .undef, .undef, .undef, .undef, .undef, .undef, .undef, .sc (.bool (decide (List.length d = 0 ∧ b = a))), .undef, .undef, .undef, .undef], [⟨[.sc (.int .i64 (a)), .sl (tcs c) (List.length c) .any], 2, .fresh⟩, ⟨[.sc (.int .i64 (b)), .sl (tcs d) (List.length d) .any], 2, .fresh⟩, ⟨[.sc (.int .i64 0), .sl [] 0 .nil], 2, .fresh⟩]⟩ (by kernel_rfl) ?_
    refine AWP.cond (b := decide (List.length d = 0 ∧ b = a)) (by kernel_rfl) (fun h2 => ?_) (fun h2 => ?_)
    · have h2' := of_decide_eq_true h2
      refine AWP.seq ?_
      refine AWP.reg ?_
      refine DerQ.run (((2 : Nat) ≤ (2 : Nat)) ∧ (((2 : Nat) ≤ (2 : Nat)) ∧ (True))) ⟨[U6, U6, .ptr 0 0, .ptr 1 0, .ptr 2 0] ++ UU 9 ++ [(B6 (decide (List.length d = 0 ∧ b = a))), .agg [(I6 a), tl c], U6, U6, .undef], [⟨[(I6 a), tl c], 2, .fresh⟩, ⟨[(I6 b), tl d], 2, .fresh⟩, ⟨[(I6 a), tl c], 2, .fresh⟩]⟩ (by kernel_rfl) ⟨(by omega), ⟨(by omega), trivial⟩⟩ ?_
      refine AWP.ret ?_
      refine EvF.fin (.agg [.sc (.int .i64 (a)), .sl (tcs c) (List.length c) .any]) _ (by simp) (by kernel_rfl) ?_
      refine Shrink.dataK [] (True) (.agg [.sc (.int .i64 (a)), .sl (tcs c) (List.length c) .any]) (by kernel_rfl) trivial ?_ rfl
      (rw [short_yes (by simp only [T.ks_mk, T.n_mk, isT]; omega)]; rfl; done)
    · have h2' := of_decide_eq_false h2
      refine AWP.skip ?_
      refine AWP.seq ?_
      refine AWP.reg ?_
      refine DerQ.pre 2 (((2 : Nat) ≤ (2 : Nat)) ∧ (((2 : Nat) ≤ (2 : Nat)) ∧ (True))) ⟨[U6, U6, .ptr 0 0, .ptr 1 0, .ptr 2 0] ++ UU 9 ++ [(B6 (decide (List.length d = 0 ∧ b = a))), U6, .agg [(I6 a), tl c], .agg [(I6 b), tl d], .undef], [⟨[(I6 a), tl c], 2, .fresh⟩, ⟨[(I6 b), tl d], 2, .fresh⟩, ⟨[(I6 0), .sl [] 0 .nil], 2, .fresh⟩]⟩ (by kernel_rfl) ⟨(by omega), ⟨(by omega), trivial⟩⟩ ?_
      refine DerQ.callD (inner a b (tcs c) (tcs d) (List.length c) (List.length d)) ⟨[U6, U6, .ptr 0 0, .ptr 1 0, .ptr 2 0] ++ UU 9 ++ [(B6 (decide (List.length d = 0 ∧ b = a))), U6, .agg [(I6 a), tl c], .agg [(I6 b), tl d], .agg [(I6 0), .sl [(I6 a), tl c, (I6 b), tl d] 2 .any]], [⟨[(I6 a), tl c], 2, .fresh⟩, ⟨[(I6 b), tl d], 2, .fresh⟩, ⟨[(I6 0), .sl [] 0 .nil], 2, .fresh⟩]⟩ ⟨by kernel_rfl, by kernel_rfl, by kernel_rfl⟩ ?_
      refine DerQ.run (((2 : Nat) ≤ (2 : Nat)) ∧ (True)) ⟨[U6, U6, .ptr 0 0, .ptr 1 0, .ptr 2 0] ++ UU 9 ++ [(B6 (decide (List.length d = 0 ∧ b = a))), U6, .agg [(I6 a), tl c], .agg [(I6 b), tl d], .agg [(I6 0), .sl [(I6 a), tl c, (I6 b), tl d] 2 .any]], [⟨[(I6 a), tl c], 2, .fresh⟩, ⟨[(I6 b), tl d], 2, .fresh⟩, ⟨[(I6 0), .sl [(I6 a), tl c, (I6 b), tl d] 2 .any], 2, .fresh⟩]⟩ (by kernel_rfl) ⟨(by omega), trivial⟩ ?_
      refine AWP.kill [2, 3, 14, 16, 17, 18] ⟨[.undef, .undef, .undef, .undef, .ptr 2 0, .undef, .undef, .undef, .undef, .undef, .undef, .undef, .undef, .undef, .undef, .undef, .undef, .undef, .undef], [⟨[.sc (.int .i64 (a)), .sl (tcs c) (List.length c) .any], 2, .fresh⟩, ⟨[.sc (.int .i64 (b)), .sl (tcs d) (List.length d) .any], 2, .fresh⟩, ⟨[.sc (.int .i64 0), .sl [.sc (.int .i64 (a)), .sl (tcs c) (List.length c) .any, .sc (.int .i64 (b)), .sl (tcs d) (List.length d) .any] 2 .any], 2, .fresh⟩]⟩ (by kernel_rfl) ?_
      refine AWP.ret ?_
      refine EvF.fin (.agg [.sc (.int .i64 0), .sl [.sc (.int .i64 (a)), .sl (tcs c) (List.length c) .any, .sc (.int .i64 (b)), .sl (tcs d) (List.length d) .any] 2 .any]) _ (by simp) (by kernel_rfl) ?_
      refine Shrink.dataK [] (True) (.agg [.sc (.int .i64 0), .sl [.sc (.int .i64 (a)), .sl (tcs c) (List.length c) .any, .sc (.int .i64 (b)), .sl (tcs d) (List.length d) .any] 2 .any]) (by kernel_rfl) trivial ?_ rfl
      (rw [short_no (by simp only [T.ks_mk, T.n_mk, isT]; omega)]; rfl; done)
end Go.Tr
