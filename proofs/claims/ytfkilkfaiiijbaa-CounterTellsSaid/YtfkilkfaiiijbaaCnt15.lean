/- Walks and laws. -/
import Derived.Test.YtfkilkfaiiijbaaCnt13
import Derived.Test.YtfkilkfaiiijbaaCnt14
import Derived.Test.YtfkilkfaiiijbaaLibC
set_option maxRecDepth 100000
set_option maxHeartbeats 0
set_option linter.unusedSimpArgs false
set_option linter.unusedVariables false
namespace Go.Cnt
open Go Go.Abs Go.Proofs Go.Ops
theorem r_texts0 : EvD Try.prog 82 [.sl [] 0 .any, .sl [] 0 .any] (.sc (.bool true)) := by
  refine EvD.body Try.func82 rfl rfl rfl ?_
  refine SQ ?_
  refine DerQ.run (True ∧ True) ⟨[.sl [] 0 .any, .sl [] 0 .any, U6, U6, (B6 false)] ++ UU 21, []⟩ (by kernel_rfl) ⟨trivial, trivial⟩ ?_
  refine AWP.seq (SQ ?_)
  refine DerQ.run (TT 5) ⟨[.sl [] 0 .any, .sl [] 0 .any, U6, U6, (B6 false), U6, .sl [] 0 .any, (I6 0), .sl [] 0 .any, (I6 0), (B6 false)] ++ UU 15, []⟩ (by kernel_rfl) (tt 5) ?_
  refine CN false (fun h => nomatch h) (fun _ => ?_)
  refine AWP.skip (AWP.seq (SQ ?_))
  refine DerQ.run (True ∧ True) ⟨[.sl [] 0 .any, .sl [] 0 .any, U6, U6, (B6 false), (I6 0), .sl [] 0 .any, (I6 0), .sl [] 0 .any, (I6 0), (B6 false)] ++ UU 15, []⟩ (by kernel_rfl) ⟨trivial, trivial⟩ ?_
  refine AWP.block ?_
  refine AWP.loopN 2 ?_
  refine AWP.turn ?_
  refine AWP.seq (SQ ?_)
  refine DerQ.run (TT 4) ⟨[.sl [] 0 .any, .sl [] 0 .any, U6, U6, (B6 false), (I6 0), .sl [] 0 .any, (I6 0), .sl [] 0 .any, (I6 0), (B6 false), (I6 0), .sl [] 0 .any, (I6 0), (B6 false)] ++ UU 11, []⟩ (by kernel_rfl) (tt 4) ?_
  refine CN false (fun h => nomatch h) (fun _ => ?_)
  refine AWP.exit ?_
  refine SQ ?_
  refine DerQ.run (True ∧ True) ⟨[.sl [] 0 .any, .sl [] 0 .any, U6, U6, (B6 true), (I6 0), .sl [] 0 .any, (I6 0), .sl [] 0 .any, (I6 0), (B6 false), (I6 0), .sl [] 0 .any, (I6 0), (B6 false)] ++ UU 11, []⟩ (by kernel_rfl) ⟨trivial, trivial⟩ ?_
  refine AWP.ret FA
theorem r_values0 (k1 n1 k2 n2 : Int) : EvD Try.prog 42 [.agg [.sc (.int .i64 k1), .sc (.int .i64 n1), .sl [] 0 .any, .sl [] 0 .any], .agg [.sc (.int .i64 k2), .sc (.int .i64 n2), .sl [] 0 .any, .sl [] 0 .any]] (.sc (.bool (decide (k1 = k2 ∧ n1 = n2)))) := by
  refine EvD.body Try.func42 rfl rfl rfl ?_
  refine SQ ?_
  refine DerQ.run (TT 3) ⟨[.agg [(I6 k1), (I6 n1), .sl [] 0 .any, .sl [] 0 .any], .agg [(I6 k2), (I6 n2), .sl [] 0 .any, .sl [] 0 .any], .ptr 0 0, .ptr 1 0, (B6 false)] ++ UU 66, [⟨[(I6 k1), (I6 n1), .sl [] 0 .any, .sl [] 0 .any], 4, .fresh⟩, ⟨[(I6 k2), (I6 n2), .sl [] 0 .any, .sl [] 0 .any], 4, .fresh⟩]⟩ (by kernel_rfl) (tt 3) ?_
  refine AWP.seq (SQ ?_)
  refine DerQ.pre 6 (True ∧ (0 < List.length [(I6 k1), (I6 n1), AVal.sl [] 0 SlK.any, AVal.sl [] 0 SlK.any]) ∧ True ∧ (0 < List.length [(I6 k2), (I6 n2), AVal.sl [] 0 SlK.any, AVal.sl [] 0 SlK.any]) ∧ True ∧ True ∧ True) ⟨[.agg [(I6 k1), (I6 n1), .sl [] 0 .any, .sl [] 0 .any], .agg [(I6 k2), (I6 n2), .sl [] 0 .any, .sl [] 0 .any], .ptr 0 0, .ptr 1 0, (B6 false), U6, .ptr 0 0, (I6 k1), .ptr 1 0, (I6 k2), (B6 (k1 != k2)), (B6 (k1 != k2))] ++ UU 59, [⟨[(I6 k1), (I6 n1), .sl [] 0 .any, .sl [] 0 .any], 4, .fresh⟩, ⟨[(I6 k2), (I6 n2), .sl [] 0 .any, .sl [] 0 .any], 4, .fresh⟩]⟩ (by kernel_rfl) ⟨trivial, (by simp), trivial, (by simp), trivial, trivial, trivial⟩ ?_
  cases h1 : (k1 != k2)
  · have h1' := bne_eq_false_iff_eq.1 h1
    refine DerQ.pre 7 (True ∧ (1 < List.length [(I6 k1), (I6 n1), AVal.sl [] 0 SlK.any, AVal.sl [] 0 SlK.any]) ∧ True ∧ (1 < List.length [(I6 k2), (I6 n2), AVal.sl [] 0 SlK.any, AVal.sl [] 0 SlK.any]) ∧ True ∧ True ∧ True ∧ True) ⟨[.agg [(I6 k1), (I6 n1), .sl [] 0 .any, .sl [] 0 .any], .agg [(I6 k2), (I6 n2), .sl [] 0 .any, .sl [] 0 .any], .ptr 0 0, .ptr 1 0, (B6 false), U6, .ptr 0 0, (I6 k1), .ptr 1 0, (I6 k2), (B6 false), (B6 false), .ptr 0 1, (I6 n1), .ptr 1 1, (I6 n2), (B6 (n1 != n2)), (B6 (n1 != n2)), (B6 (n1 != n2))] ++ UU 52, [⟨[(I6 k1), (I6 n1), .sl [] 0 .any, .sl [] 0 .any], 4, .fresh⟩, ⟨[(I6 k2), (I6 n2), .sl [] 0 .any, .sl [] 0 .any], 4, .fresh⟩]⟩ (by kernel_rfl) ⟨trivial, (by simp), trivial, (by simp), trivial, trivial, trivial, trivial⟩ ?_
    cases h2 : (n1 != n2)
    · have h2' := bne_eq_false_iff_eq.1 h2
      refine DerQ.pre 4 (True ∧ (2 < List.length [(I6 k1), (I6 n1), AVal.sl [] 0 SlK.any, AVal.sl [] 0 SlK.any]) ∧ True ∧ (2 < List.length [(I6 k2), (I6 n2), AVal.sl [] 0 SlK.any, AVal.sl [] 0 SlK.any]) ∧ True) ⟨[.agg [(I6 k1), (I6 n1), .sl [] 0 .any, .sl [] 0 .any], .agg [(I6 k2), (I6 n2), .sl [] 0 .any, .sl [] 0 .any], .ptr 0 0, .ptr 1 0, (B6 false), U6, .ptr 0 0, (I6 k1), .ptr 1 0, (I6 k2), (B6 false), (B6 false), .ptr 0 1, (I6 n1), .ptr 1 1, (I6 n2), (B6 false), (B6 false), (B6 false), .ptr 0 2, .sl [] 0 .any, .ptr 1 2, .sl [] 0 .any] ++ UU 48, [⟨[(I6 k1), (I6 n1), .sl [] 0 .any, .sl [] 0 .any], 4, .fresh⟩, ⟨[(I6 k2), (I6 n2), .sl [] 0 .any, .sl [] 0 .any], 4, .fresh⟩]⟩ (by kernel_rfl) ⟨trivial, (by simp), trivial, (by simp), trivial⟩ ?_
      refine DerQ.callD (r_texts0) ⟨[.agg [(I6 k1), (I6 n1), .sl [] 0 .any, .sl [] 0 .any], .agg [(I6 k2), (I6 n2), .sl [] 0 .any, .sl [] 0 .any], .ptr 0 0, .ptr 1 0, (B6 false), U6, .ptr 0 0, (I6 k1), .ptr 1 0, (I6 k2), (B6 false), (B6 false), .ptr 0 1, (I6 n1), .ptr 1 1, (I6 n2), (B6 false), (B6 false), (B6 false), .ptr 0 2, .sl [] 0 .any, .ptr 1 2, .sl [] 0 .any, (B6 true)] ++ UU 47, [⟨[(I6 k1), (I6 n1), .sl [] 0 .any, .sl [] 0 .any], 4, .fresh⟩, ⟨[(I6 k2), (I6 n2), .sl [] 0 .any, .sl [] 0 .any], 4, .fresh⟩]⟩ ⟨by kernel_rfl, by kernel_rfl, by kernel_rfl⟩ ?_
      refine DerQ.run (True ∧ True ∧ True ∧ True ∧ (3 < List.length [(I6 k1), (I6 n1), AVal.sl [] 0 SlK.any, AVal.sl [] 0 SlK.any]) ∧ True ∧ True ∧ (3 < List.length [(I6 k2), (I6 n2), AVal.sl [] 0 SlK.any, AVal.sl [] 0 SlK.any]) ∧ True ∧ True ∧ True ∧ True) ⟨[.agg [(I6 k1), (I6 n1), .sl [] 0 .any, .sl [] 0 .any], .agg [(I6 k2), (I6 n2), .sl [] 0 .any, .sl [] 0 .any], .ptr 0 0, .ptr 1 0, (B6 false), U6, .ptr 0 0, (I6 k1), .ptr 1 0, (I6 k2), (B6 false), (B6 false), .ptr 0 1, (I6 n1), .ptr 1 1, (I6 n2), (B6 false), (B6 false), (B6 false), .ptr 0 2, .sl [] 0 .any, .ptr 1 2, .sl [] 0 .any, (B6 true), (B6 false), (B6 false), (B6 false), .ptr 0 3, .sl [] 0 .any, (I6 0), .ptr 1 3, .sl [] 0 .any, (I6 0), (B6 false), (B6 false)] ++ UU 36, [⟨[(I6 k1), (I6 n1), .sl [] 0 .any, .sl [] 0 .any], 4, .fresh⟩, ⟨[(I6 k2), (I6 n2), .sl [] 0 .any, .sl [] 0 .any], 4, .fresh⟩]⟩ (by kernel_rfl) ⟨trivial, trivial, trivial, trivial, (by simp), trivial, trivial, (by simp), trivial, trivial, trivial, trivial⟩ ?_
      refine CN false (fun h => nomatch h) (fun _ => ?_)
      refine AWP.skip (AWP.seq (SQ ?_))
      refine DerQ.run (True ∧ True) ⟨[.agg [(I6 k1), (I6 n1), .sl [] 0 .any, .sl [] 0 .any], .agg [(I6 k2), (I6 n2), .sl [] 0 .any, .sl [] 0 .any], .ptr 0 0, .ptr 1 0, (B6 false), (I6 0), .ptr 0 0, (I6 k1), .ptr 1 0, (I6 k2), (B6 false), (B6 false), .ptr 0 1, (I6 n1), .ptr 1 1, (I6 n2), (B6 false), (B6 false), (B6 false), .ptr 0 2, .sl [] 0 .any, .ptr 1 2, .sl [] 0 .any, (B6 true), (B6 false), (B6 false), (B6 false), .ptr 0 3, .sl [] 0 .any, (I6 0), .ptr 1 3, .sl [] 0 .any, (I6 0), (B6 false), (B6 false)] ++ UU 36, [⟨[(I6 k1), (I6 n1), .sl [] 0 .any, .sl [] 0 .any], 4, .fresh⟩, ⟨[(I6 k2), (I6 n2), .sl [] 0 .any, .sl [] 0 .any], 4, .fresh⟩]⟩ (by kernel_rfl) ⟨trivial, trivial⟩ ?_
      refine AWP.block ?_
      refine AWP.loopN 2 ?_
      refine AWP.turn ?_
      refine AWP.seq (SQ ?_)
      refine DerQ.run (True ∧ True ∧ (3 < List.length [(I6 k1), (I6 n1), AVal.sl [] 0 SlK.any, AVal.sl [] 0 SlK.any]) ∧ True ∧ True ∧ True) ⟨[.agg [(I6 k1), (I6 n1), .sl [] 0 .any, .sl [] 0 .any], .agg [(I6 k2), (I6 n2), .sl [] 0 .any, .sl [] 0 .any], .ptr 0 0, .ptr 1 0, (B6 false), (I6 0), .ptr 0 0, (I6 k1), .ptr 1 0, (I6 k2), (B6 false), (B6 false), .ptr 0 1, (I6 n1), .ptr 1 1, (I6 n2), (B6 false), (B6 false), (B6 false), .ptr 0 2, .sl [] 0 .any, .ptr 1 2, .sl [] 0 .any, (B6 true), (B6 false), (B6 false), (B6 false), .ptr 0 3, .sl [] 0 .any, (I6 0), .ptr 1 3, .sl [] 0 .any, (I6 0), (B6 false), (B6 false), (I6 0), .ptr 0 3, .sl [] 0 .any, (I6 0), (B6 false)] ++ UU 31, [⟨[(I6 k1), (I6 n1), .sl [] 0 .any, .sl [] 0 .any], 4, .fresh⟩, ⟨[(I6 k2), (I6 n2), .sl [] 0 .any, .sl [] 0 .any], 4, .fresh⟩]⟩ (by kernel_rfl) ⟨trivial, trivial, (by simp), trivial, trivial, trivial⟩ ?_
      refine CN false (fun h => nomatch h) (fun _ => ?_)
      refine AWP.exit ?_
      refine SQ ?_
      refine DerQ.run (True ∧ True) ⟨[.agg [(I6 k1), (I6 n1), .sl [] 0 .any, .sl [] 0 .any], .agg [(I6 k2), (I6 n2), .sl [] 0 .any, .sl [] 0 .any], .ptr 0 0, .ptr 1 0, (B6 true), (I6 0), .ptr 0 0, (I6 k1), .ptr 1 0, (I6 k2), (B6 false), (B6 false), .ptr 0 1, (I6 n1), .ptr 1 1, (I6 n2), (B6 false), (B6 false), (B6 false), .ptr 0 2, .sl [] 0 .any, .ptr 1 2, .sl [] 0 .any, (B6 true), (B6 false), (B6 false), (B6 false), .ptr 0 3, .sl [] 0 .any, (I6 0), .ptr 1 3, .sl [] 0 .any, (I6 0), (B6 false), (B6 false), (I6 0), .ptr 0 3, .sl [] 0 .any, (I6 0), (B6 false)] ++ UU 31, [⟨[(I6 k1), (I6 n1), .sl [] 0 .any, .sl [] 0 .any], 4, .fresh⟩, ⟨[(I6 k2), (I6 n2), .sl [] 0 .any, .sl [] 0 .any], 4, .fresh⟩]⟩ (by kernel_rfl) ⟨trivial, trivial⟩ ?_
      refine AWP.ret ?_
      refine FI (B6 true) ?_
      refine Shrink.all ?_ rfl
      (exact dec_yes (by omega); done)
    · have h2' := bne_iff_ne.1 h2
      refine DerQ.run (TT 3) ⟨[.agg [(I6 k1), (I6 n1), .sl [] 0 .any, .sl [] 0 .any], .agg [(I6 k2), (I6 n2), .sl [] 0 .any, .sl [] 0 .any], .ptr 0 0, .ptr 1 0, (B6 false), U6, .ptr 0 0, (I6 k1), .ptr 1 0, (I6 k2), (B6 false), (B6 false), .ptr 0 1, (I6 n1), .ptr 1 1, (I6 n2), (B6 true), (B6 true), (B6 true), .tup [], .tup [], .tup [], .tup [], .tup [], .tup [], (B6 true), (B6 true), .tup [], .tup [], .tup [], .tup [], .tup [], .tup [], .tup [], (B6 true)] ++ UU 36, [⟨[(I6 k1), (I6 n1), .sl [] 0 .any, .sl [] 0 .any], 4, .fresh⟩, ⟨[(I6 k2), (I6 n2), .sl [] 0 .any, .sl [] 0 .any], 4, .fresh⟩]⟩ (by kernel_rfl) (tt 3) ?_
      refine CN true (fun _ => ?_) (fun h => nomatch h)
      refine SQ ?_
      refine DerQ.run (True ∧ True) ⟨[.agg [(I6 k1), (I6 n1), .sl [] 0 .any, .sl [] 0 .any], .agg [(I6 k2), (I6 n2), .sl [] 0 .any, .sl [] 0 .any], .ptr 0 0, .ptr 1 0, (B6 false), U6, .ptr 0 0, (I6 k1), .ptr 1 0, (I6 k2), (B6 false), (B6 false), .ptr 0 1, (I6 n1), .ptr 1 1, (I6 n2), (B6 true), (B6 true), (B6 true), .tup [], .tup [], .tup [], .tup [], .tup [], .tup [], (B6 true), (B6 true), .tup [], .tup [], .tup [], .tup [], .tup [], .tup [], .tup [], (B6 true)] ++ UU 36, [⟨[(I6 k1), (I6 n1), .sl [] 0 .any, .sl [] 0 .any], 4, .fresh⟩, ⟨[(I6 k2), (I6 n2), .sl [] 0 .any, .sl [] 0 .any], 4, .fresh⟩]⟩ (by kernel_rfl) ⟨trivial, trivial⟩ ?_
      refine AWP.ret ?_
      refine FI (B6 false) ?_
      refine Shrink.all ?_ rfl
      (exact dec_no (by omega); done)
  · have h1' := bne_iff_ne.1 h1
    refine DerQ.run (TT 5) ⟨[.agg [(I6 k1), (I6 n1), .sl [] 0 .any, .sl [] 0 .any], .agg [(I6 k2), (I6 n2), .sl [] 0 .any, .sl [] 0 .any], .ptr 0 0, .ptr 1 0, (B6 false), U6, .ptr 0 0, (I6 k1), .ptr 1 0, (I6 k2), (B6 true), (B6 true), .tup [], .tup [], .tup [], .tup [], .tup [], (B6 true), (B6 true), .tup [], .tup [], .tup [], .tup [], .tup [], .tup [], (B6 true), (B6 true), .tup [], .tup [], .tup [], .tup [], .tup [], .tup [], .tup [], (B6 true)] ++ UU 36, [⟨[(I6 k1), (I6 n1), .sl [] 0 .any, .sl [] 0 .any], 4, .fresh⟩, ⟨[(I6 k2), (I6 n2), .sl [] 0 .any, .sl [] 0 .any], 4, .fresh⟩]⟩ (by kernel_rfl) (tt 5) ?_
    refine CN true (fun _ => ?_) (fun h => nomatch h)
    refine SQ ?_
    refine DerQ.run (True ∧ True) ⟨[.agg [(I6 k1), (I6 n1), .sl [] 0 .any, .sl [] 0 .any], .agg [(I6 k2), (I6 n2), .sl [] 0 .any, .sl [] 0 .any], .ptr 0 0, .ptr 1 0, (B6 false), U6, .ptr 0 0, (I6 k1), .ptr 1 0, (I6 k2), (B6 true), (B6 true), .tup [], .tup [], .tup [], .tup [], .tup [], (B6 true), (B6 true), .tup [], .tup [], .tup [], .tup [], .tup [], .tup [], (B6 true), (B6 true), .tup [], .tup [], .tup [], .tup [], .tup [], .tup [], .tup [], (B6 true)] ++ UU 36, [⟨[(I6 k1), (I6 n1), .sl [] 0 .any, .sl [] 0 .any], 4, .fresh⟩, ⟨[(I6 k2), (I6 n2), .sl [] 0 .any, .sl [] 0 .any], 4, .fresh⟩]⟩ (by kernel_rfl) ⟨trivial, trivial⟩ ?_
    refine AWP.ret ?_
    refine FI (B6 false) ?_
    refine Shrink.all ?_ rfl
    (exact dec_no (by omega); done)
end Go.Cnt
