/- Walks and laws. -/
import Derived.Test.YtfkilkfaiiijbaaCnt2
import Derived.Test.YtfkilkfaiiijbaaOps8
import Derived.Test.YtfkilkfaiiijbaaLibC
set_option maxRecDepth 100000
set_option maxHeartbeats 0
set_option linter.unusedSimpArgs false
set_option linter.unusedVariables false
namespace Go.Cnt
open Go Go.Abs Go.Proofs Go.Ops
theorem goes_read (p s i : Int) : EvD Try.prog 71 [.agg [.sc (.int .i64 p), .sc (.int .i64 s), .sc (.int .i64 i)]] (.sc (.bool true)) := by
  refine EvD.body Try.func71 rfl rfl rfl ?_
  refine SQ ?_
  refine DerQ.run (TT 2) ⟨[.agg [(I6 p), (I6 s), (I6 i)], .ptr 0 0, (B6 false)], [⟨[(I6 p), (I6 s), (I6 i)], 3, .fresh⟩]⟩ (by kernel_rfl) (tt 2) ?_
  refine SQ ?_
  refine DerQ.run (True ∧ True) ⟨[.agg [(I6 p), (I6 s), (I6 i)], .ptr 0 0, (B6 true)], [⟨[(I6 p), (I6 s), (I6 i)], 3, .fresh⟩]⟩ (by kernel_rfl) ⟨trivial, trivial⟩ ?_
  refine AWP.ret FA
theorem goes_fold (g : Gate) (p s i : Int) (v : Nat → Int) : EvD Try.prog 81 [.agg [.sc (.int .i64 p), .sc (.int .i64 s), .sc (.int .i64 i)], .dptr (vecc g v)] (.sc (.bool (decide (hasP v p s)))) := by
  refine EvD.body Try.func81 rfl (by simp [dataAll, AVal.data]) rfl ?_
  refine SQ ?_
  refine DerQ.run (TT 2) ⟨[.agg [(I6 p), (I6 s), (I6 i)], .dptr (vecc g v), .ptr 0 0, (B6 false), U6, U6, U6, .undef], [⟨[(I6 p), (I6 s), (I6 i)], 3, .fresh⟩]⟩ (by kernel_rfl) (tt 2) ?_
  refine SQ ?_
  refine DerQ.pre 3 ((13 ≤ List.length (vecc g v)) ∧ True ∧ (2 ≤ List.length [(I6 p), (I6 s), (I6 i)]) ∧ True) ⟨[.agg [(I6 p), (I6 s), (I6 i)], .dptr (vecc g v), .ptr 0 0, (B6 false), .agg (List.take 13 (vecc g v)), .ptr 0 0, .agg [(I6 p), (I6 s)], .undef], [⟨[(I6 p), (I6 s), (I6 i)], 3, .fresh⟩]⟩ (by kernel_rfl) ⟨(by simp), trivial, (by simp), trivial⟩ ?_
  rw [Go.Ops.vecc_take (g) (v)]
  refine DerQ.callD (v_has g v p s) ⟨[.agg [(I6 p), (I6 s), (I6 i)], .dptr (vecc g v), .ptr 0 0, (B6 false), .agg (vecc g v), .ptr 0 0, .agg [(I6 p), (I6 s)], (B6 (hasB v p s))], [⟨[(I6 p), (I6 s), (I6 i)], 3, .fresh⟩]⟩ ⟨by kernel_rfl, by kernel_rfl, by kernel_rfl⟩ ?_
  refine DerQ.run (True ∧ True) ⟨[.agg [(I6 p), (I6 s), (I6 i)], .dptr (vecc g v), .ptr 0 0, (B6 (hasB v p s)), .agg (vecc g v), .ptr 0 0, .agg [(I6 p), (I6 s)], (B6 (hasB v p s))], [⟨[(I6 p), (I6 s), (I6 i)], 3, .fresh⟩]⟩ (by kernel_rfl) ⟨trivial, trivial⟩ ?_
  refine AWP.ret FA
theorem goes_clear (g : Gate) (p s i : Int) (t : TxD) (k : Int) : EvD Try.prog 70 [.agg [.sc (.int .i64 p), .sc (.int .i64 s), .sc (.int .i64 i)], .dptr (txc g t), .dptr [.sc (.int .i64 k)]] (.sc (.bool (decide (befP p s i t k)))) := by
  refine EvD.body Try.func70 rfl (by simp [dataAll, AVal.data]) rfl ?_
  refine SQ ?_
  refine DerQ.run (TT 2) ⟨[.agg [(I6 p), (I6 s), (I6 i)], .dptr (txc g t), .dptr [(I6 k)], .ptr 0 0, (B6 false), U6, U6, U6, .undef], [⟨[(I6 p), (I6 s), (I6 i)], 3, .fresh⟩]⟩ (by kernel_rfl) (tt 2) ?_
  refine SQ ?_
  refine DerQ.pre 3 ((3 ≤ List.length [(I6 p), (I6 s), (I6 i)]) ∧ (17 ≤ List.length (txc g t)) ∧ (0 < List.length [(I6 k)]) ∧ True) ⟨[.agg [(I6 p), (I6 s), (I6 i)], .dptr (txc g t), .dptr [(I6 k)], .ptr 0 0, (B6 false), .agg [(I6 p), (I6 s), (I6 i)], .agg (List.take 17 (txc g t)), (I6 k), .undef], [⟨[(I6 p), (I6 s), (I6 i)], 3, .fresh⟩]⟩ (by kernel_rfl) ⟨(by simp), (by simp), (by simp), trivial⟩ ?_
  rw [Go.Ops.tx_take (g) (t)]
  refine DerQ.callD (o_before g p s i t k) ⟨[.agg [(I6 p), (I6 s), (I6 i)], .dptr (txc g t), .dptr [(I6 k)], .ptr 0 0, (B6 false), .agg [(I6 p), (I6 s), (I6 i)], .agg (txc g t), (I6 k), (B6 (decide (befP p s i t k)))], [⟨[(I6 p), (I6 s), (I6 i)], 3, .fresh⟩]⟩ ⟨by kernel_rfl, by kernel_rfl, by kernel_rfl⟩ ?_
  refine DerQ.run (True ∧ True) ⟨[.agg [(I6 p), (I6 s), (I6 i)], .dptr (txc g t), .dptr [(I6 k)], .ptr 0 0, (B6 (decide (befP p s i t k))), .agg [(I6 p), (I6 s), (I6 i)], .agg (txc g t), (I6 k), (B6 (decide (befP p s i t k)))], [⟨[(I6 p), (I6 s), (I6 i)], 3, .fresh⟩]⟩ (by kernel_rfl) ⟨trivial, trivial⟩ ?_
  refine AWP.ret FA
end Go.Cnt
