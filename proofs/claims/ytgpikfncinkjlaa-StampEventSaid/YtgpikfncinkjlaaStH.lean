/- Walks and laws. -/
import Derived.Test.YtgpikfncinkjlaaSt5
import Derived.Test.YtgpikfncinkjlaaLibB
set_option maxRecDepth 100000
set_option maxHeartbeats 0
set_option linter.unusedSimpArgs false
set_option linter.unusedVariables false
namespace Go.Tr
open Go Go.Abs Go.Proofs
theorem heads06 : EvD Try.prog 48 [] (.sc (.bool true)) := by
  have f1 := s_Fork 1 0 [] [] (by decide) (by decide)
  have v1 := s_Event 0 0 [.mk 1 [], .mk 0 []] [] (by decide) (by decide)
  have v2 := s_Event 0 0 [.mk 0 [], .mk 1 []] [] (by decide) (by decide)
  have v3 := s_Event 0 0 [] [] (by decide) (by decide)
  have v4 := s_Event 1 0 [] [] (by decide) (by decide)
  have p1 := s_peek 1 0 [] []
  have j1 := s_Join 0 0 [.mk 1 [], .mk 0 []] [.mk 1 [], .mk 0 []] 0 0 [.mk 0 [], .mk 1 []] [.mk 0 [], .mk 1 []] (by decide) (by decide) (by decide) (by decide)
  have j2 := s_Join 0 0 [.mk 1 [], .mk 0 []] [.mk 1 [], .mk 0 []] 0 0 [.mk 1 [], .mk 0 []] [.mk 1 [], .mk 0 []] (by decide) (by decide) (by decide) (by decide)
  have e1 := r_same 100 (by decide) 1 1 [] [] (by decide)
  have e2 := r_same 100 (by decide) 0 0 [.mk 1 [], .mk 0 []] [.mk 1 [], .mk 0 []] (by decide)
  have q1 := s_Leq 0 0 [.mk 1 [], .mk 0 []] [.mk 1 [], .mk 0 []] 0 0 [.mk 0 [], .mk 1 []] [.mk 0 [], .mk 1 []] (by decide) (by decide) (by decide) (by decide)
  have q2 := s_Leq 0 0 [.mk 0 [], .mk 1 []] [.mk 0 [], .mk 1 []] 0 0 [.mk 1 [], .mk 0 []] [.mk 1 [], .mk 0 []] (by decide) (by decide) (by decide) (by decide)
  have q3 := s_Leq 0 0 [.mk 1 [], .mk 0 []] [.mk 1 [], .mk 0 []] 1 1 [] [] (by decide) (by decide) (by decide) (by decide)
  have c1 := s_check 1 1 [] [] (by decide) (by decide)
  refine EvD.body Try.func48 rfl rfl rfl ?_
  refine AWP.seq ?_
  refine TO ⟨[.undef] ++ UU 130, []⟩ ?_
  refine AWP.reg (RT 1 ?_)
  refine AWP.seq ?_
  refine TO ⟨[(B6 false)] ++ UU 130, []⟩ ?_
  refine AWP.reg (CD (s_seed) ?_)
  refine RI (True ∧ 4 ≤ 4 ∧ True) ⟨trivial, (by omega), trivial⟩ ?_
  refine AWP.seq (KL [17] ⟨[(B6 false), .ptr 0 0] ++ UU 129, [⟨[(I6 1), .sl [] 0 .any, (I6 0), .sl [] 0 .any], 4, .fresh⟩]⟩ ?_)
  refine AWP.reg (PI 1 (4 ≤ 4 ∧ True) ⟨(by omega), trivial⟩ ?_)
  refine CD (f1) ?_
  refine RI (True ∧ True ∧ True ∧ True ∧ True ∧ True ∧ 4 ≤ 4 ∧ 4 ≤ 4 ∧ True ∧ True) ⟨trivial, trivial, trivial, trivial, trivial, trivial, (by omega), (by omega), trivial, trivial⟩ ?_
  refine AWP.seq (KL (NN 18 6) ⟨[(B6 false), .ptr 0 0, .ptr 1 0, .ptr 2 0, (I6 0)] ++ UU 126, [⟨[(I6 1), .sl [] 0 .any, (I6 0), .sl [] 0 .any], 4, .fresh⟩, ⟨[(I6 0), .sl [(I6 1), .sl [] 0 .any, (I6 0), .sl [] 0 .any] 2 .any, (I6 0), .sl [] 0 .any], 4, .fresh⟩, ⟨[(I6 0), .sl [(I6 0), .sl [] 0 .any, (I6 1), .sl [] 0 .any] 2 .any, (I6 0), .sl [] 0 .any], 4, .fresh⟩]⟩ ?_)
  refine AWP.reg (PI 1 (4 ≤ 4 ∧ True) ⟨(by omega), trivial⟩ ?_)
  refine CD (v1) ?_
  refine RI (True ∧ True ∧ True ∧ True ∧ 4 ≤ 4 ∧ True ∧ True) ⟨trivial, trivial, trivial, trivial, (by omega), trivial, trivial⟩ ?_
  refine AWP.seq (KL ([2] ++ NN 24 5) ⟨[(B6 false), .ptr 0 0, U6, .ptr 2 0, (I6 0), .ptr 3 0, (I6 0)] ++ UU 124, [⟨[(I6 1), .sl [] 0 .any, (I6 0), .sl [] 0 .any], 4, .fresh⟩, ⟨[(I6 0), .sl [(I6 1), .sl [] 0 .any, (I6 0), .sl [] 0 .any] 2 .any, (I6 0), .sl [] 0 .any], 4, .fresh⟩, ⟨[(I6 0), .sl [(I6 0), .sl [] 0 .any, (I6 1), .sl [] 0 .any] 2 .any, (I6 0), .sl [] 0 .any], 4, .fresh⟩, ⟨[(I6 0), .sl [(I6 1), .sl [] 0 .any, (I6 0), .sl [] 0 .any] 2 .any, (I6 0), .sl [(I6 1), .sl [] 0 .any, (I6 0), .sl [] 0 .any] 2 .any], 4, .fresh⟩]⟩ ?_)
  refine AWP.reg (PI 1 (4 ≤ 4 ∧ True) ⟨(by omega), trivial⟩ ?_)
  refine CD (v2) ?_
  refine RI (True ∧ True ∧ True ∧ True ∧ 4 ≤ 4 ∧ True ∧ True) ⟨trivial, trivial, trivial, trivial, (by omega), trivial, trivial⟩ ?_
  refine AWP.seq (KL ([3] ++ NN 29 5) ⟨[(B6 false), .ptr 0 0, U6, U6, (I6 0), .ptr 3 0, (I6 0), .ptr 4 0, (I6 0)] ++ UU 122, [⟨[(I6 1), .sl [] 0 .any, (I6 0), .sl [] 0 .any], 4, .fresh⟩, ⟨[(I6 0), .sl [(I6 1), .sl [] 0 .any, (I6 0), .sl [] 0 .any] 2 .any, (I6 0), .sl [] 0 .any], 4, .fresh⟩, ⟨[(I6 0), .sl [(I6 0), .sl [] 0 .any, (I6 1), .sl [] 0 .any] 2 .any, (I6 0), .sl [] 0 .any], 4, .fresh⟩, ⟨[(I6 0), .sl [(I6 1), .sl [] 0 .any, (I6 0), .sl [] 0 .any] 2 .any, (I6 0), .sl [(I6 1), .sl [] 0 .any, (I6 0), .sl [] 0 .any] 2 .any], 4, .fresh⟩, ⟨[(I6 0), .sl [(I6 0), .sl [] 0 .any, (I6 1), .sl [] 0 .any] 2 .any, (I6 0), .sl [(I6 0), .sl [] 0 .any, (I6 1), .sl [] 0 .any] 2 .any], 4, .fresh⟩]⟩ ?_)
  refine AWP.reg (PI 2 (4 ≤ 4 ∧ 4 ≤ 4 ∧ True) ⟨(by omega), (by omega), trivial⟩ ?_)
  refine CD (j1) ?_
  refine RI (True ∧ True ∧ True ∧ True ∧ 4 ≤ 4 ∧ True ∧ True) ⟨trivial, trivial, trivial, trivial, (by omega), trivial, trivial⟩ ?_
  refine AWP.seq (KL (NN 34 6) ⟨[(B6 false), .ptr 0 0, U6, U6, (I6 0), .ptr 3 0, (I6 0), .ptr 4 0, (I6 0), .ptr 5 0, (I6 0)] ++ UU 120, [⟨[(I6 1), .sl [] 0 .any, (I6 0), .sl [] 0 .any], 4, .fresh⟩, ⟨[(I6 0), .sl [(I6 1), .sl [] 0 .any, (I6 0), .sl [] 0 .any] 2 .any, (I6 0), .sl [] 0 .any], 4, .fresh⟩, ⟨[(I6 0), .sl [(I6 0), .sl [] 0 .any, (I6 1), .sl [] 0 .any] 2 .any, (I6 0), .sl [] 0 .any], 4, .fresh⟩, ⟨[(I6 0), .sl [(I6 1), .sl [] 0 .any, (I6 0), .sl [] 0 .any] 2 .any, (I6 0), .sl [(I6 1), .sl [] 0 .any, (I6 0), .sl [] 0 .any] 2 .any], 4, .fresh⟩, ⟨[(I6 0), .sl [(I6 0), .sl [] 0 .any, (I6 1), .sl [] 0 .any] 2 .any, (I6 0), .sl [(I6 0), .sl [] 0 .any, (I6 1), .sl [] 0 .any] 2 .any], 4, .fresh⟩, ⟨[(I6 1), .sl [] 0 .any, (I6 1), .sl [] 0 .any], 4, .fresh⟩]⟩ ?_)
  refine AWP.reg (PI 1 (4 ≤ 4 ∧ True) ⟨(by omega), trivial⟩ ?_)
  refine CD (p1) ?_
  refine CD (v3) ?_
  refine RI (True ∧ True ∧ True ∧ True ∧ 4 ≤ 4 ∧ True ∧ True) ⟨trivial, trivial, trivial, trivial, (by omega), trivial, trivial⟩ ?_
  refine AWP.seq (KL ([11] ++ NN 40 6) ⟨[(B6 false), .ptr 0 0, U6, U6, (I6 0), .ptr 3 0, (I6 0), .ptr 4 0, (I6 0), .ptr 5 0, (I6 0), U6, (I6 7)] ++ UU 118, [⟨[(I6 1), .sl [] 0 .any, (I6 0), .sl [] 0 .any], 4, .fresh⟩, ⟨[(I6 0), .sl [(I6 1), .sl [] 0 .any, (I6 0), .sl [] 0 .any] 2 .any, (I6 0), .sl [] 0 .any], 4, .fresh⟩, ⟨[(I6 0), .sl [(I6 0), .sl [] 0 .any, (I6 1), .sl [] 0 .any] 2 .any, (I6 0), .sl [] 0 .any], 4, .fresh⟩, ⟨[(I6 0), .sl [(I6 1), .sl [] 0 .any, (I6 0), .sl [] 0 .any] 2 .any, (I6 0), .sl [(I6 1), .sl [] 0 .any, (I6 0), .sl [] 0 .any] 2 .any], 4, .fresh⟩, ⟨[(I6 0), .sl [(I6 0), .sl [] 0 .any, (I6 1), .sl [] 0 .any] 2 .any, (I6 0), .sl [(I6 0), .sl [] 0 .any, (I6 1), .sl [] 0 .any] 2 .any], 4, .fresh⟩, ⟨[(I6 1), .sl [] 0 .any, (I6 1), .sl [] 0 .any], 4, .fresh⟩, ⟨[(I6 0), .sl [] 0 .any, (I6 0), .sl [] 0 .any], 4, .fresh⟩]⟩ ?_)
  refine AWP.reg (PI 2 (4 ≤ 4 ∧ 4 ≤ 4 ∧ True) ⟨(by omega), (by omega), trivial⟩ ?_)
  refine CD (j2) ?_
  refine RI (True ∧ True ∧ True ∧ True ∧ 4 ≤ 4 ∧ True ∧ True) ⟨trivial, trivial, trivial, trivial, (by omega), trivial, trivial⟩ ?_
  refine AWP.seq (KL ([13] ++ NN 46 6) ⟨[(B6 false), .ptr 0 0, U6, U6, (I6 0), .ptr 3 0, (I6 0), .ptr 4 0, (I6 0), .ptr 5 0, (I6 0), U6, (I6 7), U6, (I6 42)] ++ UU 116, [⟨[(I6 1), .sl [] 0 .any, (I6 0), .sl [] 0 .any], 4, .fresh⟩, ⟨[(I6 0), .sl [(I6 1), .sl [] 0 .any, (I6 0), .sl [] 0 .any] 2 .any, (I6 0), .sl [] 0 .any], 4, .fresh⟩, ⟨[(I6 0), .sl [(I6 0), .sl [] 0 .any, (I6 1), .sl [] 0 .any] 2 .any, (I6 0), .sl [] 0 .any], 4, .fresh⟩, ⟨[(I6 0), .sl [(I6 1), .sl [] 0 .any, (I6 0), .sl [] 0 .any] 2 .any, (I6 0), .sl [(I6 1), .sl [] 0 .any, (I6 0), .sl [] 0 .any] 2 .any], 4, .fresh⟩, ⟨[(I6 0), .sl [(I6 0), .sl [] 0 .any, (I6 1), .sl [] 0 .any] 2 .any, (I6 0), .sl [(I6 0), .sl [] 0 .any, (I6 1), .sl [] 0 .any] 2 .any], 4, .fresh⟩, ⟨[(I6 1), .sl [] 0 .any, (I6 1), .sl [] 0 .any], 4, .fresh⟩, ⟨[(I6 0), .sl [] 0 .any, (I6 0), .sl [] 0 .any], 4, .fresh⟩, ⟨[(I6 0), .sl [] 0 .any, (I6 0), .sl [] 0 .any], 4, .fresh⟩]⟩ ?_)
  refine AWP.reg (PI 1 (4 ≤ 4 ∧ True) ⟨(by omega), trivial⟩ ?_)
  refine CD (v4) ?_
  refine RI (True ∧ True ∧ True ∧ True ∧ 4 ≤ 4 ∧ True ∧ True) ⟨trivial, trivial, trivial, trivial, (by omega), trivial, trivial⟩ ?_
  refine AWP.seq (KL ([1] ++ NN 52 5) ⟨[(B6 false), U6, U6, U6, (I6 0), .ptr 3 0, (I6 0), .ptr 4 0, (I6 0), .ptr 5 0, (I6 0), U6, (I6 7), U6, (I6 42), .ptr 8 0, (I6 0)] ++ UU 114, [⟨[(I6 1), .sl [] 0 .any, (I6 0), .sl [] 0 .any], 4, .fresh⟩, ⟨[(I6 0), .sl [(I6 1), .sl [] 0 .any, (I6 0), .sl [] 0 .any] 2 .any, (I6 0), .sl [] 0 .any], 4, .fresh⟩, ⟨[(I6 0), .sl [(I6 0), .sl [] 0 .any, (I6 1), .sl [] 0 .any] 2 .any, (I6 0), .sl [] 0 .any], 4, .fresh⟩, ⟨[(I6 0), .sl [(I6 1), .sl [] 0 .any, (I6 0), .sl [] 0 .any] 2 .any, (I6 0), .sl [(I6 1), .sl [] 0 .any, (I6 0), .sl [] 0 .any] 2 .any], 4, .fresh⟩, ⟨[(I6 0), .sl [(I6 0), .sl [] 0 .any, (I6 1), .sl [] 0 .any] 2 .any, (I6 0), .sl [(I6 0), .sl [] 0 .any, (I6 1), .sl [] 0 .any] 2 .any], 4, .fresh⟩, ⟨[(I6 1), .sl [] 0 .any, (I6 1), .sl [] 0 .any], 4, .fresh⟩, ⟨[(I6 0), .sl [] 0 .any, (I6 0), .sl [] 0 .any], 4, .fresh⟩, ⟨[(I6 0), .sl [] 0 .any, (I6 0), .sl [] 0 .any], 4, .fresh⟩, ⟨[(I6 1), .sl [] 0 .any, (I6 1), .sl [] 0 .any], 4, .fresh⟩]⟩ ?_)
  refine AWP.reg (PI 30 (True ∧ True ∧ True ∧ True ∧ True ∧ True ∧ True ∧ True ∧ True ∧ True ∧ True ∧ True ∧ True ∧ True ∧ True ∧ True ∧ True ∧ True ∧ True ∧ True ∧ True ∧ True ∧ True ∧ True ∧ True ∧ True ∧ True ∧ True ∧ 4 ≤ 4 ∧ True ∧ True) ⟨trivial, trivial, trivial, trivial, trivial, trivial, trivial, trivial, trivial, trivial, trivial, trivial, trivial, trivial, trivial, trivial, trivial, trivial, trivial, trivial, trivial, trivial, trivial, trivial, trivial, trivial, trivial, trivial, (by omega), trivial, trivial⟩ ?_)
  refine DerQ.callEI (e1) ⟨by kernel_rfl, by kernel_rfl⟩ ?_
  refine PI 8 (True ∧ True ∧ True ∧ 4 ≤ 4 ∧ True ∧ True ∧ True ∧ True ∧ True) ⟨trivial, trivial, trivial, (by omega), trivial, trivial, trivial, trivial, trivial⟩ ?_
  refine CD (EvD.deep (args' := [.agg [(I6 0), .sl [(I6 1), .sl [] 0 .any, (I6 0), .sl [] 0 .any] 2 .any], .agg [(I6 0), .sl [(I6 1), .sl [] 0 .nil, (I6 0), .sl [] 0 .nil] 2 .nn]]) (e2) (by kernel_rfl)) ?_
  refine PI 5 (True ∧ True ∧ True ∧ 2 ≤ 4 ∧ True ∧ True) ⟨trivial, trivial, trivial, (by omega), trivial, trivial⟩ ?_
  refine DerQ.callEI (e1) ⟨by kernel_rfl, by kernel_rfl⟩ ?_
  refine PI 5 (True ∧ True ∧ True ∧ 4 ≤ 4 ∧ True ∧ True) ⟨trivial, trivial, trivial, (by omega), trivial, trivial⟩ ?_
  refine DerQ.callEI (e1) ⟨by kernel_rfl, by kernel_rfl⟩ ?_
  refine PI 4 (True ∧ True ∧ 4 ≤ 4 ∧ 4 ≤ 4 ∧ True) ⟨trivial, trivial, (by omega), (by omega), trivial⟩ ?_
  refine CD (q1) ?_
  refine PI 5 (True ∧ True ∧ True ∧ 4 ≤ 4 ∧ 4 ≤ 4 ∧ True) ⟨trivial, trivial, trivial, (by omega), (by omega), trivial⟩ ?_
  refine CD (q2) ?_
  refine PI 5 (True ∧ True ∧ True ∧ 4 ≤ 4 ∧ 4 ≤ 4 ∧ True) ⟨trivial, trivial, trivial, (by omega), (by omega), trivial⟩ ?_
  refine CD (q3) ?_
  refine PI 3 (True ∧ True ∧ 4 ≤ 4 ∧ True) ⟨trivial, trivial, (by omega), trivial⟩ ?_
  refine CD (c1) ?_
  refine RT 2 ?_
  refine AWP.ret FA
end Go.Tr
