/- Walks and laws. -/
import Derived.Test.YtikllaiggklljaaDk9
import Derived.Test.YtikllaiggklljaaLibC
set_option maxRecDepth 100000
set_option maxHeartbeats 0
set_option linter.unusedSimpArgs false
set_option linter.unusedVariables false
namespace Go.Dk
open Go Go.Abs Go.Proofs
open Go.Chu (concat2)
theorem chg_ask (l : List FileD) (room arm : Int) (dead : Bool) (hx : l.length ≤ 1000000) (g : FuncId) (s : ByteArray) (e : Int) (h0 : e ≠ 0) (he : askE room arm dead l s = e) : EvD Try.prog 81 [.agg [.sl (fisc l) l.length .any, .sc (.int .i64 room), .sc (.int .i64 arm), .sc (.bool dead)], .sc (.string s), .fn g []] (.tup [.agg [.sl (fisc l) l.length .any, .sc (.int .i64 room), .sc (.int .i64 arm), .sc (.bool dead)], .sc (.int .i64 e)]) := by
  have a1 : EvD Try.prog 67 [.agg [.sl (fisc l) l.length .any, .sc (.int .i64 room), .sc (.int .i64 arm), .sc (.bool dead)], .sc (.string s)] (.sc (.int .i64 e)) := by have := asked l room arm dead hx s; rwa [he] at this
  refine EvD.body Try.func81 rfl (by simp [dataAll, AVal.data]) (by simp [dataAll, AVal.data]) ?_
  refine AWP.seq ?_
  refine TO ⟨[.agg [.sl (fisc l) (List.length l) .any, (I6 room), (I6 arm), (B6 dead)], (S6 s), .fn (g) []] ++ UU 47, []⟩ ?_
  refine AWP.reg (RT 4 ?_)
  refine AWP.seq (AWP.seq (KL [0, 2] ⟨[U6, (S6 s), U6, .ptr 0 0, U6, .ptr 1 0, .ptr 2 0, (I6 0)] ++ UU 42, [⟨[.sl (fisc l) (List.length l) .any, (I6 room), (I6 arm), (B6 dead)], 4, .fresh⟩, ⟨[.fn (g) []], 1, .fresh⟩, ⟨[.sl [] 0 .nil, (I6 0), (I6 0), (B6 false)], 4, .fresh⟩]⟩ ?_))
  refine AWP.reg (PI 2 (4 ≤ 4 ∧ True ∧ True) ⟨(by omega), trivial, trivial⟩ ?_)
  refine CD (a1) ?_
  refine RT 1 ?_
  refine AWP.seq (KL [13, 14, 15] ⟨[U6, (S6 s), U6, .ptr 0 0, U6, .ptr 1 0, .ptr 2 0, (I6 0), (I6 e)] ++ UU 41, [⟨[.sl (fisc l) (List.length l) .any, (I6 room), (I6 arm), (B6 dead)], 4, .fresh⟩, ⟨[.fn (g) []], 1, .fresh⟩, ⟨[.sl [] 0 .nil, (I6 0), (I6 0), (B6 false)], 4, .fresh⟩]⟩ ?_)
  refine AWP.reg (RT 2 ?_)
  refine KL [16] ⟨[U6, (S6 s), U6, .ptr 0 0, U6, .ptr 1 0, .ptr 2 0, (I6 0), (I6 e)] ++ UU 8 ++ [(B6 (e != 0))] ++ UU 32, [⟨[.sl (fisc l) (List.length l) .any, (I6 room), (I6 arm), (B6 dead)], 4, .fresh⟩, ⟨[.fn (g) []], 1, .fresh⟩, ⟨[.sl [] 0 .nil, (I6 0), (I6 0), (B6 false)], 4, .fresh⟩]⟩ ?_
  refine CN (e != 0) (fun h1 => ?_) (fun h1 => ?_)
  · have h1' := bne_iff_ne.1 h1
    refine SQ (RI (4 ≤ 4 ∧ True ∧ 4 ≤ 4 ∧ True ∧ True) ⟨(by omega), trivial, (by omega), trivial, trivial⟩ ?_)
    refine AWP.ret FA
  · have h1' := bne_eq_false_iff_eq.1 h1
    exfalso; omega
theorem chg_none (l : List FileD) (room arm : Int) (dead : Bool) (hx : l.length ≤ 1000000) (g : FuncId) (s : ByteArray) (ho : okD room arm l) (he : askE room arm dead l s = 0) (hh : ¬ has l s) : EvD Try.prog 81 [.agg [.sl (fisc l) l.length .any, .sc (.int .i64 room), .sc (.int .i64 arm), .sc (.bool dead)], .sc (.string s), .fn g []] (.tup [.agg [.sl (fisc l) l.length .any, .sc (.int .i64 room), .sc (.int .i64 arm), .sc (.bool dead)], .sc (.int .i64 7)]) := by
  have a1 : EvD Try.prog 67 [.agg [.sl (fisc l) l.length .any, .sc (.int .i64 room), .sc (.int .i64 arm), .sc (.bool dead)], .sc (.string s)] (.sc (.int .i64 0)) := by have := asked l room arm dead hx s; rwa [he] at this
  have p1 := place l room arm dead (okD_srt ho) (by have := ho.2.2.2.1; omega) s
  refine EvD.body Try.func81 rfl (by simp [dataAll, AVal.data]) (by simp [dataAll, AVal.data]) ?_
  refine AWP.seq ?_
  refine TO ⟨[.agg [.sl (fisc l) (List.length l) .any, (I6 room), (I6 arm), (B6 dead)], (S6 s), .fn (g) []] ++ UU 47, []⟩ ?_
  refine AWP.reg (RT 4 ?_)
  refine AWP.seq (AWP.seq (KL [0, 2] ⟨[U6, (S6 s), U6, .ptr 0 0, U6, .ptr 1 0, .ptr 2 0, (I6 0)] ++ UU 42, [⟨[.sl (fisc l) (List.length l) .any, (I6 room), (I6 arm), (B6 dead)], 4, .fresh⟩, ⟨[.fn (g) []], 1, .fresh⟩, ⟨[.sl [] 0 .nil, (I6 0), (I6 0), (B6 false)], 4, .fresh⟩]⟩ ?_))
  refine AWP.reg (PI 2 (4 ≤ 4 ∧ True ∧ True) ⟨(by omega), trivial, trivial⟩ ?_)
  refine CD (a1) ?_
  refine RT 1 ?_
  refine AWP.seq (KL [13, 14, 15] ⟨[U6, (S6 s), U6, .ptr 0 0, U6, .ptr 1 0, .ptr 2 0, (I6 0), (I6 0)] ++ UU 41, [⟨[.sl (fisc l) (List.length l) .any, (I6 room), (I6 arm), (B6 dead)], 4, .fresh⟩, ⟨[.fn (g) []], 1, .fresh⟩, ⟨[.sl [] 0 .nil, (I6 0), (I6 0), (B6 false)], 4, .fresh⟩]⟩ ?_)
  refine AWP.reg (RT 2 ?_)
  refine KL [16] ⟨[U6, (S6 s), U6, .ptr 0 0, U6, .ptr 1 0, .ptr 2 0, (I6 0), (I6 0)] ++ UU 8 ++ [(B6 false)] ++ UU 32, [⟨[.sl (fisc l) (List.length l) .any, (I6 room), (I6 arm), (B6 dead)], 4, .fresh⟩, ⟨[.fn (g) []], 1, .fresh⟩, ⟨[.sl [] 0 .nil, (I6 0), (I6 0), (B6 false)], 4, .fresh⟩]⟩ ?_
  refine CN false (fun h => nomatch h) (fun _ => ?_)
  refine AWP.skip (SQ (RI (4 ≤ 4 ∧ True ∧ True ∧ True ∧ 1 ≤ 1 ∧ True) ⟨(by omega), trivial, trivial, trivial, (by omega), trivial⟩ ?_))
  refine AWP.seq (KL [8, 17, 20, 21, 22] ⟨[U6, (S6 s), U6, .ptr 0 0, U6, .ptr 1 0, .ptr 2 0, (I6 0), U6, .ptr 4 0] ++ UU 40, [⟨[.sl (fisc l) (List.length l) .any, (I6 room), (I6 arm), (B6 dead)], 4, .fresh⟩, ⟨[.fn (g) []], 1, .fresh⟩, ⟨[.sl [] 0 .nil, (I6 0), (I6 0), (B6 false)], 4, .fresh⟩, ⟨[.sl (fisc l) (List.length l) .any, (I6 room), (I6 arm), (B6 dead)], 4, .fresh⟩, ⟨[.ptr 3 0], 1, .fresh⟩]⟩ ?_)
  refine AWP.reg (PI 2 (0 < 1 ∧ True ∧ True) ⟨(by omega), trivial, trivial⟩ ?_)
  refine DerQ.callK (p1) 3 [.ptr 3 0, (S6 s)] ⟨[U6, (S6 s), U6, .ptr 0 0, U6, .ptr 1 0, .ptr 2 0, (I6 0), U6, .ptr 4 0] ++ UU 14 ++ [.ptr 3 0, (S6 s), .tup [(I6 (↑(low l s) : Int)), (B6 (decide (has l s)))]] ++ UU 23, [⟨[.sl (fisc l) (List.length l) .any, (I6 room), (I6 arm), (B6 dead)], 4, .fresh⟩, ⟨[.fn (g) []], 1, .fresh⟩, ⟨[.sl [] 0 .nil, (I6 0), (I6 0), (B6 false)], 4, .fresh⟩, ⟨[.sl (fisc l) (List.length l) .any, (I6 room), (I6 arm), (B6 dead)], 4, .fresh⟩, ⟨[.ptr 3 0], 1, .fresh⟩]⟩ ⟨by kernel_rfl, by kernel_rfl, by kernel_rfl, by kernel_rfl, by kernel_rfl⟩ ?_
  refine RI (True ∧ True ∧ True ∧ True ∧ 1 ≤ 1 ∧ True ∧ True) ⟨trivial, trivial, trivial, trivial, (by omega), trivial, trivial⟩ ?_
  refine AWP.seq (AWP.seq (KL ([1] ++ NN 23 6) ⟨[U6, U6, U6, .ptr 0 0, U6, .ptr 1 0, .ptr 2 0, (I6 0), U6, .ptr 4 0, .ptr 5 0, (B6 (decide (has l s)))] ++ UU 38, [⟨[.sl (fisc l) (List.length l) .any, (I6 room), (I6 arm), (B6 dead)], 4, .fresh⟩, ⟨[.fn (g) []], 1, .fresh⟩, ⟨[.sl [] 0 .nil, (I6 0), (I6 0), (B6 false)], 4, .fresh⟩, ⟨[.sl (fisc l) (List.length l) .any, (I6 room), (I6 arm), (B6 dead)], 4, .fresh⟩, ⟨[.ptr 3 0], 1, .fresh⟩, ⟨[(I6 (↑(low l s) : Int))], 1, .fresh⟩]⟩ ?_))
  refine AWP.reg (RT 2 ?_)
  refine KL [11, 29] ⟨[U6, U6, U6, .ptr 0 0, U6, .ptr 1 0, .ptr 2 0, (I6 0), U6, .ptr 4 0, .ptr 5 0] ++ UU 19 ++ [(B6 (!decide (has l s)))] ++ UU 19, [⟨[.sl (fisc l) (List.length l) .any, (I6 room), (I6 arm), (B6 dead)], 4, .fresh⟩, ⟨[.fn (g) []], 1, .fresh⟩, ⟨[.sl [] 0 .nil, (I6 0), (I6 0), (B6 false)], 4, .fresh⟩, ⟨[.sl (fisc l) (List.length l) .any, (I6 room), (I6 arm), (B6 dead)], 4, .fresh⟩, ⟨[.ptr 3 0], 1, .fresh⟩, ⟨[(I6 (↑(low l s) : Int))], 1, .fresh⟩]⟩ ?_
  refine CN (!decide (has l s)) (fun h1 => ?_) (fun h1 => ?_)
  · have h1' := h1
    simp only [Bool.and_eq_true, Bool.and_eq_false_iff, Bool.or_eq_true, Bool.or_eq_false_iff, Bool.not_eq_true', Bool.not_eq_false', beq_iff_eq, beq_eq_false_iff_ne, decide_eq_true_eq, decide_eq_false_iff_not, ne_eq] at h1'
    refine SQ (RI (4 ≤ 4 ∧ 4 ≤ 4 ∧ True ∧ True) ⟨(by omega), (by omega), trivial, trivial⟩ ?_)
    refine AWP.ret FA
  · have h1' := h1
    simp only [Bool.and_eq_true, Bool.and_eq_false_iff, Bool.or_eq_true, Bool.or_eq_false_iff, Bool.not_eq_true', Bool.not_eq_false', beq_iff_eq, beq_eq_false_iff_ne, decide_eq_true_eq, decide_eq_false_iff_not, ne_eq] at h1'
    (exfalso; exact absurd (by assumption) hh; done)
theorem chg_out (l : List FileD) (room : Int) (dead : Bool) (hx : l.length ≤ 1000000) (g : FuncId) (s : ByteArray) (ho : okD room 0 l) (he : askE room 0 dead l s = 0) (hh : has l s) : EvD Try.prog 81 [.agg [.sl (fisc l) l.length .any, .sc (.int .i64 room), .sc (.int .i64 0), .sc (.bool dead)], .sc (.string s), .fn g []] (.tup [.agg [.sl (fisc l) l.length .any, .sc (.int .i64 room), .sc (.int .i64 0), .sc (.bool true)], .sc (.int .i64 220)]) := by
  have hll := hh.1
  have hx1 : l.length ≤ 100 := by have := ho.2.2.2.1; omega
  have a1 : EvD Try.prog 67 [.agg [.sl (fisc l) l.length .any, .sc (.int .i64 room), .sc (.int .i64 0), .sc (.bool dead)], .sc (.string s)] (.sc (.int .i64 0)) := by have := asked l room 0 dead hx s; rwa [he] at this
  have p1 := place l room 0 dead (okD_srt ho) (by have := ho.2.2.2.1; omega) s
  have f1 := ficlone l (by omega)
  have n1 := out_chg g l room dead (low l s)
  refine EvD.body Try.func81 rfl (by simp [dataAll, AVal.data]) (by simp [dataAll, AVal.data]) ?_
  refine AWP.seq ?_
  refine TO ⟨[.agg [.sl (fisc l) (List.length l) .any, (I6 room), (I6 0), (B6 dead)], (S6 s), .fn (g) []] ++ UU 47, []⟩ ?_
  refine AWP.reg (RT 4 ?_)
  refine AWP.seq (AWP.seq (KL [0, 2] ⟨[U6, (S6 s), U6, .ptr 0 0, U6, .ptr 1 0, .ptr 2 0, (I6 0)] ++ UU 42, [⟨[.sl (fisc l) (List.length l) .any, (I6 room), (I6 0), (B6 dead)], 4, .fresh⟩, ⟨[.fn (g) []], 1, .fresh⟩, ⟨[.sl [] 0 .nil, (I6 0), (I6 0), (B6 false)], 4, .fresh⟩]⟩ ?_))
  refine AWP.reg (PI 2 (4 ≤ 4 ∧ True ∧ True) ⟨(by omega), trivial, trivial⟩ ?_)
  refine CD (a1) ?_
  refine RT 1 ?_
  refine AWP.seq (KL [13, 14, 15] ⟨[U6, (S6 s), U6, .ptr 0 0, U6, .ptr 1 0, .ptr 2 0, (I6 0), (I6 0)] ++ UU 41, [⟨[.sl (fisc l) (List.length l) .any, (I6 room), (I6 0), (B6 dead)], 4, .fresh⟩, ⟨[.fn (g) []], 1, .fresh⟩, ⟨[.sl [] 0 .nil, (I6 0), (I6 0), (B6 false)], 4, .fresh⟩]⟩ ?_)
  refine AWP.reg (RT 2 ?_)
  refine KL [16] ⟨[U6, (S6 s), U6, .ptr 0 0, U6, .ptr 1 0, .ptr 2 0, (I6 0), (I6 0)] ++ UU 8 ++ [(B6 false)] ++ UU 32, [⟨[.sl (fisc l) (List.length l) .any, (I6 room), (I6 0), (B6 dead)], 4, .fresh⟩, ⟨[.fn (g) []], 1, .fresh⟩, ⟨[.sl [] 0 .nil, (I6 0), (I6 0), (B6 false)], 4, .fresh⟩]⟩ ?_
  refine CN false (fun h => nomatch h) (fun _ => ?_)
  refine AWP.skip (SQ (RI (4 ≤ 4 ∧ True ∧ True ∧ True ∧ 1 ≤ 1 ∧ True) ⟨(by omega), trivial, trivial, trivial, (by omega), trivial⟩ ?_))
  refine AWP.seq (KL [8, 17, 20, 21, 22] ⟨[U6, (S6 s), U6, .ptr 0 0, U6, .ptr 1 0, .ptr 2 0, (I6 0), U6, .ptr 4 0] ++ UU 40, [⟨[.sl (fisc l) (List.length l) .any, (I6 room), (I6 0), (B6 dead)], 4, .fresh⟩, ⟨[.fn (g) []], 1, .fresh⟩, ⟨[.sl [] 0 .nil, (I6 0), (I6 0), (B6 false)], 4, .fresh⟩, ⟨[.sl (fisc l) (List.length l) .any, (I6 room), (I6 0), (B6 dead)], 4, .fresh⟩, ⟨[.ptr 3 0], 1, .fresh⟩]⟩ ?_)
  refine AWP.reg (PI 2 (0 < 1 ∧ True ∧ True) ⟨(by omega), trivial, trivial⟩ ?_)
  refine DerQ.callK (p1) 3 [.ptr 3 0, (S6 s)] ⟨[U6, (S6 s), U6, .ptr 0 0, U6, .ptr 1 0, .ptr 2 0, (I6 0), U6, .ptr 4 0] ++ UU 14 ++ [.ptr 3 0, (S6 s), .tup [(I6 (↑(low l s) : Int)), (B6 (decide (has l s)))]] ++ UU 23, [⟨[.sl (fisc l) (List.length l) .any, (I6 room), (I6 0), (B6 dead)], 4, .fresh⟩, ⟨[.fn (g) []], 1, .fresh⟩, ⟨[.sl [] 0 .nil, (I6 0), (I6 0), (B6 false)], 4, .fresh⟩, ⟨[.sl (fisc l) (List.length l) .any, (I6 room), (I6 0), (B6 dead)], 4, .fresh⟩, ⟨[.ptr 3 0], 1, .fresh⟩]⟩ ⟨by kernel_rfl, by kernel_rfl, by kernel_rfl, by kernel_rfl, by kernel_rfl⟩ ?_
  refine RI (True ∧ True ∧ True ∧ True ∧ 1 ≤ 1 ∧ True ∧ True) ⟨trivial, trivial, trivial, trivial, (by omega), trivial, trivial⟩ ?_
  refine AWP.seq (AWP.seq (KL ([1] ++ NN 23 6) ⟨[U6, U6, U6, .ptr 0 0, U6, .ptr 1 0, .ptr 2 0, (I6 0), U6, .ptr 4 0, .ptr 5 0, (B6 (decide (has l s)))] ++ UU 38, [⟨[.sl (fisc l) (List.length l) .any, (I6 room), (I6 0), (B6 dead)], 4, .fresh⟩, ⟨[.fn (g) []], 1, .fresh⟩, ⟨[.sl [] 0 .nil, (I6 0), (I6 0), (B6 false)], 4, .fresh⟩, ⟨[.sl (fisc l) (List.length l) .any, (I6 room), (I6 0), (B6 dead)], 4, .fresh⟩, ⟨[.ptr 3 0], 1, .fresh⟩, ⟨[(I6 (↑(low l s) : Int))], 1, .fresh⟩]⟩ ?_))
  refine AWP.reg (RT 2 ?_)
  refine KL [11, 29] ⟨[U6, U6, U6, .ptr 0 0, U6, .ptr 1 0, .ptr 2 0, (I6 0), U6, .ptr 4 0, .ptr 5 0] ++ UU 19 ++ [(B6 (!decide (has l s)))] ++ UU 19, [⟨[.sl (fisc l) (List.length l) .any, (I6 room), (I6 0), (B6 dead)], 4, .fresh⟩, ⟨[.fn (g) []], 1, .fresh⟩, ⟨[.sl [] 0 .nil, (I6 0), (I6 0), (B6 false)], 4, .fresh⟩, ⟨[.sl (fisc l) (List.length l) .any, (I6 room), (I6 0), (B6 dead)], 4, .fresh⟩, ⟨[.ptr 3 0], 1, .fresh⟩, ⟨[(I6 (↑(low l s) : Int))], 1, .fresh⟩]⟩ ?_
  refine CN (!decide (has l s)) (fun h1 => ?_) (fun h1 => ?_)
  · have h1' := h1
    simp only [Bool.and_eq_true, Bool.and_eq_false_iff, Bool.or_eq_true, Bool.or_eq_false_iff, Bool.not_eq_true', Bool.not_eq_false', beq_iff_eq, beq_eq_false_iff_ne, decide_eq_true_eq, decide_eq_false_iff_not, ne_eq] at h1'
    (exfalso; exact absurd hh (by assumption); done)
  · have h1' := h1
    simp only [Bool.and_eq_true, Bool.and_eq_false_iff, Bool.or_eq_true, Bool.or_eq_false_iff, Bool.not_eq_true', Bool.not_eq_false', beq_iff_eq, beq_eq_false_iff_ne, decide_eq_true_eq, decide_eq_false_iff_not, ne_eq] at h1'
    refine AWP.skip (AWP.seq ?_)
    refine AWP.drawB mixed (fun o => if [].contains (o.dst.getD 0) then 1 else if [38].contains (o.dst.getD 0) then 2 else if [0, 37].contains (o.dst.getD 0) then 3 else 0) 0 6 (fun x => [⟨[.sl (fisc l) (List.length l) .any, (I6 room), (I6 0), (B6 dead)], 4, .fresh⟩, ⟨[.fn (g) []], 1, .fresh⟩, ⟨[.sl [] 0 .nil, (I6 0), (I6 0), (B6 false)], 4, .fresh⟩, ⟨x 3, 4, .fresh⟩, ⟨[.ptr 3 0], 1, .fresh⟩, ⟨[(I6 (↑(low l s) : Int))], 1, .fresh⟩]) ⟨[U6, U6, U6, .ptr 0 0, U6, .ptr 1 0, .ptr 2 0, (I6 0), U6, .ptr 4 0, .ptr 5 0] ++ UU 19 ++ [(B6 (!decide (has l s)))] ++ UU 19, [⟨[.sl (fisc l) (List.length l) .any, (I6 room), (I6 0), (B6 dead)], 4, .fresh⟩, ⟨[.fn (g) []], 1, .fresh⟩, ⟨[.sl [] 0 .nil, (I6 0), (I6 0), (B6 false)], 4, .fresh⟩, ⟨[.sl (fisc l) (List.length l) .any, (I6 room), (I6 0), (B6 dead)], 4, .fresh⟩, ⟨[.ptr 3 0], 1, .fresh⟩, ⟨[(I6 (↑(low l s) : Int))], 1, .fresh⟩]⟩ (by kernel_rfl) ⟨by kernel_rfl, by kernel_rfl⟩ (by kernel_rfl) ?_
    refine DerZ.preI 5 (((0 : Nat) < (1 : Nat)) ∧ (((0 : Nat) < (1 : Nat)) ∧ ((True) ∧ ((True) ∧ ((True) ∧ (True)))))) (by intro x ext; kernel_rfl) ⟨(by omega), ⟨(by omega), ⟨trivial, ⟨trivial, ⟨trivial, trivial⟩⟩⟩⟩⟩ ?_
    refine DerZ.effI 6 ((0 : Nat) < (4 : Nat)) (by kernel_rfl) ⟨⟨by kernel_rfl, by kernel_rfl⟩, by kernel_rfl⟩ (by omega) ?_
    refine DerZ.callA (f1) [.sl (fisc l) (List.length l) .any] ⟨[U6, U6, U6, .ptr 0 0, U6, .ptr 1 0, .ptr 2 0, (I6 0), U6, .ptr 4 0, .ptr 5 0] ++ UU 19 ++ [(B6 (!decide (has l s))), U6, .ptr 3 0, .ptr 3 0, .ptr 3 0, .ptr 3 0, .ptr 3 0, .sl (fisc l) (List.length l) .any, .row 6 0 (List.length l)] ++ UU 11, [⟨[.sl (fisc l) (List.length l) .any, (I6 room), (I6 0), (B6 dead)], 4, .fresh⟩, ⟨[.fn (g) []], 1, .fresh⟩, ⟨[.sl [] 0 .nil, (I6 0), (I6 0), (B6 false)], 4, .fresh⟩, ⟨[.sl (fisc l) (List.length l) .any, (I6 room), (I6 0), (B6 dead)], 4, .fresh⟩, ⟨[.ptr 3 0], 1, .fresh⟩, ⟨[(I6 (↑(low l s) : Int))], 1, .fresh⟩, ⟨fisc l, 3, .fresh⟩]⟩ ⟨by kernel_rfl, by kernel_rfl, by kernel_rfl, by kernel_rfl, by kernel_rfl⟩ ?_
    refine DerZ.preI 3 ((True) ∧ ((True) ∧ ((True) ∧ (True)))) (by intro x ext; kernel_rfl) ⟨trivial, ⟨trivial, ⟨trivial, trivial⟩⟩⟩ ?_
    refine DerZ.effI 6 ((1 : Nat) ≤ (4 : Nat)) (by kernel_rfl) ⟨⟨by kernel_rfl, by kernel_rfl⟩, by kernel_rfl⟩ (by omega) ?_
    refine DerZ.nil ?_
    refine AWP.seq (KL ([3, 30] ++ NN 32 10) ⟨UU 5 ++ [.ptr 1 0, .ptr 2 0, (I6 0), U6, .ptr 4 0, .ptr 5 0] ++ UU 39, [⟨[.sl (fisc l) (List.length l) .any, (I6 room), (I6 0), (B6 dead)], 4, .fresh⟩, ⟨[.fn (g) []], 1, .fresh⟩, ⟨[.sl [] 0 .nil, (I6 0), (I6 0), (B6 false)], 4, .fresh⟩, ⟨[.row 6 0 (List.length l), (I6 room), (I6 0), (B6 dead)], 4, .fresh⟩, ⟨[.ptr 3 0], 1, .fresh⟩, ⟨[(I6 (↑(low l s) : Int))], 1, .fresh⟩, ⟨fisc l, 3, .fresh⟩]⟩ ?_)
    refine AWP.reg (PI 2 (0 < 1 ∧ True ∧ True) ⟨(by omega), trivial, trivial⟩ ?_)
    refine DerQ.callM (n1) [.ptr 3 0, .fn 95 [.ptr 1 0, .ptr 4 0, .ptr 5 0]] ⟨UU 5 ++ [.ptr 1 0, .ptr 2 0, (I6 0), U6, .ptr 4 0, .ptr 5 0] ++ UU 31 ++ [.ptr 3 0, .fn 95 [.ptr 1 0, .ptr 4 0, .ptr 5 0], (I6 220)] ++ UU 5, [⟨[.sl (fisc l) (List.length l) .any, (I6 room), (I6 0), (B6 dead)], 4, .fresh⟩, ⟨[.fn (g) []], 1, .fresh⟩, ⟨[.sl [] 0 .nil, (I6 0), (I6 0), (B6 false)], 4, .fresh⟩, ⟨[.row 6 0 (List.length l), (I6 room), (I6 0), (B6 true)], 4, .fresh⟩, ⟨[.ptr 3 0], 1, .fresh⟩, ⟨[(I6 (↑(low l s) : Int))], 1, .fresh⟩, ⟨fisc l, 3, .fresh⟩]⟩ ⟨by kernel_rfl, by kernel_rfl, by kernel_rfl, by kernel_rfl, by kernel_rfl⟩ ?_
    refine RT 1 ?_
    refine AWP.seq (KL [5, 10, 42, 43, 44] ⟨[.undef] ++ UU 5 ++ [.ptr 2 0, (I6 0), U6, .ptr 4 0, U6, U6, (I6 220)] ++ UU 37, [⟨[.sl (fisc l) (List.length l) .any, (I6 room), (I6 0), (B6 dead)], 4, .fresh⟩, ⟨[.fn (g) []], 1, .fresh⟩, ⟨[.sl [] 0 .nil, (I6 0), (I6 0), (B6 false)], 4, .fresh⟩, ⟨[.row 6 0 (List.length l), (I6 room), (I6 0), (B6 true)], 4, .fresh⟩, ⟨[.ptr 3 0], 1, .fresh⟩, ⟨[(I6 (↑(low l s) : Int))], 1, .fresh⟩, ⟨fisc l, 3, .fresh⟩]⟩ ?_)
    refine AWP.reg (RI (0 < 1 ∧ True ∧ True ∧ 4 ≤ 4 ∧ True ∧ 4 ≤ 4 ∧ True ∧ True) ⟨(by omega), trivial, trivial, (by omega), trivial, (by omega), trivial, trivial⟩ ?_)
    refine AWP.ret ?_
    refine FI (.tup [.agg [.row 6 0 (List.length l), (I6 room), (I6 0), (B6 true)], (I6 220)]) ?_
    refine Shrink.dataK [6] ((dataAll (fisc l) = true) ∧ (True)) (.tup [.agg [.sl (List.take (List.length l * 3) (List.drop 0 (fisc l))) (List.length l) .any, (I6 room), (I6 0), (B6 true)], (I6 220)]) (by kernel_rfl) ⟨(by simp), trivial⟩ ?_ rfl
    ((rw [fi_all l l.length rfl]; rfl); done)
theorem chg_s (l : List FileD) (room arm : Int) (dead : Bool) (hx : l.length ≤ 1000000) (s : ByteArray) (ho : okD room arm l) (he : askE room arm dead l s = 0) (hh : has l s) (ha : -1 ≤ arm ∧ arm ≤ 9223372036854775807) (h0 : arm ≠ 0) : EvD Try.prog 81 [.agg [.sl (fisc l) l.length .any, .sc (.int .i64 room), .sc (.int .i64 arm), .sc (.bool dead)], .sc (.string s), .fn 82 []] (.tup [.agg [.sl (fisc (synL l (low l s))) l.length .any, .sc (.int .i64 room), .sc (.int .i64 (armN arm)), .sc (.bool dead)], .sc (.int .i64 0)]) := by
  have hll := hh.1
  have hx1 : l.length ≤ 100 := by have := ho.2.2.2.1; omega
  have a1 : EvD Try.prog 67 [.agg [.sl (fisc l) l.length .any, .sc (.int .i64 room), .sc (.int .i64 arm), .sc (.bool dead)], .sc (.string s)] (.sc (.int .i64 0)) := by have := asked l room arm dead hx s; rwa [he] at this
  have p1 := place l room arm dead (okD_srt ho) (by have := ho.2.2.2.1; omega) s
  have f1 := ficlone l (by omega)
  have n1 := done_sync l room arm dead (low l s) hll hx1 ha h0
  refine EvD.body Try.func81 rfl (by simp [dataAll, AVal.data]) (by simp [dataAll, AVal.data]) ?_
  refine AWP.seq ?_
  refine TO ⟨[.agg [.sl (fisc l) (List.length l) .any, (I6 room), (I6 arm), (B6 dead)], (S6 s), .fn 82 []] ++ UU 47, []⟩ ?_
  refine AWP.reg (RT 4 ?_)
  refine AWP.seq (AWP.seq (KL [0, 2] ⟨[U6, (S6 s), U6, .ptr 0 0, U6, .ptr 1 0, .ptr 2 0, (I6 0)] ++ UU 42, [⟨[.sl (fisc l) (List.length l) .any, (I6 room), (I6 arm), (B6 dead)], 4, .fresh⟩, ⟨[.fn 82 []], 1, .fresh⟩, ⟨[.sl [] 0 .nil, (I6 0), (I6 0), (B6 false)], 4, .fresh⟩]⟩ ?_))
  refine AWP.reg (PI 2 (4 ≤ 4 ∧ True ∧ True) ⟨(by omega), trivial, trivial⟩ ?_)
  refine CD (a1) ?_
  refine RT 1 ?_
  refine AWP.seq (KL [13, 14, 15] ⟨[U6, (S6 s), U6, .ptr 0 0, U6, .ptr 1 0, .ptr 2 0, (I6 0), (I6 0)] ++ UU 41, [⟨[.sl (fisc l) (List.length l) .any, (I6 room), (I6 arm), (B6 dead)], 4, .fresh⟩, ⟨[.fn 82 []], 1, .fresh⟩, ⟨[.sl [] 0 .nil, (I6 0), (I6 0), (B6 false)], 4, .fresh⟩]⟩ ?_)
  refine AWP.reg (RT 2 ?_)
  refine KL [16] ⟨[U6, (S6 s), U6, .ptr 0 0, U6, .ptr 1 0, .ptr 2 0, (I6 0), (I6 0)] ++ UU 8 ++ [(B6 false)] ++ UU 32, [⟨[.sl (fisc l) (List.length l) .any, (I6 room), (I6 arm), (B6 dead)], 4, .fresh⟩, ⟨[.fn 82 []], 1, .fresh⟩, ⟨[.sl [] 0 .nil, (I6 0), (I6 0), (B6 false)], 4, .fresh⟩]⟩ ?_
  refine CN false (fun h => nomatch h) (fun _ => ?_)
  refine AWP.skip (SQ (RI (4 ≤ 4 ∧ True ∧ True ∧ True ∧ 1 ≤ 1 ∧ True) ⟨(by omega), trivial, trivial, trivial, (by omega), trivial⟩ ?_))
  refine AWP.seq (KL [8, 17, 20, 21, 22] ⟨[U6, (S6 s), U6, .ptr 0 0, U6, .ptr 1 0, .ptr 2 0, (I6 0), U6, .ptr 4 0] ++ UU 40, [⟨[.sl (fisc l) (List.length l) .any, (I6 room), (I6 arm), (B6 dead)], 4, .fresh⟩, ⟨[.fn 82 []], 1, .fresh⟩, ⟨[.sl [] 0 .nil, (I6 0), (I6 0), (B6 false)], 4, .fresh⟩, ⟨[.sl (fisc l) (List.length l) .any, (I6 room), (I6 arm), (B6 dead)], 4, .fresh⟩, ⟨[.ptr 3 0], 1, .fresh⟩]⟩ ?_)
  refine AWP.reg (PI 2 (0 < 1 ∧ True ∧ True) ⟨(by omega), trivial, trivial⟩ ?_)
  refine DerQ.callK (p1) 3 [.ptr 3 0, (S6 s)] ⟨[U6, (S6 s), U6, .ptr 0 0, U6, .ptr 1 0, .ptr 2 0, (I6 0), U6, .ptr 4 0] ++ UU 14 ++ [.ptr 3 0, (S6 s), .tup [(I6 (↑(low l s) : Int)), (B6 (decide (has l s)))]] ++ UU 23, [⟨[.sl (fisc l) (List.length l) .any, (I6 room), (I6 arm), (B6 dead)], 4, .fresh⟩, ⟨[.fn 82 []], 1, .fresh⟩, ⟨[.sl [] 0 .nil, (I6 0), (I6 0), (B6 false)], 4, .fresh⟩, ⟨[.sl (fisc l) (List.length l) .any, (I6 room), (I6 arm), (B6 dead)], 4, .fresh⟩, ⟨[.ptr 3 0], 1, .fresh⟩]⟩ ⟨by kernel_rfl, by kernel_rfl, by kernel_rfl, by kernel_rfl, by kernel_rfl⟩ ?_
  refine RI (True ∧ True ∧ True ∧ True ∧ 1 ≤ 1 ∧ True ∧ True) ⟨trivial, trivial, trivial, trivial, (by omega), trivial, trivial⟩ ?_
  refine AWP.seq (AWP.seq (KL ([1] ++ NN 23 6) ⟨[U6, U6, U6, .ptr 0 0, U6, .ptr 1 0, .ptr 2 0, (I6 0), U6, .ptr 4 0, .ptr 5 0, (B6 (decide (has l s)))] ++ UU 38, [⟨[.sl (fisc l) (List.length l) .any, (I6 room), (I6 arm), (B6 dead)], 4, .fresh⟩, ⟨[.fn 82 []], 1, .fresh⟩, ⟨[.sl [] 0 .nil, (I6 0), (I6 0), (B6 false)], 4, .fresh⟩, ⟨[.sl (fisc l) (List.length l) .any, (I6 room), (I6 arm), (B6 dead)], 4, .fresh⟩, ⟨[.ptr 3 0], 1, .fresh⟩, ⟨[(I6 (↑(low l s) : Int))], 1, .fresh⟩]⟩ ?_))
  refine AWP.reg (RT 2 ?_)
  refine KL [11, 29] ⟨[U6, U6, U6, .ptr 0 0, U6, .ptr 1 0, .ptr 2 0, (I6 0), U6, .ptr 4 0, .ptr 5 0] ++ UU 19 ++ [(B6 (!decide (has l s)))] ++ UU 19, [⟨[.sl (fisc l) (List.length l) .any, (I6 room), (I6 arm), (B6 dead)], 4, .fresh⟩, ⟨[.fn 82 []], 1, .fresh⟩, ⟨[.sl [] 0 .nil, (I6 0), (I6 0), (B6 false)], 4, .fresh⟩, ⟨[.sl (fisc l) (List.length l) .any, (I6 room), (I6 arm), (B6 dead)], 4, .fresh⟩, ⟨[.ptr 3 0], 1, .fresh⟩, ⟨[(I6 (↑(low l s) : Int))], 1, .fresh⟩]⟩ ?_
  refine CN (!decide (has l s)) (fun h1 => ?_) (fun h1 => ?_)
  · have h1' := h1
    simp only [Bool.and_eq_true, Bool.and_eq_false_iff, Bool.or_eq_true, Bool.or_eq_false_iff, Bool.not_eq_true', Bool.not_eq_false', beq_iff_eq, beq_eq_false_iff_ne, decide_eq_true_eq, decide_eq_false_iff_not, ne_eq] at h1'
    (exfalso; exact absurd hh (by assumption); done)
  · have h1' := h1
    simp only [Bool.and_eq_true, Bool.and_eq_false_iff, Bool.or_eq_true, Bool.or_eq_false_iff, Bool.not_eq_true', Bool.not_eq_false', beq_iff_eq, beq_eq_false_iff_ne, decide_eq_true_eq, decide_eq_false_iff_not, ne_eq] at h1'
    refine AWP.skip (AWP.seq ?_)
    refine AWP.drawB mixed (fun o => if [].contains (o.dst.getD 0) then 1 else if [38].contains (o.dst.getD 0) then 2 else if [0, 37].contains (o.dst.getD 0) then 3 else 0) 0 6 (fun x => [⟨[.sl (fisc l) (List.length l) .any, (I6 room), (I6 arm), (B6 dead)], 4, .fresh⟩, ⟨[.fn 82 []], 1, .fresh⟩, ⟨[.sl [] 0 .nil, (I6 0), (I6 0), (B6 false)], 4, .fresh⟩, ⟨x 3, 4, .fresh⟩, ⟨[.ptr 3 0], 1, .fresh⟩, ⟨[(I6 (↑(low l s) : Int))], 1, .fresh⟩]) ⟨[U6, U6, U6, .ptr 0 0, U6, .ptr 1 0, .ptr 2 0, (I6 0), U6, .ptr 4 0, .ptr 5 0] ++ UU 19 ++ [(B6 (!decide (has l s)))] ++ UU 19, [⟨[.sl (fisc l) (List.length l) .any, (I6 room), (I6 arm), (B6 dead)], 4, .fresh⟩, ⟨[.fn 82 []], 1, .fresh⟩, ⟨[.sl [] 0 .nil, (I6 0), (I6 0), (B6 false)], 4, .fresh⟩, ⟨[.sl (fisc l) (List.length l) .any, (I6 room), (I6 arm), (B6 dead)], 4, .fresh⟩, ⟨[.ptr 3 0], 1, .fresh⟩, ⟨[(I6 (↑(low l s) : Int))], 1, .fresh⟩]⟩ (by kernel_rfl) ⟨by kernel_rfl, by kernel_rfl⟩ (by kernel_rfl) ?_
    refine DerZ.preI 5 (((0 : Nat) < (1 : Nat)) ∧ (((0 : Nat) < (1 : Nat)) ∧ ((True) ∧ ((True) ∧ ((True) ∧ (True)))))) (by intro x ext; kernel_rfl) ⟨(by omega), ⟨(by omega), ⟨trivial, ⟨trivial, ⟨trivial, trivial⟩⟩⟩⟩⟩ ?_
    refine DerZ.effI 6 ((0 : Nat) < (4 : Nat)) (by kernel_rfl) ⟨⟨by kernel_rfl, by kernel_rfl⟩, by kernel_rfl⟩ (by omega) ?_
    refine DerZ.callA (f1) [.sl (fisc l) (List.length l) .any] ⟨[U6, U6, U6, .ptr 0 0, U6, .ptr 1 0, .ptr 2 0, (I6 0), U6, .ptr 4 0, .ptr 5 0] ++ UU 19 ++ [(B6 (!decide (has l s))), U6, .ptr 3 0, .ptr 3 0, .ptr 3 0, .ptr 3 0, .ptr 3 0, .sl (fisc l) (List.length l) .any, .row 6 0 (List.length l)] ++ UU 11, [⟨[.sl (fisc l) (List.length l) .any, (I6 room), (I6 arm), (B6 dead)], 4, .fresh⟩, ⟨[.fn 82 []], 1, .fresh⟩, ⟨[.sl [] 0 .nil, (I6 0), (I6 0), (B6 false)], 4, .fresh⟩, ⟨[.sl (fisc l) (List.length l) .any, (I6 room), (I6 arm), (B6 dead)], 4, .fresh⟩, ⟨[.ptr 3 0], 1, .fresh⟩, ⟨[(I6 (↑(low l s) : Int))], 1, .fresh⟩, ⟨fisc l, 3, .fresh⟩]⟩ ⟨by kernel_rfl, by kernel_rfl, by kernel_rfl, by kernel_rfl, by kernel_rfl⟩ ?_
    refine DerZ.preI 3 ((True) ∧ ((True) ∧ ((True) ∧ (True)))) (by intro x ext; kernel_rfl) ⟨trivial, ⟨trivial, ⟨trivial, trivial⟩⟩⟩ ?_
    refine DerZ.effI 6 ((1 : Nat) ≤ (4 : Nat)) (by kernel_rfl) ⟨⟨by kernel_rfl, by kernel_rfl⟩, by kernel_rfl⟩ (by omega) ?_
    refine DerZ.nil ?_
    refine AWP.seq (KL ([3, 30] ++ NN 32 10) ⟨UU 5 ++ [.ptr 1 0, .ptr 2 0, (I6 0), U6, .ptr 4 0, .ptr 5 0] ++ UU 39, [⟨[.sl (fisc l) (List.length l) .any, (I6 room), (I6 arm), (B6 dead)], 4, .fresh⟩, ⟨[.fn 82 []], 1, .fresh⟩, ⟨[.sl [] 0 .nil, (I6 0), (I6 0), (B6 false)], 4, .fresh⟩, ⟨[.row 6 0 (List.length l), (I6 room), (I6 arm), (B6 dead)], 4, .fresh⟩, ⟨[.ptr 3 0], 1, .fresh⟩, ⟨[(I6 (↑(low l s) : Int))], 1, .fresh⟩, ⟨fisc l, 3, .fresh⟩]⟩ ?_)
    refine AWP.reg (PI 2 (0 < 1 ∧ True ∧ True) ⟨(by omega), trivial, trivial⟩ ?_)
    refine DerQ.callM (n1) [.ptr 3 0, .fn 95 [.ptr 1 0, .ptr 4 0, .ptr 5 0]] ⟨UU 5 ++ [.ptr 1 0, .ptr 2 0, (I6 0), U6, .ptr 4 0, .ptr 5 0] ++ UU 31 ++ [.ptr 3 0, .fn 95 [.ptr 1 0, .ptr 4 0, .ptr 5 0], (I6 0)] ++ UU 5, [⟨[.sl (fisc l) (List.length l) .any, (I6 room), (I6 arm), (B6 dead)], 4, .fresh⟩, ⟨[.fn 82 []], 1, .fresh⟩, ⟨[.sl [] 0 .nil, (I6 0), (I6 0), (B6 false)], 4, .fresh⟩, ⟨[.row 6 0 (List.length l), (I6 room), (I6 (armN arm)), (B6 dead)], 4, .fresh⟩, ⟨[.ptr 3 0], 1, .fresh⟩, ⟨[(I6 (↑(low l s) : Int))], 1, .fresh⟩, ⟨fisc (synL l (low l s)), 3, .fresh⟩]⟩ ⟨by kernel_rfl, by kernel_rfl, by kernel_rfl, by kernel_rfl, by kernel_rfl⟩ ?_
    refine RT 1 ?_
    refine AWP.seq (KL [5, 10, 42, 43, 44] ⟨[.undef] ++ UU 5 ++ [.ptr 2 0, (I6 0), U6, .ptr 4 0, U6, U6, (I6 0)] ++ UU 37, [⟨[.sl (fisc l) (List.length l) .any, (I6 room), (I6 arm), (B6 dead)], 4, .fresh⟩, ⟨[.fn 82 []], 1, .fresh⟩, ⟨[.sl [] 0 .nil, (I6 0), (I6 0), (B6 false)], 4, .fresh⟩, ⟨[.row 6 0 (List.length l), (I6 room), (I6 (armN arm)), (B6 dead)], 4, .fresh⟩, ⟨[.ptr 3 0], 1, .fresh⟩, ⟨[(I6 (↑(low l s) : Int))], 1, .fresh⟩, ⟨fisc (synL l (low l s)), 3, .fresh⟩]⟩ ?_)
    refine AWP.reg (RI (0 < 1 ∧ True ∧ True ∧ 4 ≤ 4 ∧ True ∧ 4 ≤ 4 ∧ True ∧ True) ⟨(by omega), trivial, trivial, (by omega), trivial, (by omega), trivial, trivial⟩ ?_)
    refine AWP.ret ?_
    refine FI (.tup [.agg [.row 6 0 (List.length l), (I6 room), (I6 (armN arm)), (B6 dead)], (I6 0)]) ?_
    refine Shrink.dataK [6] ((dataAll (fisc (synL l (low l s))) = true) ∧ (True)) (.tup [.agg [.sl (List.take (List.length l * 3) (List.drop 0 (fisc (synL l (low l s))))) (List.length l) .any, (I6 room), (I6 (armN arm)), (B6 dead)], (I6 0)]) (by kernel_rfl) ⟨(by simp), trivial⟩ ?_ rfl
    ((rw [fi_all (synL l (low l s)) l.length (by rw [synL, List.length_set])]; rfl); done)
theorem chg_d (l : List FileD) (room arm : Int) (dead : Bool) (hx : l.length ≤ 1000000) (s : ByteArray) (ho : okD room arm l) (he : askE room arm dead l s = 0) (hh : has l s) (ha : -1 ≤ arm ∧ arm ≤ 9223372036854775807) (h0 : arm ≠ 0) : EvD Try.prog 81 [.agg [.sl (fisc l) l.length .any, .sc (.int .i64 room), .sc (.int .i64 arm), .sc (.bool dead)], .sc (.string s), .fn 83 []] (.tup [.agg [.sl (fisc (delD l (low l s))) (l.length - 1) .any, .sc (.int .i64 room), .sc (.int .i64 (armN arm)), .sc (.bool dead)], .sc (.int .i64 0)]) := by
  have hll := hh.1
  have hx1 : l.length ≤ 100 := by have := ho.2.2.2.1; omega
  have a1 : EvD Try.prog 67 [.agg [.sl (fisc l) l.length .any, .sc (.int .i64 room), .sc (.int .i64 arm), .sc (.bool dead)], .sc (.string s)] (.sc (.int .i64 0)) := by have := asked l room arm dead hx s; rwa [he] at this
  have p1 := place l room arm dead (okD_srt ho) (by have := ho.2.2.2.1; omega) s
  have f1 := ficlone l (by omega)
  have n1 := done_drop l room arm dead (low l s) hll hx1 ha h0
  refine EvD.body Try.func81 rfl (by simp [dataAll, AVal.data]) (by simp [dataAll, AVal.data]) ?_
  refine AWP.seq ?_
  refine TO ⟨[.agg [.sl (fisc l) (List.length l) .any, (I6 room), (I6 arm), (B6 dead)], (S6 s), .fn 83 []] ++ UU 47, []⟩ ?_
  refine AWP.reg (RT 4 ?_)
  refine AWP.seq (AWP.seq (KL [0, 2] ⟨[U6, (S6 s), U6, .ptr 0 0, U6, .ptr 1 0, .ptr 2 0, (I6 0)] ++ UU 42, [⟨[.sl (fisc l) (List.length l) .any, (I6 room), (I6 arm), (B6 dead)], 4, .fresh⟩, ⟨[.fn 83 []], 1, .fresh⟩, ⟨[.sl [] 0 .nil, (I6 0), (I6 0), (B6 false)], 4, .fresh⟩]⟩ ?_))
  refine AWP.reg (PI 2 (4 ≤ 4 ∧ True ∧ True) ⟨(by omega), trivial, trivial⟩ ?_)
  refine CD (a1) ?_
  refine RT 1 ?_
  refine AWP.seq (KL [13, 14, 15] ⟨[U6, (S6 s), U6, .ptr 0 0, U6, .ptr 1 0, .ptr 2 0, (I6 0), (I6 0)] ++ UU 41, [⟨[.sl (fisc l) (List.length l) .any, (I6 room), (I6 arm), (B6 dead)], 4, .fresh⟩, ⟨[.fn 83 []], 1, .fresh⟩, ⟨[.sl [] 0 .nil, (I6 0), (I6 0), (B6 false)], 4, .fresh⟩]⟩ ?_)
  refine AWP.reg (RT 2 ?_)
  refine KL [16] ⟨[U6, (S6 s), U6, .ptr 0 0, U6, .ptr 1 0, .ptr 2 0, (I6 0), (I6 0)] ++ UU 8 ++ [(B6 false)] ++ UU 32, [⟨[.sl (fisc l) (List.length l) .any, (I6 room), (I6 arm), (B6 dead)], 4, .fresh⟩, ⟨[.fn 83 []], 1, .fresh⟩, ⟨[.sl [] 0 .nil, (I6 0), (I6 0), (B6 false)], 4, .fresh⟩]⟩ ?_
  refine CN false (fun h => nomatch h) (fun _ => ?_)
  refine AWP.skip (SQ (RI (4 ≤ 4 ∧ True ∧ True ∧ True ∧ 1 ≤ 1 ∧ True) ⟨(by omega), trivial, trivial, trivial, (by omega), trivial⟩ ?_))
  refine AWP.seq (KL [8, 17, 20, 21, 22] ⟨[U6, (S6 s), U6, .ptr 0 0, U6, .ptr 1 0, .ptr 2 0, (I6 0), U6, .ptr 4 0] ++ UU 40, [⟨[.sl (fisc l) (List.length l) .any, (I6 room), (I6 arm), (B6 dead)], 4, .fresh⟩, ⟨[.fn 83 []], 1, .fresh⟩, ⟨[.sl [] 0 .nil, (I6 0), (I6 0), (B6 false)], 4, .fresh⟩, ⟨[.sl (fisc l) (List.length l) .any, (I6 room), (I6 arm), (B6 dead)], 4, .fresh⟩, ⟨[.ptr 3 0], 1, .fresh⟩]⟩ ?_)
  refine AWP.reg (PI 2 (0 < 1 ∧ True ∧ True) ⟨(by omega), trivial, trivial⟩ ?_)
  refine DerQ.callK (p1) 3 [.ptr 3 0, (S6 s)] ⟨[U6, (S6 s), U6, .ptr 0 0, U6, .ptr 1 0, .ptr 2 0, (I6 0), U6, .ptr 4 0] ++ UU 14 ++ [.ptr 3 0, (S6 s), .tup [(I6 (↑(low l s) : Int)), (B6 (decide (has l s)))]] ++ UU 23, [⟨[.sl (fisc l) (List.length l) .any, (I6 room), (I6 arm), (B6 dead)], 4, .fresh⟩, ⟨[.fn 83 []], 1, .fresh⟩, ⟨[.sl [] 0 .nil, (I6 0), (I6 0), (B6 false)], 4, .fresh⟩, ⟨[.sl (fisc l) (List.length l) .any, (I6 room), (I6 arm), (B6 dead)], 4, .fresh⟩, ⟨[.ptr 3 0], 1, .fresh⟩]⟩ ⟨by kernel_rfl, by kernel_rfl, by kernel_rfl, by kernel_rfl, by kernel_rfl⟩ ?_
  refine RI (True ∧ True ∧ True ∧ True ∧ 1 ≤ 1 ∧ True ∧ True) ⟨trivial, trivial, trivial, trivial, (by omega), trivial, trivial⟩ ?_
  refine AWP.seq (AWP.seq (KL ([1] ++ NN 23 6) ⟨[U6, U6, U6, .ptr 0 0, U6, .ptr 1 0, .ptr 2 0, (I6 0), U6, .ptr 4 0, .ptr 5 0, (B6 (decide (has l s)))] ++ UU 38, [⟨[.sl (fisc l) (List.length l) .any, (I6 room), (I6 arm), (B6 dead)], 4, .fresh⟩, ⟨[.fn 83 []], 1, .fresh⟩, ⟨[.sl [] 0 .nil, (I6 0), (I6 0), (B6 false)], 4, .fresh⟩, ⟨[.sl (fisc l) (List.length l) .any, (I6 room), (I6 arm), (B6 dead)], 4, .fresh⟩, ⟨[.ptr 3 0], 1, .fresh⟩, ⟨[(I6 (↑(low l s) : Int))], 1, .fresh⟩]⟩ ?_))
  refine AWP.reg (RT 2 ?_)
  refine KL [11, 29] ⟨[U6, U6, U6, .ptr 0 0, U6, .ptr 1 0, .ptr 2 0, (I6 0), U6, .ptr 4 0, .ptr 5 0] ++ UU 19 ++ [(B6 (!decide (has l s)))] ++ UU 19, [⟨[.sl (fisc l) (List.length l) .any, (I6 room), (I6 arm), (B6 dead)], 4, .fresh⟩, ⟨[.fn 83 []], 1, .fresh⟩, ⟨[.sl [] 0 .nil, (I6 0), (I6 0), (B6 false)], 4, .fresh⟩, ⟨[.sl (fisc l) (List.length l) .any, (I6 room), (I6 arm), (B6 dead)], 4, .fresh⟩, ⟨[.ptr 3 0], 1, .fresh⟩, ⟨[(I6 (↑(low l s) : Int))], 1, .fresh⟩]⟩ ?_
  refine CN (!decide (has l s)) (fun h1 => ?_) (fun h1 => ?_)
  · have h1' := h1
    simp only [Bool.and_eq_true, Bool.and_eq_false_iff, Bool.or_eq_true, Bool.or_eq_false_iff, Bool.not_eq_true', Bool.not_eq_false', beq_iff_eq, beq_eq_false_iff_ne, decide_eq_true_eq, decide_eq_false_iff_not, ne_eq] at h1'
    (exfalso; exact absurd hh (by assumption); done)
  · have h1' := h1
    simp only [Bool.and_eq_true, Bool.and_eq_false_iff, Bool.or_eq_true, Bool.or_eq_false_iff, Bool.not_eq_true', Bool.not_eq_false', beq_iff_eq, beq_eq_false_iff_ne, decide_eq_true_eq, decide_eq_false_iff_not, ne_eq] at h1'
    refine AWP.skip (AWP.seq ?_)
    refine AWP.drawB mixed (fun o => if [].contains (o.dst.getD 0) then 1 else if [38].contains (o.dst.getD 0) then 2 else if [0, 37].contains (o.dst.getD 0) then 3 else 0) 0 6 (fun x => [⟨[.sl (fisc l) (List.length l) .any, (I6 room), (I6 arm), (B6 dead)], 4, .fresh⟩, ⟨[.fn 83 []], 1, .fresh⟩, ⟨[.sl [] 0 .nil, (I6 0), (I6 0), (B6 false)], 4, .fresh⟩, ⟨x 3, 4, .fresh⟩, ⟨[.ptr 3 0], 1, .fresh⟩, ⟨[(I6 (↑(low l s) : Int))], 1, .fresh⟩]) ⟨[U6, U6, U6, .ptr 0 0, U6, .ptr 1 0, .ptr 2 0, (I6 0), U6, .ptr 4 0, .ptr 5 0] ++ UU 19 ++ [(B6 (!decide (has l s)))] ++ UU 19, [⟨[.sl (fisc l) (List.length l) .any, (I6 room), (I6 arm), (B6 dead)], 4, .fresh⟩, ⟨[.fn 83 []], 1, .fresh⟩, ⟨[.sl [] 0 .nil, (I6 0), (I6 0), (B6 false)], 4, .fresh⟩, ⟨[.sl (fisc l) (List.length l) .any, (I6 room), (I6 arm), (B6 dead)], 4, .fresh⟩, ⟨[.ptr 3 0], 1, .fresh⟩, ⟨[(I6 (↑(low l s) : Int))], 1, .fresh⟩]⟩ (by kernel_rfl) ⟨by kernel_rfl, by kernel_rfl⟩ (by kernel_rfl) ?_
    refine DerZ.preI 5 (((0 : Nat) < (1 : Nat)) ∧ (((0 : Nat) < (1 : Nat)) ∧ ((True) ∧ ((True) ∧ ((True) ∧ (True)))))) (by intro x ext; kernel_rfl) ⟨(by omega), ⟨(by omega), ⟨trivial, ⟨trivial, ⟨trivial, trivial⟩⟩⟩⟩⟩ ?_
    refine DerZ.effI 6 ((0 : Nat) < (4 : Nat)) (by kernel_rfl) ⟨⟨by kernel_rfl, by kernel_rfl⟩, by kernel_rfl⟩ (by omega) ?_
    refine DerZ.callA (f1) [.sl (fisc l) (List.length l) .any] ⟨[U6, U6, U6, .ptr 0 0, U6, .ptr 1 0, .ptr 2 0, (I6 0), U6, .ptr 4 0, .ptr 5 0] ++ UU 19 ++ [(B6 (!decide (has l s))), U6, .ptr 3 0, .ptr 3 0, .ptr 3 0, .ptr 3 0, .ptr 3 0, .sl (fisc l) (List.length l) .any, .row 6 0 (List.length l)] ++ UU 11, [⟨[.sl (fisc l) (List.length l) .any, (I6 room), (I6 arm), (B6 dead)], 4, .fresh⟩, ⟨[.fn 83 []], 1, .fresh⟩, ⟨[.sl [] 0 .nil, (I6 0), (I6 0), (B6 false)], 4, .fresh⟩, ⟨[.sl (fisc l) (List.length l) .any, (I6 room), (I6 arm), (B6 dead)], 4, .fresh⟩, ⟨[.ptr 3 0], 1, .fresh⟩, ⟨[(I6 (↑(low l s) : Int))], 1, .fresh⟩, ⟨fisc l, 3, .fresh⟩]⟩ ⟨by kernel_rfl, by kernel_rfl, by kernel_rfl, by kernel_rfl, by kernel_rfl⟩ ?_
    refine DerZ.preI 3 ((True) ∧ ((True) ∧ ((True) ∧ (True)))) (by intro x ext; kernel_rfl) ⟨trivial, ⟨trivial, ⟨trivial, trivial⟩⟩⟩ ?_
    refine DerZ.effI 6 ((1 : Nat) ≤ (4 : Nat)) (by kernel_rfl) ⟨⟨by kernel_rfl, by kernel_rfl⟩, by kernel_rfl⟩ (by omega) ?_
    refine DerZ.nil ?_
    refine AWP.seq (KL ([3, 30] ++ NN 32 10) ⟨UU 5 ++ [.ptr 1 0, .ptr 2 0, (I6 0), U6, .ptr 4 0, .ptr 5 0] ++ UU 39, [⟨[.sl (fisc l) (List.length l) .any, (I6 room), (I6 arm), (B6 dead)], 4, .fresh⟩, ⟨[.fn 83 []], 1, .fresh⟩, ⟨[.sl [] 0 .nil, (I6 0), (I6 0), (B6 false)], 4, .fresh⟩, ⟨[.row 6 0 (List.length l), (I6 room), (I6 arm), (B6 dead)], 4, .fresh⟩, ⟨[.ptr 3 0], 1, .fresh⟩, ⟨[(I6 (↑(low l s) : Int))], 1, .fresh⟩, ⟨fisc l, 3, .fresh⟩]⟩ ?_)
    refine AWP.reg (PI 2 (0 < 1 ∧ True ∧ True) ⟨(by omega), trivial, trivial⟩ ?_)
    refine DerQ.callM (n1) [.ptr 3 0, .fn 95 [.ptr 1 0, .ptr 4 0, .ptr 5 0]] ⟨UU 5 ++ [.ptr 1 0, .ptr 2 0, (I6 0), U6, .ptr 4 0, .ptr 5 0] ++ UU 31 ++ [.ptr 3 0, .fn 95 [.ptr 1 0, .ptr 4 0, .ptr 5 0], (I6 0)] ++ UU 5, [⟨[.sl (fisc l) (List.length l) .any, (I6 room), (I6 arm), (B6 dead)], 4, .fresh⟩, ⟨[.fn 83 []], 1, .fresh⟩, ⟨[.sl [] 0 .nil, (I6 0), (I6 0), (B6 false)], 4, .fresh⟩, ⟨[.sl (fisc (delD l (low l s))) (List.length l - 1) .any, (I6 room), (I6 (armN arm)), (B6 dead)], 4, .fresh⟩, ⟨[.ptr 3 0], 1, .fresh⟩, ⟨[(I6 (↑(low l s) : Int))], 1, .fresh⟩, ⟨[], 3, .dead⟩]⟩ ⟨by kernel_rfl, by kernel_rfl, by kernel_rfl, by kernel_rfl, by kernel_rfl⟩ ?_
    refine DerQ.run (True ∧ True) ⟨UU 5 ++ [.ptr 1 0, .ptr 2 0, (I6 0), U6, .ptr 4 0, .ptr 5 0, U6, (I6 0)] ++ UU 29 ++ [.ptr 3 0, .fn 95 [.ptr 1 0, .ptr 4 0, .ptr 5 0], (I6 0)] ++ UU 5, [⟨[.sl (fisc l) (List.length l) .any, (I6 room), (I6 arm), (B6 dead)], 4, .fresh⟩, ⟨[.fn 83 []], 1, .fresh⟩, ⟨[.sl [] 0 .nil, (I6 0), (I6 0), (B6 false)], 4, .fresh⟩, ⟨[.sl (fisc (delD l (low l s))) (List.length l - 1) .any, (I6 room), (I6 (armN arm)), (B6 dead)], 4, .fresh⟩, ⟨[.ptr 3 0], 1, .fresh⟩, ⟨[(I6 (↑(low l s) : Int))], 1, .fresh⟩, ⟨[], 3, .dead⟩]⟩ (by kernel_rfl) ⟨trivial, trivial⟩ ?_
    refine AWP.seq (KL [5, 10, 42, 43, 44] ⟨[.undef] ++ UU 5 ++ [.ptr 2 0, (I6 0), U6, .ptr 4 0, U6, U6, (I6 0)] ++ UU 37, [⟨[.sl (fisc l) (List.length l) .any, (I6 room), (I6 arm), (B6 dead)], 4, .fresh⟩, ⟨[.fn 83 []], 1, .fresh⟩, ⟨[.sl [] 0 .nil, (I6 0), (I6 0), (B6 false)], 4, .fresh⟩, ⟨[.sl (fisc (delD l (low l s))) (List.length l - 1) .any, (I6 room), (I6 (armN arm)), (B6 dead)], 4, .fresh⟩, ⟨[.ptr 3 0], 1, .fresh⟩, ⟨[(I6 (↑(low l s) : Int))], 1, .fresh⟩, ⟨[], 3, .dead⟩]⟩ ?_)
    refine AWP.reg ?_
    refine DerQ.run (0 < 1 ∧ True ∧ True ∧ 4 ≤ 4 ∧ True ∧ 4 ≤ 4 ∧ True ∧ True) ⟨[.undef] ++ UU 5 ++ [.ptr 2 0, (I6 0), U6, .ptr 4 0, U6, U6, (I6 0)] ++ UU 32 ++ [.ptr 3 0, .ptr 3 0, .ptr 3 0, .agg [.sl (fisc (delD l (low l s))) (List.length l - 1) .any, (I6 room), (I6 (armN arm)), (B6 dead)], (I6 0)], [⟨[.sl (fisc l) (List.length l) .any, (I6 room), (I6 arm), (B6 dead)], 4, .fresh⟩, ⟨[.fn 83 []], 1, .fresh⟩, ⟨[.sl (fisc (delD l (low l s))) (List.length l - 1) .any, (I6 room), (I6 (armN arm)), (B6 dead)], 4, .fresh⟩, ⟨[.sl (fisc (delD l (low l s))) (List.length l - 1) .any, (I6 room), (I6 (armN arm)), (B6 dead)], 4, .fresh⟩, ⟨[.ptr 3 0], 1, .fresh⟩, ⟨[(I6 (↑(low l s) : Int))], 1, .fresh⟩, ⟨[], 3, .dead⟩]⟩ (by kernel_rfl) ⟨(by omega), trivial, trivial, (by omega), trivial, (by omega), trivial, trivial⟩ ?_
    refine KL ([9, 12] ++ NN 45 5) ⟨[.undef] ++ UU 5 ++ [.ptr 2 0, (I6 0)] ++ UU 42, [⟨[.sl (fisc l) (List.length l) .any, (I6 room), (I6 arm), (B6 dead)], 4, .fresh⟩, ⟨[.fn 83 []], 1, .fresh⟩, ⟨[.sl (fisc (delD l (low l s))) (List.length l - 1) .any, (I6 room), (I6 (armN arm)), (B6 dead)], 4, .fresh⟩, ⟨[.sl (fisc (delD l (low l s))) (List.length l - 1) .any, (I6 room), (I6 (armN arm)), (B6 dead)], 4, .fresh⟩, ⟨[.ptr 3 0], 1, .fresh⟩, ⟨[(I6 (↑(low l s) : Int))], 1, .fresh⟩, ⟨[], 3, .dead⟩]⟩ ?_
    refine AWP.ret FA
theorem sync_ask (l : List FileD) (room arm : Int) (dead : Bool) (hx : l.length ≤ 1000000) (s : ByteArray) (e : Int) (h0 : e ≠ 0) (he : askE room arm dead l s = e) : EvD Try.prog 63 [.agg [.sl (fisc l) l.length .any, .sc (.int .i64 room), .sc (.int .i64 arm), .sc (.bool dead)], .sc (.string s)] (.tup [.agg [.sl (fisc l) l.length .any, .sc (.int .i64 room), .sc (.int .i64 arm), .sc (.bool dead)], .sc (.int .i64 e)]) := by
  have c1 := chg_ask l room arm dead hx 82 s e h0 he
  refine EvD.body Try.func63 rfl (by simp [dataAll, AVal.data]) (by simp [dataAll, AVal.data]) ?_
  refine AWP.seq ?_
  refine TO ⟨[.agg [.sl (fisc l) (List.length l) .any, (I6 room), (I6 arm), (B6 dead)], (S6 s)] ++ UU 9, []⟩ ?_
  refine AWP.reg (RT 3 ?_)
  refine AWP.seq (KL [0] ⟨[U6, (S6 s), .ptr 0 0, U6, .ptr 1 0, (I6 0)] ++ UU 5, [⟨[.sl (fisc l) (List.length l) .any, (I6 room), (I6 arm), (B6 dead)], 4, .fresh⟩, ⟨[.sl [] 0 .nil, (I6 0), (I6 0), (B6 false)], 4, .fresh⟩]⟩ ?_)
  refine AWP.reg (PI 2 (4 ≤ 4 ∧ True ∧ True) ⟨(by omega), trivial, trivial⟩ ?_)
  refine CD (c1) ?_
  refine RI (True ∧ True ∧ 4 ≤ 4 ∧ True ∧ True) ⟨trivial, trivial, (by omega), trivial, trivial⟩ ?_
  refine AWP.ret FA
theorem sync_none (l : List FileD) (room arm : Int) (dead : Bool) (hx : l.length ≤ 1000000) (s : ByteArray) (ho : okD room arm l) (he : askE room arm dead l s = 0) (hh : ¬ has l s) : EvD Try.prog 63 [.agg [.sl (fisc l) l.length .any, .sc (.int .i64 room), .sc (.int .i64 arm), .sc (.bool dead)], .sc (.string s)] (.tup [.agg [.sl (fisc l) l.length .any, .sc (.int .i64 room), .sc (.int .i64 arm), .sc (.bool dead)], .sc (.int .i64 7)]) := by
  have c1 := chg_none l room arm dead hx 82 s ho he hh
  refine EvD.body Try.func63 rfl (by simp [dataAll, AVal.data]) (by simp [dataAll, AVal.data]) ?_
  refine AWP.seq ?_
  refine TO ⟨[.agg [.sl (fisc l) (List.length l) .any, (I6 room), (I6 arm), (B6 dead)], (S6 s)] ++ UU 9, []⟩ ?_
  refine AWP.reg (RT 3 ?_)
  refine AWP.seq (KL [0] ⟨[U6, (S6 s), .ptr 0 0, U6, .ptr 1 0, (I6 0)] ++ UU 5, [⟨[.sl (fisc l) (List.length l) .any, (I6 room), (I6 arm), (B6 dead)], 4, .fresh⟩, ⟨[.sl [] 0 .nil, (I6 0), (I6 0), (B6 false)], 4, .fresh⟩]⟩ ?_)
  refine AWP.reg (PI 2 (4 ≤ 4 ∧ True ∧ True) ⟨(by omega), trivial, trivial⟩ ?_)
  refine CD (c1) ?_
  refine RI (True ∧ True ∧ 4 ≤ 4 ∧ True ∧ True) ⟨trivial, trivial, (by omega), trivial, trivial⟩ ?_
  refine AWP.ret FA
theorem sync_out (l : List FileD) (room : Int) (dead : Bool) (hx : l.length ≤ 1000000) (s : ByteArray) (ho : okD room 0 l) (he : askE room 0 dead l s = 0) (hh : has l s) : EvD Try.prog 63 [.agg [.sl (fisc l) l.length .any, .sc (.int .i64 room), .sc (.int .i64 0), .sc (.bool dead)], .sc (.string s)] (.tup [.agg [.sl (fisc l) l.length .any, .sc (.int .i64 room), .sc (.int .i64 0), .sc (.bool true)], .sc (.int .i64 220)]) := by
  have c1 := chg_out l room dead hx 82 s ho he hh
  refine EvD.body Try.func63 rfl (by simp [dataAll, AVal.data]) (by simp [dataAll, AVal.data]) ?_
  refine AWP.seq ?_
  refine TO ⟨[.agg [.sl (fisc l) (List.length l) .any, (I6 room), (I6 0), (B6 dead)], (S6 s)] ++ UU 9, []⟩ ?_
  refine AWP.reg (RT 3 ?_)
  refine AWP.seq (KL [0] ⟨[U6, (S6 s), .ptr 0 0, U6, .ptr 1 0, (I6 0)] ++ UU 5, [⟨[.sl (fisc l) (List.length l) .any, (I6 room), (I6 0), (B6 dead)], 4, .fresh⟩, ⟨[.sl [] 0 .nil, (I6 0), (I6 0), (B6 false)], 4, .fresh⟩]⟩ ?_)
  refine AWP.reg (PI 2 (4 ≤ 4 ∧ True ∧ True) ⟨(by omega), trivial, trivial⟩ ?_)
  refine CD (c1) ?_
  refine RI (True ∧ True ∧ 4 ≤ 4 ∧ True ∧ True) ⟨trivial, trivial, (by omega), trivial, trivial⟩ ?_
  refine AWP.ret FA
theorem sync_ok (l : List FileD) (room arm : Int) (dead : Bool) (hx : l.length ≤ 1000000) (s : ByteArray) (ho : okD room arm l) (he : askE room arm dead l s = 0) (hh : has l s) (ha : -1 ≤ arm ∧ arm ≤ 9223372036854775807) (h0 : arm ≠ 0) : EvD Try.prog 63 [.agg [.sl (fisc l) l.length .any, .sc (.int .i64 room), .sc (.int .i64 arm), .sc (.bool dead)], .sc (.string s)] (.tup [.agg [.sl (fisc (synL l (low l s))) l.length .any, .sc (.int .i64 room), .sc (.int .i64 (armN arm)), .sc (.bool dead)], .sc (.int .i64 0)]) := by
  have c1 := chg_s l room arm dead hx  s ho he hh ha h0
  refine EvD.body Try.func63 rfl (by simp [dataAll, AVal.data]) (by simp [dataAll, AVal.data]) ?_
  refine AWP.seq ?_
  refine TO ⟨[.agg [.sl (fisc l) (List.length l) .any, (I6 room), (I6 arm), (B6 dead)], (S6 s)] ++ UU 9, []⟩ ?_
  refine AWP.reg (RT 3 ?_)
  refine AWP.seq (KL [0] ⟨[U6, (S6 s), .ptr 0 0, U6, .ptr 1 0, (I6 0)] ++ UU 5, [⟨[.sl (fisc l) (List.length l) .any, (I6 room), (I6 arm), (B6 dead)], 4, .fresh⟩, ⟨[.sl [] 0 .nil, (I6 0), (I6 0), (B6 false)], 4, .fresh⟩]⟩ ?_)
  refine AWP.reg (PI 2 (4 ≤ 4 ∧ True ∧ True) ⟨(by omega), trivial, trivial⟩ ?_)
  refine CD (c1) ?_
  refine RI (True ∧ True ∧ 4 ≤ 4 ∧ True ∧ True) ⟨trivial, trivial, (by omega), trivial, trivial⟩ ?_
  refine AWP.ret FA
theorem drop_ask (l : List FileD) (room arm : Int) (dead : Bool) (hx : l.length ≤ 1000000) (s : ByteArray) (e : Int) (h0 : e ≠ 0) (he : askE room arm dead l s = e) : EvD Try.prog 64 [.agg [.sl (fisc l) l.length .any, .sc (.int .i64 room), .sc (.int .i64 arm), .sc (.bool dead)], .sc (.string s)] (.tup [.agg [.sl (fisc l) l.length .any, .sc (.int .i64 room), .sc (.int .i64 arm), .sc (.bool dead)], .sc (.int .i64 e)]) := by
  have c1 := chg_ask l room arm dead hx 83 s e h0 he
  refine EvD.body Try.func64 rfl (by simp [dataAll, AVal.data]) (by simp [dataAll, AVal.data]) ?_
  refine AWP.seq ?_
  refine TO ⟨[.agg [.sl (fisc l) (List.length l) .any, (I6 room), (I6 arm), (B6 dead)], (S6 s)] ++ UU 9, []⟩ ?_
  refine AWP.reg (RT 3 ?_)
  refine AWP.seq (KL [0] ⟨[U6, (S6 s), .ptr 0 0, U6, .ptr 1 0, (I6 0)] ++ UU 5, [⟨[.sl (fisc l) (List.length l) .any, (I6 room), (I6 arm), (B6 dead)], 4, .fresh⟩, ⟨[.sl [] 0 .nil, (I6 0), (I6 0), (B6 false)], 4, .fresh⟩]⟩ ?_)
  refine AWP.reg (PI 2 (4 ≤ 4 ∧ True ∧ True) ⟨(by omega), trivial, trivial⟩ ?_)
  refine CD (c1) ?_
  refine RI (True ∧ True ∧ 4 ≤ 4 ∧ True ∧ True) ⟨trivial, trivial, (by omega), trivial, trivial⟩ ?_
  refine AWP.ret FA
theorem drop_none (l : List FileD) (room arm : Int) (dead : Bool) (hx : l.length ≤ 1000000) (s : ByteArray) (ho : okD room arm l) (he : askE room arm dead l s = 0) (hh : ¬ has l s) : EvD Try.prog 64 [.agg [.sl (fisc l) l.length .any, .sc (.int .i64 room), .sc (.int .i64 arm), .sc (.bool dead)], .sc (.string s)] (.tup [.agg [.sl (fisc l) l.length .any, .sc (.int .i64 room), .sc (.int .i64 arm), .sc (.bool dead)], .sc (.int .i64 7)]) := by
  have c1 := chg_none l room arm dead hx 83 s ho he hh
  refine EvD.body Try.func64 rfl (by simp [dataAll, AVal.data]) (by simp [dataAll, AVal.data]) ?_
  refine AWP.seq ?_
  refine TO ⟨[.agg [.sl (fisc l) (List.length l) .any, (I6 room), (I6 arm), (B6 dead)], (S6 s)] ++ UU 9, []⟩ ?_
  refine AWP.reg (RT 3 ?_)
  refine AWP.seq (KL [0] ⟨[U6, (S6 s), .ptr 0 0, U6, .ptr 1 0, (I6 0)] ++ UU 5, [⟨[.sl (fisc l) (List.length l) .any, (I6 room), (I6 arm), (B6 dead)], 4, .fresh⟩, ⟨[.sl [] 0 .nil, (I6 0), (I6 0), (B6 false)], 4, .fresh⟩]⟩ ?_)
  refine AWP.reg (PI 2 (4 ≤ 4 ∧ True ∧ True) ⟨(by omega), trivial, trivial⟩ ?_)
  refine CD (c1) ?_
  refine RI (True ∧ True ∧ 4 ≤ 4 ∧ True ∧ True) ⟨trivial, trivial, (by omega), trivial, trivial⟩ ?_
  refine AWP.ret FA
theorem drop_out (l : List FileD) (room : Int) (dead : Bool) (hx : l.length ≤ 1000000) (s : ByteArray) (ho : okD room 0 l) (he : askE room 0 dead l s = 0) (hh : has l s) : EvD Try.prog 64 [.agg [.sl (fisc l) l.length .any, .sc (.int .i64 room), .sc (.int .i64 0), .sc (.bool dead)], .sc (.string s)] (.tup [.agg [.sl (fisc l) l.length .any, .sc (.int .i64 room), .sc (.int .i64 0), .sc (.bool true)], .sc (.int .i64 220)]) := by
  have c1 := chg_out l room dead hx 83 s ho he hh
  refine EvD.body Try.func64 rfl (by simp [dataAll, AVal.data]) (by simp [dataAll, AVal.data]) ?_
  refine AWP.seq ?_
  refine TO ⟨[.agg [.sl (fisc l) (List.length l) .any, (I6 room), (I6 0), (B6 dead)], (S6 s)] ++ UU 9, []⟩ ?_
  refine AWP.reg (RT 3 ?_)
  refine AWP.seq (KL [0] ⟨[U6, (S6 s), .ptr 0 0, U6, .ptr 1 0, (I6 0)] ++ UU 5, [⟨[.sl (fisc l) (List.length l) .any, (I6 room), (I6 0), (B6 dead)], 4, .fresh⟩, ⟨[.sl [] 0 .nil, (I6 0), (I6 0), (B6 false)], 4, .fresh⟩]⟩ ?_)
  refine AWP.reg (PI 2 (4 ≤ 4 ∧ True ∧ True) ⟨(by omega), trivial, trivial⟩ ?_)
  refine CD (c1) ?_
  refine RI (True ∧ True ∧ 4 ≤ 4 ∧ True ∧ True) ⟨trivial, trivial, (by omega), trivial, trivial⟩ ?_
  refine AWP.ret FA
theorem drop_ok (l : List FileD) (room arm : Int) (dead : Bool) (hx : l.length ≤ 1000000) (s : ByteArray) (ho : okD room arm l) (he : askE room arm dead l s = 0) (hh : has l s) (ha : -1 ≤ arm ∧ arm ≤ 9223372036854775807) (h0 : arm ≠ 0) : EvD Try.prog 64 [.agg [.sl (fisc l) l.length .any, .sc (.int .i64 room), .sc (.int .i64 arm), .sc (.bool dead)], .sc (.string s)] (.tup [.agg [.sl (fisc (delD l (low l s))) (l.length - 1) .any, .sc (.int .i64 room), .sc (.int .i64 (armN arm)), .sc (.bool dead)], .sc (.int .i64 0)]) := by
  have c1 := chg_d l room arm dead hx  s ho he hh ha h0
  refine EvD.body Try.func64 rfl (by simp [dataAll, AVal.data]) (by simp [dataAll, AVal.data]) ?_
  refine AWP.seq ?_
  refine TO ⟨[.agg [.sl (fisc l) (List.length l) .any, (I6 room), (I6 arm), (B6 dead)], (S6 s)] ++ UU 9, []⟩ ?_
  refine AWP.reg (RT 3 ?_)
  refine AWP.seq (KL [0] ⟨[U6, (S6 s), .ptr 0 0, U6, .ptr 1 0, (I6 0)] ++ UU 5, [⟨[.sl (fisc l) (List.length l) .any, (I6 room), (I6 arm), (B6 dead)], 4, .fresh⟩, ⟨[.sl [] 0 .nil, (I6 0), (I6 0), (B6 false)], 4, .fresh⟩]⟩ ?_)
  refine AWP.reg (PI 2 (4 ≤ 4 ∧ True ∧ True) ⟨(by omega), trivial, trivial⟩ ?_)
  refine DerQ.callD (c1) ⟨[U6, (S6 s), .ptr 0 0, U6, .ptr 1 0, (I6 0), .agg [.sl (fisc l) (List.length l) .any, (I6 room), (I6 arm), (B6 dead)], (S6 s), .tup [.agg [.sl (fisc (delD l (low l s))) (List.length l - 1) .any, (I6 room), (I6 (armN arm)), (B6 dead)], (I6 0)], U6, .undef], [⟨[.sl (fisc l) (List.length l) .any, (I6 room), (I6 arm), (B6 dead)], 4, .fresh⟩, ⟨[.sl [] 0 .nil, (I6 0), (I6 0), (B6 false)], 4, .fresh⟩]⟩ ⟨by kernel_rfl, by kernel_rfl, by kernel_rfl⟩ ?_
  refine DerQ.run (True ∧ True ∧ 4 ≤ 4 ∧ True ∧ True) ⟨[U6, (S6 s), .ptr 0 0, U6, .ptr 1 0, (I6 0), .agg [.sl (fisc l) (List.length l) .any, (I6 room), (I6 arm), (B6 dead)], (S6 s), .tup [.agg [.sl (fisc (delD l (low l s))) (List.length l - 1) .any, (I6 room), (I6 (armN arm)), (B6 dead)], (I6 0)], .agg [.sl (fisc (delD l (low l s))) (List.length l - 1) .any, (I6 room), (I6 (armN arm)), (B6 dead)], (I6 0)], [⟨[.sl (fisc l) (List.length l) .any, (I6 room), (I6 arm), (B6 dead)], 4, .fresh⟩, ⟨[.sl (fisc (delD l (low l s))) (List.length l - 1) .any, (I6 room), (I6 (armN arm)), (B6 dead)], 4, .fresh⟩]⟩ (by kernel_rfl) ⟨trivial, trivial, (by omega), trivial, trivial⟩ ?_
  refine KL ([1, 2] ++ NN 6 5) ⟨[U6, U6, U6, U6, .ptr 1 0, (I6 0)] ++ UU 5, [⟨[.sl (fisc l) (List.length l) .any, (I6 room), (I6 arm), (B6 dead)], 4, .fresh⟩, ⟨[.sl (fisc (delD l (low l s))) (List.length l - 1) .any, (I6 room), (I6 (armN arm)), (B6 dead)], 4, .fresh⟩]⟩ ?_
  refine AWP.ret FA
end Go.Dk
