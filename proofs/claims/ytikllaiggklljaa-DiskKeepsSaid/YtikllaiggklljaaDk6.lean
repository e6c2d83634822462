/- Walks and laws. -/
import Derived.Test.YtikllaiggklljaaDk5
import Derived.Test.YtikllaiggklljaaLibC
set_option maxRecDepth 100000
set_option maxHeartbeats 0
set_option linter.unusedSimpArgs false
set_option linter.unusedVariables false
namespace Go.Dk
open Go Go.Abs Go.Proofs
theorem arm_dead (l : List FileD) (room arm : Int) (dead : Bool) (hx : l.length ≤ 1000000) (n : Int) (ho : okD room arm l) (hd : dead = true) : EvD Try.prog 41 [.agg [.sl (fisc l) l.length .any, .sc (.int .i64 room), .sc (.int .i64 arm), .sc (.bool dead)], .sc (.int .i64 n)] (.tup [.agg [.sl (fisc l) l.length .any, .sc (.int .i64 room), .sc (.int .i64 arm), .sc (.bool dead)], .sc (.int .i64 220)]) := by
  subst hd
  have c1 : EvD Try.prog 47 [.agg [.sl (fisc l) l.length .any, .sc (.int .i64 room), .sc (.int .i64 arm), .sc (.bool true)]] (.sc (.bool true)) := by
    have := check l room arm true (by omega)
    rwa [decide_eq_true ho] at this
  refine EvD.body Try.func41 rfl (by simp [dataAll, AVal.data]) (by simp [dataAll, AVal.data]) ?_
  refine AWP.seq ?_
  refine TO ⟨[.agg [.sl (fisc l) (List.length l) .any, (I6 room), (I6 arm), (B6 true)], (I6 n)] ++ UU 20, []⟩ ?_
  refine AWP.reg (RT 3 ?_)
  refine AWP.seq (AWP.block (AWP.seq (KL [0] ⟨[U6, (I6 n), .ptr 0 0, U6, .ptr 1 0, (I6 0)] ++ UU 16, [⟨[.sl (fisc l) (List.length l) .any, (I6 room), (I6 arm), (B6 true)], 4, .fresh⟩, ⟨[.sl [] 0 .nil, (I6 0), (I6 0), (B6 false)], 4, .fresh⟩]⟩ ?_)))
  refine AWP.reg (PI 1 (4 ≤ 4 ∧ True) ⟨(by omega), trivial⟩ ?_)
  refine CD (c1) ?_
  refine RT 2 ?_
  refine KL [7, 8, 9] ⟨[U6, (I6 n), .ptr 0 0, U6, .ptr 1 0, (I6 0), (B6 false)] ++ UU 15, [⟨[.sl (fisc l) (List.length l) .any, (I6 room), (I6 arm), (B6 true)], 4, .fresh⟩, ⟨[.sl [] 0 .nil, (I6 0), (I6 0), (B6 false)], 4, .fresh⟩]⟩ ?_
  refine CN false (fun h => nomatch h) (fun _ => ?_)
  refine SQ (RI (True ∧ 3 < 4 ∧ True ∧ True) ⟨trivial, (by omega), trivial, trivial⟩ ?_)
  refine KL [6, 12, 13] ⟨[U6, (I6 n), .ptr 0 0, U6, .ptr 1 0, (I6 0)] ++ UU 5 ++ [(B6 true)] ++ UU 10, [⟨[.sl (fisc l) (List.length l) .any, (I6 room), (I6 arm), (B6 true)], 4, .fresh⟩, ⟨[.sl [] 0 .nil, (I6 0), (I6 0), (B6 false)], 4, .fresh⟩]⟩ ?_
  refine CN true (fun _ => ?_) (fun h => nomatch h)
  refine SQ (RI (4 ≤ 4 ∧ 4 ≤ 4 ∧ True ∧ True) ⟨(by omega), (by omega), trivial, trivial⟩ ?_)
  refine AWP.ret FA
theorem arm_arg (l : List FileD) (room arm : Int) (dead : Bool) (hx : l.length ≤ 1000000) (n : Int) (ho : okD room arm l) (hd : dead = false) (hn : n < -1) : EvD Try.prog 41 [.agg [.sl (fisc l) l.length .any, .sc (.int .i64 room), .sc (.int .i64 arm), .sc (.bool dead)], .sc (.int .i64 n)] (.tup [.agg [.sl (fisc l) l.length .any, .sc (.int .i64 room), .sc (.int .i64 arm), .sc (.bool dead)], .sc (.int .i64 2)]) := by
  subst hd
  have c1 : EvD Try.prog 47 [.agg [.sl (fisc l) l.length .any, .sc (.int .i64 room), .sc (.int .i64 arm), .sc (.bool false)]] (.sc (.bool true)) := by
    have := check l room arm false (by omega)
    rwa [decide_eq_true ho] at this
  refine EvD.body Try.func41 rfl (by simp [dataAll, AVal.data]) (by simp [dataAll, AVal.data]) ?_
  refine AWP.seq ?_
  refine TO ⟨[.agg [.sl (fisc l) (List.length l) .any, (I6 room), (I6 arm), (B6 false)], (I6 n)] ++ UU 20, []⟩ ?_
  refine AWP.reg (RT 3 ?_)
  refine AWP.seq (AWP.block (AWP.seq (KL [0] ⟨[U6, (I6 n), .ptr 0 0, U6, .ptr 1 0, (I6 0)] ++ UU 16, [⟨[.sl (fisc l) (List.length l) .any, (I6 room), (I6 arm), (B6 false)], 4, .fresh⟩, ⟨[.sl [] 0 .nil, (I6 0), (I6 0), (B6 false)], 4, .fresh⟩]⟩ ?_)))
  refine AWP.reg (PI 1 (4 ≤ 4 ∧ True) ⟨(by omega), trivial⟩ ?_)
  refine CD (c1) ?_
  refine RT 2 ?_
  refine KL [7, 8, 9] ⟨[U6, (I6 n), .ptr 0 0, U6, .ptr 1 0, (I6 0), (B6 false)] ++ UU 15, [⟨[.sl (fisc l) (List.length l) .any, (I6 room), (I6 arm), (B6 false)], 4, .fresh⟩, ⟨[.sl [] 0 .nil, (I6 0), (I6 0), (B6 false)], 4, .fresh⟩]⟩ ?_
  refine CN false (fun h => nomatch h) (fun _ => ?_)
  refine SQ (RI (True ∧ 3 < 4 ∧ True ∧ True) ⟨trivial, (by omega), trivial, trivial⟩ ?_)
  refine KL [6, 12, 13] ⟨[U6, (I6 n), .ptr 0 0, U6, .ptr 1 0, (I6 0)] ++ UU 5 ++ [(B6 false)] ++ UU 10, [⟨[.sl (fisc l) (List.length l) .any, (I6 room), (I6 arm), (B6 false)], 4, .fresh⟩, ⟨[.sl [] 0 .nil, (I6 0), (I6 0), (B6 false)], 4, .fresh⟩]⟩ ?_
  refine CN false (fun h => nomatch h) (fun _ => ?_)
  refine SQ (RT 3 ?_)
  refine KL [11, 16, 17] ⟨[U6, (I6 n), .ptr 0 0, U6, .ptr 1 0, (I6 0)] ++ UU 9 ++ [(B6 (decide (n < -1)))] ++ UU 6, [⟨[.sl (fisc l) (List.length l) .any, (I6 room), (I6 arm), (B6 false)], 4, .fresh⟩, ⟨[.sl [] 0 .nil, (I6 0), (I6 0), (B6 false)], 4, .fresh⟩]⟩ ?_
  refine CN (decide (n < -1)) (fun h1 => ?_) (fun h1 => ?_)
  · have h1' := of_decide_eq_true h1
    refine SQ (RI (4 ≤ 4 ∧ 4 ≤ 4 ∧ True ∧ True) ⟨(by omega), (by omega), trivial, trivial⟩ ?_)
    refine AWP.ret FA
  · have h1' := of_decide_eq_false h1
    exfalso; omega
theorem arm_ok (l : List FileD) (room arm : Int) (dead : Bool) (hx : l.length ≤ 1000000) (n : Int) (ho : okD room arm l) (hd : dead = false) (hn : -1 ≤ n) : EvD Try.prog 41 [.agg [.sl (fisc l) l.length .any, .sc (.int .i64 room), .sc (.int .i64 arm), .sc (.bool dead)], .sc (.int .i64 n)] (.tup [.agg [.sl (fisc l) l.length .any, .sc (.int .i64 room), .sc (.int .i64 n), .sc (.bool dead)], .sc (.int .i64 0)]) := by
  subst hd
  have c1 : EvD Try.prog 47 [.agg [.sl (fisc l) l.length .any, .sc (.int .i64 room), .sc (.int .i64 arm), .sc (.bool false)]] (.sc (.bool true)) := by
    have := check l room arm false (by omega)
    rwa [decide_eq_true ho] at this
  refine EvD.body Try.func41 rfl (by simp [dataAll, AVal.data]) (by simp [dataAll, AVal.data]) ?_
  refine AWP.seq ?_
  refine TO ⟨[.agg [.sl (fisc l) (List.length l) .any, (I6 room), (I6 arm), (B6 false)], (I6 n)] ++ UU 20, []⟩ ?_
  refine AWP.reg (RT 3 ?_)
  refine AWP.seq (AWP.block (AWP.seq (KL [0] ⟨[U6, (I6 n), .ptr 0 0, U6, .ptr 1 0, (I6 0)] ++ UU 16, [⟨[.sl (fisc l) (List.length l) .any, (I6 room), (I6 arm), (B6 false)], 4, .fresh⟩, ⟨[.sl [] 0 .nil, (I6 0), (I6 0), (B6 false)], 4, .fresh⟩]⟩ ?_)))
  refine AWP.reg (PI 1 (4 ≤ 4 ∧ True) ⟨(by omega), trivial⟩ ?_)
  refine CD (c1) ?_
  refine RT 2 ?_
  refine KL [7, 8, 9] ⟨[U6, (I6 n), .ptr 0 0, U6, .ptr 1 0, (I6 0), (B6 false)] ++ UU 15, [⟨[.sl (fisc l) (List.length l) .any, (I6 room), (I6 arm), (B6 false)], 4, .fresh⟩, ⟨[.sl [] 0 .nil, (I6 0), (I6 0), (B6 false)], 4, .fresh⟩]⟩ ?_
  refine CN false (fun h => nomatch h) (fun _ => ?_)
  refine SQ (RI (True ∧ 3 < 4 ∧ True ∧ True) ⟨trivial, (by omega), trivial, trivial⟩ ?_)
  refine KL [6, 12, 13] ⟨[U6, (I6 n), .ptr 0 0, U6, .ptr 1 0, (I6 0)] ++ UU 5 ++ [(B6 false)] ++ UU 10, [⟨[.sl (fisc l) (List.length l) .any, (I6 room), (I6 arm), (B6 false)], 4, .fresh⟩, ⟨[.sl [] 0 .nil, (I6 0), (I6 0), (B6 false)], 4, .fresh⟩]⟩ ?_
  refine CN false (fun h => nomatch h) (fun _ => ?_)
  refine SQ (RT 3 ?_)
  refine KL [11, 16, 17] ⟨[U6, (I6 n), .ptr 0 0, U6, .ptr 1 0, (I6 0)] ++ UU 9 ++ [(B6 (decide (n < -1)))] ++ UU 6, [⟨[.sl (fisc l) (List.length l) .any, (I6 room), (I6 arm), (B6 false)], 4, .fresh⟩, ⟨[.sl [] 0 .nil, (I6 0), (I6 0), (B6 false)], 4, .fresh⟩]⟩ ?_
  refine CN (decide (n < -1)) (fun h1 => ?_) (fun h1 => ?_)
  · have h1' := of_decide_eq_true h1
    exfalso; omega
  · have h1' := of_decide_eq_false h1
    refine AWP.skip (SQ (RI (True ∧ True ∧ 3 ≤ 4 ∧ True) ⟨trivial, trivial, (by omega), trivial⟩ ?_))
    refine AWP.seq (KL [1, 15, 19, 20] ⟨[U6, U6, .ptr 0 0, U6, .ptr 1 0, (I6 0)] ++ UU 16, [⟨[.sl (fisc l) (List.length l) .any, (I6 room), (I6 n), (B6 false)], 4, .fresh⟩, ⟨[.sl [] 0 .nil, (I6 0), (I6 0), (B6 false)], 4, .fresh⟩]⟩ ?_)
    refine AWP.reg (RI (4 ≤ 4 ∧ 4 ≤ 4 ∧ True ∧ True) ⟨(by omega), (by omega), trivial, trivial⟩ ?_)
    refine AWP.ret FA
theorem read_ask (l : List FileD) (room arm : Int) (dead : Bool) (hx : l.length ≤ 1000000) (s : ByteArray) (e : Int) (h0 : e ≠ 0) (he : askE room arm dead l s = e) : EvD Try.prog 43 [.agg [.sl (fisc l) l.length .any, .sc (.int .i64 room), .sc (.int .i64 arm), .sc (.bool dead)], .sc (.string s)] (.tup [.sl [] 0 .any, .sc (.int .i64 e)]) := by
  have a1 : EvD Try.prog 67 [.agg [.sl (fisc l) l.length .any, .sc (.int .i64 room), .sc (.int .i64 arm), .sc (.bool dead)], .sc (.string s)] (.sc (.int .i64 e)) := by have := asked l room arm dead hx s; rwa [he] at this
  refine EvD.body Try.func43 rfl (by simp [dataAll, AVal.data]) (by simp [dataAll, AVal.data]) ?_
  refine AWP.seq ?_
  refine TO ⟨[.agg [.sl (fisc l) (List.length l) .any, (I6 room), (I6 arm), (B6 dead)], (S6 s)] ++ UU 35, []⟩ ?_
  refine AWP.reg (RT 3 ?_)
  refine AWP.seq (AWP.seq (KL [0] ⟨[U6, (S6 s), .ptr 0 0, U6, .sl [] 0 .nil, (I6 0)] ++ UU 31, [⟨[.sl (fisc l) (List.length l) .any, (I6 room), (I6 arm), (B6 dead)], 4, .fresh⟩]⟩ ?_))
  refine AWP.reg (PI 2 (4 ≤ 4 ∧ True ∧ True) ⟨(by omega), trivial, trivial⟩ ?_)
  refine CD (a1) ?_
  refine RT 1 ?_
  refine AWP.seq (KL [10, 11, 12] ⟨[U6, (S6 s), .ptr 0 0, U6, .sl [] 0 .nil, (I6 0), (I6 e)] ++ UU 30, [⟨[.sl (fisc l) (List.length l) .any, (I6 room), (I6 arm), (B6 dead)], 4, .fresh⟩]⟩ ?_)
  refine AWP.reg (RT 2 ?_)
  refine KL [13] ⟨[U6, (S6 s), .ptr 0 0, U6, .sl [] 0 .nil, (I6 0), (I6 e)] ++ UU 7 ++ [(B6 (e != 0))] ++ UU 22, [⟨[.sl (fisc l) (List.length l) .any, (I6 room), (I6 arm), (B6 dead)], 4, .fresh⟩]⟩ ?_
  refine CN (e != 0) (fun h1 => ?_) (fun h1 => ?_)
  · have h1' := bne_iff_ne.1 h1
    refine SQ (RT 3 ?_)
    refine AWP.ret ?_
    refine FI (.tup [.sl [] 0 .nil, (I6 e)]) ?_
    refine Shrink.dataK [] (True) (.tup [.sl [] 0 .nil, (I6 e)]) (by kernel_rfl) trivial ?_ rfl
    kernel_rfl
  · have h1' := bne_eq_false_iff_eq.1 h1
    exfalso; omega
theorem read_ok (l : List FileD) (room arm : Int) (dead : Bool) (hx : l.length ≤ 1000000) (s : ByteArray) (ho : okD room arm l) (he : askE room arm dead l s = 0) (hh : has l s) (hd : (l.getD (low l s) fi0).d.length ≤ 1000000) : EvD Try.prog 43 [.agg [.sl (fisc l) l.length .any, .sc (.int .i64 room), .sc (.int .i64 arm), .sc (.bool dead)], .sc (.string s)] (.tup [.sl (u8s (l.getD (low l s) fi0).d) (l.getD (low l s) fi0).d.length .any, .sc (.int .i64 0)]) := by
  have hll := hh.1
  have a1 : EvD Try.prog 67 [.agg [.sl (fisc l) l.length .any, .sc (.int .i64 room), .sc (.int .i64 arm), .sc (.bool dead)], .sc (.string s)] (.sc (.int .i64 0)) := by have := asked l room arm dead hx s; rwa [he] at this
  refine EvD.body Try.func43 rfl (by simp [dataAll, AVal.data]) (by simp [dataAll, AVal.data]) ?_
  refine AWP.seq ?_
  refine TO ⟨[.agg [.sl (fisc l) (List.length l) .any, (I6 room), (I6 arm), (B6 dead)], (S6 s)] ++ UU 35, []⟩ ?_
  refine AWP.reg (RT 3 ?_)
  refine AWP.seq (AWP.seq (KL [0] ⟨[U6, (S6 s), .ptr 0 0, U6, .sl [] 0 .nil, (I6 0)] ++ UU 31, [⟨[.sl (fisc l) (List.length l) .any, (I6 room), (I6 arm), (B6 dead)], 4, .fresh⟩]⟩ ?_))
  refine AWP.reg (PI 2 (4 ≤ 4 ∧ True ∧ True) ⟨(by omega), trivial, trivial⟩ ?_)
  refine CD (a1) ?_
  refine RT 1 ?_
  refine AWP.seq (KL [10, 11, 12] ⟨[U6, (S6 s), .ptr 0 0, U6, .sl [] 0 .nil, (I6 0), (I6 0)] ++ UU 30, [⟨[.sl (fisc l) (List.length l) .any, (I6 room), (I6 arm), (B6 dead)], 4, .fresh⟩]⟩ ?_)
  refine AWP.reg (RT 2 ?_)
  refine KL [13] ⟨[U6, (S6 s), .ptr 0 0, U6, .sl [] 0 .nil, (I6 0), (I6 0)] ++ UU 7 ++ [(B6 false)] ++ UU 22, [⟨[.sl (fisc l) (List.length l) .any, (I6 room), (I6 arm), (B6 dead)], 4, .fresh⟩]⟩ ?_
  refine CN false (fun h => nomatch h) (fun _ => ?_)
  refine AWP.skip (SQ (RI (4 ≤ 4 ∧ True ∧ True ∧ True ∧ True) ⟨(by omega), trivial, trivial, trivial, trivial⟩ ?_))
  refine AWP.seq (KL [2, 6, 14, 16, 17, 18] ⟨[U6, (S6 s), U6, U6, .sl [] 0 .nil, (I6 0), U6, .ptr 1 0] ++ UU 29, [⟨[.sl (fisc l) (List.length l) .any, (I6 room), (I6 arm), (B6 dead)], 4, .fresh⟩, ⟨[.sl (fisc l) (List.length l) .any, (I6 room), (I6 arm), (B6 dead)], 4, .fresh⟩]⟩ ?_)
  refine AWP.reg (PT 2 2 ?_)
  refine DerQ.callK (place l room arm dead (okD_srt ho) (by have := ho.2.2.2.1; omega) s) 1 [.ptr 1 0, (S6 s)] ⟨[U6, (S6 s), U6, U6, .sl [] 0 .nil, (I6 0), U6, .ptr 1 0] ++ UU 12 ++ [.ptr 1 0, (S6 s), .tup [(I6 (↑(low l s) : Int)), (B6 (decide (has l s)))]] ++ UU 14, [⟨[.sl (fisc l) (List.length l) .any, (I6 room), (I6 arm), (B6 dead)], 4, .fresh⟩, ⟨[.sl (fisc l) (List.length l) .any, (I6 room), (I6 arm), (B6 dead)], 4, .fresh⟩]⟩ ⟨by kernel_rfl, by kernel_rfl, by kernel_rfl, by kernel_rfl, by kernel_rfl⟩ ?_
  refine RT 5 ?_
  refine AWP.seq (AWP.seq (KL ([1] ++ NN 19 6) ⟨[U6, U6, U6, U6, .sl [] 0 .nil, (I6 0), U6, .ptr 1 0, (I6 (↑(low l s) : Int)), (B6 (decide (has l s)))] ++ UU 27, [⟨[.sl (fisc l) (List.length l) .any, (I6 room), (I6 arm), (B6 dead)], 4, .fresh⟩, ⟨[.sl (fisc l) (List.length l) .any, (I6 room), (I6 arm), (B6 dead)], 4, .fresh⟩]⟩ ?_))
  refine AWP.reg (RT 2 ?_)
  refine KL [9, 25] ⟨[U6, U6, U6, U6, .sl [] 0 .nil, (I6 0), U6, .ptr 1 0, (I6 (↑(low l s) : Int))] ++ UU 17 ++ [(B6 (!decide (has l s)))] ++ UU 10, [⟨[.sl (fisc l) (List.length l) .any, (I6 room), (I6 arm), (B6 dead)], 4, .fresh⟩, ⟨[.sl (fisc l) (List.length l) .any, (I6 room), (I6 arm), (B6 dead)], 4, .fresh⟩]⟩ ?_
  refine CN (!decide (has l s)) (fun h1 => ?_) (fun h1 => ?_)
  · have h1' := h1
    simp only [Bool.and_eq_true, Bool.and_eq_false_iff, Bool.or_eq_true, Bool.or_eq_false_iff, Bool.not_eq_true', Bool.not_eq_false', beq_iff_eq, beq_eq_false_iff_ne, decide_eq_true_eq, decide_eq_false_iff_not, ne_eq] at h1'
    (exfalso; exact absurd hh (by assumption); done)
  · have h1' := h1
    simp only [Bool.and_eq_true, Bool.and_eq_false_iff, Bool.or_eq_true, Bool.or_eq_false_iff, Bool.not_eq_true', Bool.not_eq_false', beq_iff_eq, beq_eq_false_iff_ne, decide_eq_true_eq, decide_eq_false_iff_not, ne_eq] at h1'
    refine AWP.skip (SQ ?_)
    refine DerQ.pre 9 (True ∧ True ∧ True ∧ True ∧ 0 < 4 ∧ True ∧ (((0 ≤ (↑(low l s) : Int)) ∧ ((↑(low l s) : Int) < (↑(List.length l) : Int))) ∧ (Int.toNat (↑(low l s) : Int) * 3 + 3 ≤ List.length (fisc l))) ∧ 2 ≤ 3 ∧ 0 < 1 ∧ True) ⟨[U6, U6, U6, U6, .sl [] 0 .nil, (I6 0), U6, .ptr 1 0, (I6 (↑(low l s) : Int))] ++ UU 17 ++ [(B6 (!decide (has l s))), .ptr 1 0, .ptr 1 0, .ptr 1 0, .ptr 1 0, .sl (fisc l) (List.length l) .any, (I6 (↑(low l s) : Int)), .dptr [List.getD (fisc l) (Int.toNat (↑(low l s) : Int) * 3 + 0) U6, List.getD (fisc l) (Int.toNat (↑(low l s) : Int) * 3 + 1) U6, List.getD (fisc l) (Int.toNat (↑(low l s) : Int) * 3 + 2) AVal.undef], .dptr [List.getD (fisc l) (Int.toNat (↑(low l s) : Int) * 3 + 1) AVal.undef], List.getD [List.getD (fisc l) (Int.toNat (↑(low l s) : Int) * 3 + 1) AVal.undef] 0 U6, .undef], [⟨[.sl (fisc l) (List.length l) .any, (I6 room), (I6 arm), (B6 dead)], 4, .fresh⟩, ⟨[.sl (fisc l) (List.length l) .any, (I6 room), (I6 arm), (B6 dead)], 4, .fresh⟩]⟩ (by kernel_rfl) ⟨trivial, trivial, trivial, trivial, (by omega), trivial, ⟨⟨(by omega), (by omega)⟩, (by (simp [spliceA_length] <;> omega))⟩, (by omega), (by omega), trivial⟩ ?_
    rw [Int.toNat_natCast (low l s)]
    rw [Nat.add_zero (low l s * 3)]
    rw [Go.Dk.fi_1 (l) (low l s) (by omega)]
    refine DerQ.callD (bclone (l.getD (low l s) fi0).d (by omega)) ⟨[U6, U6, U6, U6, .sl [] 0 .nil, (I6 0), U6, .ptr 1 0, (I6 (↑(low l s) : Int))] ++ UU 17 ++ [(B6 (!decide (has l s))), .ptr 1 0, .ptr 1 0, .ptr 1 0, .ptr 1 0, .sl (fisc l) (List.length l) .any, (I6 (↑(low l s) : Int)), .dptr [List.getD (fisc l) (low l s * 3) U6, .sl (u8s (List.getD l (low l s) fi0).d) (List.length (List.getD l (low l s) fi0).d) .any, List.getD (fisc l) (low l s * 3 + 2) AVal.undef], .dptr [.sl (u8s (List.getD l (low l s) fi0).d) (List.length (List.getD l (low l s) fi0).d) .any], .sl (u8s (List.getD l (low l s) fi0).d) (List.length (List.getD l (low l s) fi0).d) .any, .sl (u8s (List.getD l (low l s) fi0).d) (List.length (List.getD l (low l s) fi0).d) .any], [⟨[.sl (fisc l) (List.length l) .any, (I6 room), (I6 arm), (B6 dead)], 4, .fresh⟩, ⟨[.sl (fisc l) (List.length l) .any, (I6 room), (I6 arm), (B6 dead)], 4, .fresh⟩]⟩ ⟨by kernel_rfl, by kernel_rfl, by kernel_rfl⟩ ?_
    refine DerQ.run (TT 2) ⟨[U6, U6, U6, U6, .sl (u8s (List.getD l (low l s) fi0).d) (List.length (List.getD l (low l s) fi0).d) .any, (I6 0), U6, .ptr 1 0, (I6 (↑(low l s) : Int))] ++ UU 17 ++ [(B6 (!decide (has l s))), .ptr 1 0, .ptr 1 0, .ptr 1 0, .ptr 1 0, .sl (fisc l) (List.length l) .any, (I6 (↑(low l s) : Int)), .dptr [List.getD (fisc l) (low l s * 3) U6, .sl (u8s (List.getD l (low l s) fi0).d) (List.length (List.getD l (low l s) fi0).d) .any, List.getD (fisc l) (low l s * 3 + 2) AVal.undef], .dptr [.sl (u8s (List.getD l (low l s) fi0).d) (List.length (List.getD l (low l s) fi0).d) .any], .sl (u8s (List.getD l (low l s) fi0).d) (List.length (List.getD l (low l s) fi0).d) .any, .sl (u8s (List.getD l (low l s) fi0).d) (List.length (List.getD l (low l s) fi0).d) .any], [⟨[.sl (fisc l) (List.length l) .any, (I6 room), (I6 arm), (B6 dead)], 4, .fresh⟩, ⟨[.sl (fisc l) (List.length l) .any, (I6 room), (I6 arm), (B6 dead)], 4, .fresh⟩]⟩ (by kernel_rfl) (tt 2) ?_
    refine KL ([7, 8] ++ NN 26 11) ⟨[U6, U6, U6, U6, .sl (u8s (List.getD l (low l s) fi0).d) (List.length (List.getD l (low l s) fi0).d) .any, (I6 0)] ++ UU 31, [⟨[.sl (fisc l) (List.length l) .any, (I6 room), (I6 arm), (B6 dead)], 4, .fresh⟩, ⟨[.sl (fisc l) (List.length l) .any, (I6 room), (I6 arm), (B6 dead)], 4, .fresh⟩]⟩ ?_
    refine AWP.ret FA
def crN (keep : Int) (f : FileD) : Nat := (f.sf + max 0 (min keep ((f.d.length : Int) - f.sf))).toNat
def crF (keep : Int) (f : FileD) : FileD := ⟨f.nm, f.d.take (crN keep f), (crN keep f : Int)⟩
def crL (l : List FileD) (keep : Int) : Nat → List FileD
  | 0 => []
  | i + 1 => crL l keep i ++ [crF keep (l.getD i fi0)]
theorem crL_len (l : List FileD) (keep : Int) (i : Nat) : (crL l keep i).length = i := by
  induction i with
  | zero => rfl
  | succ i ih => rw [crL, List.length_append, ih]; rfl
theorem crN_le {keep : Int} {f : FileD} (h : 0 ≤ f.sf ∧ f.sf ≤ f.d.length) : crN keep f ≤ f.d.length := by unfold crN; omega
theorem crN_eq (keep : Int) (f : FileD) (h : 0 ≤ f.sf ∧ f.sf ≤ f.d.length ∧ f.d.length ≤ 1048576) : (f.sf + if (if (f.d.length : Int) - f.sf < keep then (f.d.length : Int) - f.sf else keep) > 0 then if (f.d.length : Int) - f.sf < keep then (f.d.length : Int) - f.sf else keep else 0) = ((crN keep f : Nat) : Int) := by
  unfold crN
  split <;> split <;> omega
theorem okF_f {room arm : Int} {l : List FileD} (h : okD room arm l) (i : Nat) (hi : i < l.length) : 0 ≤ (l.getD i fi0).sf ∧ (l.getD i fi0).sf ≤ (l.getD i fi0).d.length ∧ (l.getD i fi0).d.length ≤ 1048576 := by
  have h1 := h.2.2.2.2 i hi
  have h2 := d_le l i hi
  have h3 := okD_used h
  have := h.2.1
  exact ⟨h1.2.1, h1.2.2.1, by omega⟩
theorem bcloneN (xs : List Int) (n : Nat) (hn : n ≤ xs.length) (hx : xs.length ≤ 1048576) : EvD Try.prog 57 [.sl (u8s (List.take n xs)) n .any] (.sl (u8s (List.take n xs)) n .any) := by
  have e : (List.take n xs).length = n := by rw [List.length_take]; omega
  have := bclone (List.take n xs) (by omega)
  rwa [e] at this
theorem fi_dat2 (l : List FileD) (a : ByteArray) (d : List Int) (n : Nat) (s : Int) : dataAll (fisc l ++ [.sc (.string a), .sl (u8s d) n .any, .sc (.int .i64 s)]) = true := by
  rw [dataAll_append, fisc_data]; simp [dataAll, AVal.data]
theorem fi_ones2 (a : ByteArray) (d : List Int) (n : Nat) (s : Int) : ∀ q, q < 3 → AVal.one (List.getD [AVal.sc (.string a), .sl (u8s d) n .any, .sc (.int .i64 s)] q .undef) = true := by
  intro j hj; rcases j with _ | _ | _ | j <;> first | rfl | (exfalso; omega)
theorem fi_app2 (l : List FileD) (a : ByteArray) (d : List Int) (n : Nat) (s : Int) (h : n ≤ d.length) : fisc l ++ [.sc (.string a), .sl (u8s (List.take n d)) n .any, .sc (.int .i64 s)] = fisc (l ++ [⟨a, List.take n d, s⟩]) := by
  have e : n = (List.take n d).length := by rw [List.length_take]; omega
  have := fi_app l a (List.take n d) s
  rwa [← e] at this
theorem crash_ok (l : List FileD) (room arm : Int) (dead : Bool) (hx : l.length ≤ 1000000) (keep : Int) (ho : okD room arm l) : EvD Try.prog 44 [.agg [.sl (fisc l) l.length .any, .sc (.int .i64 room), .sc (.int .i64 arm), .sc (.bool dead)], .sc (.int .i64 keep)] (.agg [.sl (fisc (crL l keep l.length)) l.length .any, .sc (.int .i64 room), .sc (.int .i64 (-1)), .sc (.bool false)]) := by
  have c1 : EvD Try.prog 47 [.agg [.sl (fisc l) l.length .any, .sc (.int .i64 room), .sc (.int .i64 arm), .sc (.bool dead)]] (.sc (.bool true)) := by
    have := check l room arm dead (by omega)
    rwa [decide_eq_true ho] at this
  refine EvD.body Try.func44 rfl (by simp [dataAll, AVal.data]) (by simp [dataAll, AVal.data]) ?_
  refine AWP.seq ?_
  refine TO ⟨[.agg [.sl (fisc l) (List.length l) .any, (I6 room), (I6 arm), (B6 dead)], (I6 keep)] ++ UU 49, []⟩ ?_
  refine AWP.reg (RT 2 ?_)
  refine AWP.seq (AWP.seq (KL [0] ⟨[U6, (I6 keep), .ptr 0 0, U6, .ptr 1 0] ++ UU 46, [⟨[.sl (fisc l) (List.length l) .any, (I6 room), (I6 arm), (B6 dead)], 4, .fresh⟩, ⟨[.sl [] 0 .nil, (I6 0), (I6 0), (B6 false)], 4, .fresh⟩]⟩ ?_))
  refine AWP.reg (PI 1 (4 ≤ 4 ∧ True) ⟨(by omega), trivial⟩ ?_)
  refine CD (c1) ?_
  refine RT 1 ?_
  refine KL [9, 10] ⟨[U6, (I6 keep), .ptr 0 0, U6, .ptr 1 0] ++ UU 6 ++ [(B6 false)] ++ UU 39, [⟨[.sl (fisc l) (List.length l) .any, (I6 room), (I6 arm), (B6 dead)], 4, .fresh⟩, ⟨[.sl [] 0 .nil, (I6 0), (I6 0), (B6 false)], 4, .fresh⟩]⟩ ?_
  refine CN false (fun h => nomatch h) (fun _ => ?_)
  refine AWP.skip (SQ (RI (True ∧ 1 < 4 ∧ True ∧ True ∧ 4 ≤ 4 ∧ True) ⟨trivial, (by omega), trivial, trivial, (by omega), trivial⟩ ?_))
  refine AWP.seq (AWP.seq (KL [11, 13, 14, 15] ⟨[U6, (I6 keep), .ptr 0 0, U6, .ptr 1 0, .ptr 2 0] ++ UU 45, [⟨[.sl (fisc l) (List.length l) .any, (I6 room), (I6 arm), (B6 dead)], 4, .fresh⟩, ⟨[.sl [] 0 .nil, (I6 0), (I6 0), (B6 false)], 4, .fresh⟩, ⟨[.sl [] 0 .nil, (I6 room), (I6 (-1)), (B6 false)], 4, .fresh⟩]⟩ ?_))
  refine AWP.reg (RI (True ∧ 0 < 4 ∧ True ∧ True ∧ True) ⟨trivial, (by omega), trivial, trivial, trivial⟩ ?_)
  refine AWP.block (KL [2, 16] ⟨[U6, (I6 keep), U6, U6, .ptr 1 0, .ptr 2 0] ++ UU 11 ++ [.sl (fisc l) (List.length l) .any, (I6 (↑(List.length l) : Int)), (I6 0)] ++ UU 31, [⟨[.sl (fisc l) (List.length l) .any, (I6 room), (I6 arm), (B6 dead)], 4, .fresh⟩, ⟨[.sl [] 0 .nil, (I6 0), (I6 0), (B6 false)], 4, .fresh⟩, ⟨[.sl [] 0 .nil, (I6 room), (I6 (-1)), (B6 false)], 4, .fresh⟩]⟩ ?_)
  refine AWP.weaken (st' := ⟨[U6, (I6 keep), U6, U6, .ptr 1 0, .ptr 2 0] ++ UU 11 ++ [.sl (fisc l) (List.length l) .any, (I6 (↑(List.length l) : Int)), (I6 0)] ++ UU 31, [⟨[.sl (fisc l) (List.length l) .any, (I6 room), (I6 arm), (B6 dead)], 4, .fresh⟩, ⟨[.sl [] 0 .nil, (I6 0), (I6 0), (B6 false)], 4, .fresh⟩, ⟨[.row 3 0 0, (I6 room), (I6 (-1)), (B6 false)], 4, .fresh⟩, ⟨[], 3, .fresh⟩]⟩) (Weak.virtC 2 0 3 ⟨[.sl [] 0 .nil, (I6 room), (I6 (-1)), (B6 false)], 4, .fresh⟩ _ ⟨by kernel_rfl, by kernel_rfl, by kernel_rfl, by kernel_rfl⟩) ?_
  refine AWP.grow 3 ⟨[], 3, .fresh⟩ ⟨[U6, (I6 keep), U6, U6, .ptr 1 0, .ptr 2 0, U6, U6, U6, U6, U6, U6, U6, U6, U6, U6, U6, .sl (fisc l) (List.length l) .any, (I6 (↑(List.length l) : Int)), (I6 0), U6, U6, U6, U6, U6, U6, U6, U6, U6, U6, U6, U6, U6, U6, U6, U6, U6, U6, U6, U6, U6, U6, U6, U6, U6, U6, U6, U6, U6, U6, .undef], [⟨[.sl (fisc l) (List.length l) .any, (I6 room), (I6 arm), (B6 dead)], 4, .fresh⟩, ⟨[.sl [] 0 .nil, (I6 0), (I6 0), (B6 false)], 4, .fresh⟩, ⟨[.row 3 0 0, (I6 room), (I6 (-1)), (B6 false)], 4, .fresh⟩, ⟨[], 3, .grown⟩]⟩ ⟨by kernel_rfl, by kernel_rfl⟩ rfl rfl ?_
  refine AWP.loopW [false, true, false, false, true, true, false, false, false, false, false, false, false, false, false, false, false, true, true, true, false, false, false, false, false, false, false, false, false, false, false, false, false, false, false, false, false, false, false, false, false, false, false, false, false, false, false, false, false, false, false] (fun kk st => ∃ (i : Nat), kk = l.length - i ∧ i ≤ l.length ∧ st = ⟨[U6, (I6 keep), U6, U6, .ptr 1 0, .ptr 2 0, U6, U6, U6, U6, U6, U6, U6, U6, U6, U6, U6, .sl (fisc l) (List.length l) .any, (I6 (↑(List.length l) : Int)), (I6 (i : Int)), U6, U6, U6, U6, U6, U6, U6, U6, U6, U6, U6, U6, U6, U6, U6, U6, U6, U6, U6, U6, U6, U6, U6, U6, U6, U6, U6, U6, U6, U6, .undef], [⟨[.sl (fisc l) (List.length l) .any, (I6 room), (I6 arm), (B6 dead)], 4, .fresh⟩, ⟨[.sl [] 0 .nil, (I6 0), (I6 0), (B6 false)], 4, .fresh⟩, ⟨[.row 3 0 i, (I6 room), (I6 (-1)), (B6 false)], 4, .fresh⟩, ⟨fisc (crL l keep i), 3, .grown⟩]⟩) _ ⟨0, rfl, by omega, by kernel_rfl⟩ ?_
  rintro kk s ⟨i, rfl, hi, rfl⟩
  have hF := okF_f ho i
  have hN : i < l.length → crN keep (l.getD i fi0) ≤ (l.getD i fi0).d.length := fun h => crN_le ⟨(okF_f ho i h).1, (okF_f ho i h).2.1⟩
  refine SQ (RT 1 ?_)
  refine AWP.seq ?_
  refine TO ⟨[U6, (I6 keep), U6, U6, .ptr 1 0, .ptr 2 0] ++ UU 11 ++ [.sl (fisc l) (List.length l) .any, (I6 (↑(List.length l) : Int)), (I6 (↑i : Int)), (B6 (decide ((↑i : Int) < (↑(List.length l) : Int))))] ++ UU 30, [⟨[.sl (fisc l) (List.length l) .any, (I6 room), (I6 arm), (B6 dead)], 4, .fresh⟩, ⟨[.sl [] 0 .nil, (I6 0), (I6 0), (B6 false)], 4, .fresh⟩, ⟨[.row 3 0 (i), (I6 room), (I6 (-1)), (B6 false)], 4, .fresh⟩, ⟨fisc (crL l keep i), 3, .grown⟩]⟩ ?_
  refine CN (decide ((↑i : Int) < (↑(List.length l) : Int))) (fun h1 => ?_) (fun h1 => ?_)
  · have h1' := of_decide_eq_true h1
    refine AWP.skip (AWP.seq (AWP.block (SQ ?_)))
    refine DerQ.pre 3 ((((0 ≤ (↑i : Int)) ∧ ((↑i : Int) < (↑(List.length l) : Int))) ∧ (Int.toNat (↑i : Int) * 3 + 3 ≤ List.length (fisc l))) ∧ 3 ≤ 3 ∧ True ∧ True) ⟨[U6, (I6 keep), U6, U6, .ptr 1 0, .ptr 2 0, U6, .ptr 4 0] ++ UU 9 ++ [.sl (fisc l) (List.length l) .any, (I6 (↑(List.length l) : Int)), (I6 (↑i : Int)), (B6 (decide ((↑i : Int) < (↑(List.length l) : Int)))), .dptr [List.getD (fisc l) (Int.toNat (↑i : Int) * 3 + 0) U6, List.getD (fisc l) (Int.toNat (↑i : Int) * 3 + 1) U6, List.getD (fisc l) (Int.toNat (↑i : Int) * 3 + 2) AVal.undef], .agg [List.getD (fisc l) (Int.toNat (↑i : Int) * 3 + 0) U6, List.getD (fisc l) (Int.toNat (↑i : Int) * 3 + 1) U6, List.getD (fisc l) (Int.toNat (↑i : Int) * 3 + 2) AVal.undef]] ++ UU 28, [⟨[.sl (fisc l) (List.length l) .any, (I6 room), (I6 arm), (B6 dead)], 4, .fresh⟩, ⟨[.sl [] 0 .nil, (I6 0), (I6 0), (B6 false)], 4, .fresh⟩, ⟨[.row 3 0 (i), (I6 room), (I6 (-1)), (B6 false)], 4, .fresh⟩, ⟨fisc (crL l keep i), 3, .grown⟩, ⟨[(S6 ({ data := #[] })), .sl [] 0 .nil, (I6 0)], 3, .fresh⟩]⟩ (by kernel_rfl) ⟨⟨⟨(by omega), (by omega)⟩, (by (simp [spliceA_length] <;> omega))⟩, (by omega), trivial, trivial⟩ ?_
    rw [Int.toNat_natCast (i)]
    rw [Nat.add_zero (i * 3)]
    rw [Go.Dk.fi_cells (l) (i) (by omega)]
    refine RI (3 ≤ 3 ∧ True) ⟨(by omega), trivial⟩ ?_
    refine AWP.seq (KL [20, 21, 22] ⟨[U6, (I6 keep), U6, U6, .ptr 1 0, .ptr 2 0, U6, .ptr 4 0] ++ UU 9 ++ [.sl (fisc l) (List.length l) .any, (I6 (↑(List.length l) : Int)), (I6 (↑i : Int))] ++ UU 31, [⟨[.sl (fisc l) (List.length l) .any, (I6 room), (I6 arm), (B6 dead)], 4, .fresh⟩, ⟨[.sl [] 0 .nil, (I6 0), (I6 0), (B6 false)], 4, .fresh⟩, ⟨[.row 3 0 (i), (I6 room), (I6 (-1)), (B6 false)], 4, .fresh⟩, ⟨fisc (crL l keep i), 3, .grown⟩, ⟨[(S6 ((List.getD l i fi0).nm)), .sl (u8s (List.getD l i fi0).d) (List.length (List.getD l i fi0).d) .any, (I6 ((List.getD l i fi0).sf))], 3, .fresh⟩]⟩ ?_)
    refine AWP.reg ?_
    refine DerQ.run (True ∧ 2 < 3 ∧ True ∧ True ∧ 1 < 3 ∧ True ∧ True ∧ 2 < 3 ∧ True ∧ True ∧ True ∧ True ∧ True ∧ True) ⟨[U6, (I6 keep), U6, U6, .ptr 1 0, .ptr 2 0, U6, .ptr 4 0, (I6 (IntKind.wrap IntKind.i64 ((List.getD l i fi0).sf + if (if IntKind.wrap IntKind.i64 ((↑(List.length (List.getD l i fi0).d) : Int) - (List.getD l i fi0).sf) < keep then IntKind.wrap IntKind.i64 ((↑(List.length (List.getD l i fi0).d) : Int) - (List.getD l i fi0).sf) else keep) > 0 then if IntKind.wrap IntKind.i64 ((↑(List.length (List.getD l i fi0).d) : Int) - (List.getD l i fi0).sf) < keep then IntKind.wrap IntKind.i64 ((↑(List.length (List.getD l i fi0).d) : Int) - (List.getD l i fi0).sf) else keep else 0)))] ++ UU 8 ++ [.sl (fisc l) (List.length l) .any, (I6 (↑(List.length l) : Int)), (I6 (↑i : Int)), U6, U6, U6, .ptr 4 2, (I6 ((List.getD l i fi0).sf)), (I6 keep), .ptr 4 1, .sl (u8s (List.getD l i fi0).d) (List.length (List.getD l i fi0).d) .any, (I6 (↑(List.length (List.getD l i fi0).d) : Int)), .ptr 4 2, (I6 ((List.getD l i fi0).sf)), (I6 (IntKind.wrap IntKind.i64 ((↑(List.length (List.getD l i fi0).d) : Int) - (List.getD l i fi0).sf))), (I6 (if IntKind.wrap IntKind.i64 ((↑(List.length (List.getD l i fi0).d) : Int) - (List.getD l i fi0).sf) < keep then IntKind.wrap IntKind.i64 ((↑(List.length (List.getD l i fi0).d) : Int) - (List.getD l i fi0).sf) else keep)), (I6 (if (if IntKind.wrap IntKind.i64 ((↑(List.length (List.getD l i fi0).d) : Int) - (List.getD l i fi0).sf) < keep then IntKind.wrap IntKind.i64 ((↑(List.length (List.getD l i fi0).d) : Int) - (List.getD l i fi0).sf) else keep) > 0 then if IntKind.wrap IntKind.i64 ((↑(List.length (List.getD l i fi0).d) : Int) - (List.getD l i fi0).sf) < keep then IntKind.wrap IntKind.i64 ((↑(List.length (List.getD l i fi0).d) : Int) - (List.getD l i fi0).sf) else keep else 0)), (I6 (IntKind.wrap IntKind.i64 ((List.getD l i fi0).sf + if (if IntKind.wrap IntKind.i64 ((↑(List.length (List.getD l i fi0).d) : Int) - (List.getD l i fi0).sf) < keep then IntKind.wrap IntKind.i64 ((↑(List.length (List.getD l i fi0).d) : Int) - (List.getD l i fi0).sf) else keep) > 0 then if IntKind.wrap IntKind.i64 ((↑(List.length (List.getD l i fi0).d) : Int) - (List.getD l i fi0).sf) < keep then IntKind.wrap IntKind.i64 ((↑(List.length (List.getD l i fi0).d) : Int) - (List.getD l i fi0).sf) else keep else 0)))] ++ UU 16, [⟨[.sl (fisc l) (List.length l) .any, (I6 room), (I6 arm), (B6 dead)], 4, .fresh⟩, ⟨[.sl [] 0 .nil, (I6 0), (I6 0), (B6 false)], 4, .fresh⟩, ⟨[.row 3 0 (i), (I6 room), (I6 (-1)), (B6 false)], 4, .fresh⟩, ⟨fisc (crL l keep i), 3, .grown⟩, ⟨[(S6 ((List.getD l i fi0).nm)), .sl (u8s (List.getD l i fi0).d) (List.length (List.getD l i fi0).d) .any, (I6 ((List.getD l i fi0).sf))], 3, .fresh⟩]⟩ (by kernel_rfl) ⟨trivial, (by omega), trivial, trivial, (by omega), trivial, trivial, (by omega), trivial, trivial, trivial, trivial, trivial, trivial⟩ ?_
    rw [IntWalk.i64_in ((↑(List.length (List.getD l i fi0).d) : Int) - (List.getD l i fi0).sf) (by omega)]
    rw [IntWalk.i64_in ((List.getD l i fi0).sf + if (if (↑(List.length (List.getD l i fi0).d) : Int) - (List.getD l i fi0).sf < keep then (↑(List.length (List.getD l i fi0).d) : Int) - (List.getD l i fi0).sf else keep) > 0 then if (↑(List.length (List.getD l i fi0).d) : Int) - (List.getD l i fi0).sf < keep then (↑(List.length (List.getD l i fi0).d) : Int) - (List.getD l i fi0).sf else keep else 0) (by omega)]
    rw [Go.Dk.crN_eq (keep) (List.getD l i fi0) ⟨(by omega), ⟨(by omega), (by omega)⟩⟩]
    refine KL (NN 23 12) ⟨[U6, (I6 keep), U6, U6, .ptr 1 0, .ptr 2 0, U6, .ptr 4 0, (I6 (↑(crN keep (List.getD l i fi0)) : Int))] ++ UU 8 ++ [.sl (fisc l) (List.length l) .any, (I6 (↑(List.length l) : Int)), (I6 (↑i : Int))] ++ UU 31, [⟨[.sl (fisc l) (List.length l) .any, (I6 room), (I6 arm), (B6 dead)], 4, .fresh⟩, ⟨[.sl [] 0 .nil, (I6 0), (I6 0), (B6 false)], 4, .fresh⟩, ⟨[.row 3 0 (i), (I6 room), (I6 (-1)), (B6 false)], 4, .fresh⟩, ⟨fisc (crL l keep i), 3, .grown⟩, ⟨[(S6 ((List.getD l i fi0).nm)), .sl (u8s (List.getD l i fi0).d) (List.length (List.getD l i fi0).d) .any, (I6 ((List.getD l i fi0).sf))], 3, .fresh⟩]⟩ ?_
    refine AWP.drawB mixed (fun o => if [].contains (o.dst.getD 0) then 1 else if [].contains (o.dst.getD 0) then 2 else if [47, 0, 36].contains (o.dst.getD 0) then 3 else 0) 0 5 (fun x => [⟨[.sl (fisc l) (List.length l) .any, (I6 room), (I6 arm), (B6 dead)], 4, .fresh⟩, ⟨[.sl [] 0 .nil, (I6 0), (I6 0), (B6 false)], 4, .fresh⟩, ⟨x 2, 4, .fresh⟩, ⟨x 3, 3, .grown⟩, ⟨[(S6 ((List.getD l i fi0).nm)), .sl (u8s (List.getD l i fi0).d) (List.length (List.getD l i fi0).d) .any, (I6 ((List.getD l i fi0).sf))], 3, .fresh⟩]) ⟨[U6, (I6 keep), U6, U6, .ptr 1 0, .ptr 2 0, U6, .ptr 4 0, (I6 (↑(crN keep (List.getD l i fi0)) : Int))] ++ UU 8 ++ [.sl (fisc l) (List.length l) .any, (I6 (↑(List.length l) : Int)), (I6 (↑i : Int))] ++ UU 31, [⟨[.sl (fisc l) (List.length l) .any, (I6 room), (I6 arm), (B6 dead)], 4, .fresh⟩, ⟨[.sl [] 0 .nil, (I6 0), (I6 0), (B6 false)], 4, .fresh⟩, ⟨[.row 3 0 (i), (I6 room), (I6 (-1)), (B6 false)], 4, .fresh⟩, ⟨fisc (crL l keep i), 3, .grown⟩, ⟨[(S6 ((List.getD l i fi0).nm)), .sl (u8s (List.getD l i fi0).d) (List.length (List.getD l i fi0).d) .any, (I6 ((List.getD l i fi0).sf))], 3, .fresh⟩]⟩ (by kernel_rfl) ⟨by kernel_rfl, by kernel_rfl⟩ (by kernel_rfl) ?_
    refine DerZ.quietI (True) (by intro x ext; kernel_rfl) (by kernel_rfl) trivial ?_
    refine DerZ.effI 5 ((0 : Nat) < (4 : Nat)) (by kernel_rfl) ⟨⟨by kernel_rfl, by kernel_rfl⟩, by kernel_rfl⟩ (by omega) ?_
    refine DerZ.pre 6 ((True) ∧ (((0 : Nat) < (3 : Nat)) ∧ ((True) ∧ (((1 : Nat) < (3 : Nat)) ∧ ((True) ∧ (((((0 : Int) ≤ (0 : Int)) ∧ ((0 ≤ (↑(crN keep (List.getD l i fi0)) : Int)) ∧ (((↑(crN keep (List.getD l i fi0)) : Int) ≤ (↑(List.length (List.getD l i fi0).d) : Int)) ∧ ((↑(List.length (List.getD l i fi0).d) : Int) ≤ (↑(List.length (List.getD l i fi0).d) : Int))))) ∧ (Int.toNat (↑(crN keep (List.getD l i fi0)) : Int) * 1 ≤ List.length (u8s (List.getD l i fi0).d))) ∧ (True))))))) [.ptr 4 0, (S6 ((List.getD l i fi0).nm)), .ptr 4 1, .sl (u8s (List.getD l i fi0).d) (List.length (List.getD l i fi0).d) .any, (I6 (↑(crN keep (List.getD l i fi0)) : Int)), .sl (List.take ((Int.toNat (↑(crN keep (List.getD l i fi0)) : Int) - 0) * 1) (List.drop 0 (u8s (List.getD l i fi0).d))) (Int.toNat (↑(crN keep (List.getD l i fi0)) : Int) - 0) .any] ⟨[U6, (I6 keep), U6, U6, .ptr 1 0, .ptr 2 0, U6, .ptr 4 0, (I6 (↑(crN keep (List.getD l i fi0)) : Int))] ++ UU 8 ++ [.sl (fisc l) (List.length l) .any, (I6 (↑(List.length l) : Int)), (I6 (↑i : Int))] ++ UU 15 ++ [.ptr 2 0, .row 3 0 (i), .ptr 4 0, (S6 ((List.getD l i fi0).nm)), .ptr 4 1, .sl (u8s (List.getD l i fi0).d) (List.length (List.getD l i fi0).d) .any, (I6 (↑(crN keep (List.getD l i fi0)) : Int)), .sl (List.take ((Int.toNat (↑(crN keep (List.getD l i fi0)) : Int) - 0) * 1) (List.drop 0 (u8s (List.getD l i fi0).d))) (Int.toNat (↑(crN keep (List.getD l i fi0)) : Int) - 0) .any] ++ UU 8, [⟨[.sl (fisc l) (List.length l) .any, (I6 room), (I6 arm), (B6 dead)], 4, .fresh⟩, ⟨[.sl [] 0 .nil, (I6 0), (I6 0), (B6 false)], 4, .fresh⟩, ⟨[.row 3 0 (i), (I6 room), (I6 (-1)), (B6 false)], 4, .fresh⟩, ⟨fisc (crL l keep i), 3, .grown⟩, ⟨[(S6 ((List.getD l i fi0).nm)), .sl (u8s (List.getD l i fi0).d) (List.length (List.getD l i fi0).d) .any, (I6 ((List.getD l i fi0).sf))], 3, .fresh⟩]⟩ (by intro x ext; kernel_rfl) (by kernel_rfl) ⟨trivial, ⟨(by omega), ⟨trivial, ⟨(by omega), ⟨trivial, ⟨⟨⟨(by omega), ⟨(by omega), ⟨(by omega), (by omega)⟩⟩⟩, (by (simp only [List.length_append, List.length_take, List.length_drop, u8s_length]; omega))⟩, trivial⟩⟩⟩⟩⟩⟩ ?_
    rw [Int.toNat_natCast (crN keep (List.getD l i fi0))]
    rw [Nat.mul_one (crN keep (List.getD l i fi0) - 0)]
    rw [Nat.sub_zero (crN keep (List.getD l i fi0))]
    rw [List.drop_zero]
    rw [Go.Abs.u8s_take (crN keep (List.getD l i fi0)) ((List.getD l i fi0).d)]
    refine DerZ.callDI ((fun i : Nat => bcloneN (List.getD l i fi0).d (crN keep (List.getD l i fi0))) i (by omega) (by omega)) ⟨by kernel_rfl, by kernel_rfl⟩ ?_
    refine DerZ.preI 3 ((True) ∧ ((True) ∧ ((True) ∧ (True)))) (by intro x ext; kernel_rfl) ⟨trivial, ⟨trivial, ⟨trivial, trivial⟩⟩⟩ ?_
    refine DerZ.eff 5 (((3 : Nat) = (3 : Nat)) ∧ (((3 : Nat) = (3 : Nat)) ∧ ((i * 3 = List.length (fisc (crL l keep i))) ∧ ((i + 1 ≤ 1073741824) ∧ ((dataAll (fisc (crL l keep i) ++ [AVal.sc (Value.string (List.getD l i fi0).nm), AVal.sl (u8s (List.take (crN keep (List.getD l i fi0)) (List.getD l i fi0).d)) (crN keep (List.getD l i fi0)) SlK.any, (I6 (↑(crN keep (List.getD l i fi0)) : Int))]) = true) ∧ (∀ (i_1 : Nat), i_1 < 3 → AVal.one (List.getD [AVal.sc (Value.string (List.getD l i fi0).nm), AVal.sl (u8s (List.take (crN keep (List.getD l i fi0)) (List.getD l i fi0).d)) (crN keep (List.getD l i fi0)) SlK.any, (I6 (↑(crN keep (List.getD l i fi0)) : Int))] i_1 AVal.undef) = true)))))) (.row 3 0 (i + 1)) [⟨[.sl (fisc l) (List.length l) .any, (I6 room), (I6 arm), (B6 dead)], 4, .fresh⟩, ⟨[.sl [] 0 .nil, (I6 0), (I6 0), (B6 false)], 4, .fresh⟩, ⟨[.row 3 0 (i), (I6 room), (I6 (-1)), (B6 false)], 4, .fresh⟩, ⟨fisc (crL l keep i) ++ [AVal.sc (Value.string (List.getD l i fi0).nm), AVal.sl (u8s (List.take (crN keep (List.getD l i fi0)) (List.getD l i fi0).d)) (crN keep (List.getD l i fi0)) SlK.any, (I6 (↑(crN keep (List.getD l i fi0)) : Int))], 3, .grown⟩, ⟨[(S6 ((List.getD l i fi0).nm)), .sl (u8s (List.getD l i fi0).d) (List.length (List.getD l i fi0).d) .any, (I6 ((List.getD l i fi0).sf))], 3, .fresh⟩] ⟨[U6, (I6 keep), U6, U6, .ptr 1 0, .ptr 2 0, U6, .ptr 4 0, (I6 (↑(crN keep (List.getD l i fi0)) : Int))] ++ UU 8 ++ [.sl (fisc l) (List.length l) .any, (I6 (↑(List.length l) : Int)), (I6 (↑i : Int))] ++ UU 15 ++ [.ptr 2 0, .row 3 0 (i), .ptr 4 0, (S6 ((List.getD l i fi0).nm)), .ptr 4 1, .sl (u8s (List.getD l i fi0).d) (List.length (List.getD l i fi0).d) .any, (I6 (↑(crN keep (List.getD l i fi0)) : Int)), .sl (u8s (List.take (crN keep (List.getD l i fi0)) (List.getD l i fi0).d)) (crN keep (List.getD l i fi0)) .any, .sl (u8s (List.take (crN keep (List.getD l i fi0)) (List.getD l i fi0).d)) (crN keep (List.getD l i fi0)) .any, (I6 (↑(crN keep (List.getD l i fi0)) : Int)), .agg [(S6 ((List.getD l i fi0).nm)), .sl (u8s (List.take (crN keep (List.getD l i fi0)) (List.getD l i fi0).d)) (crN keep (List.getD l i fi0)) .any, (I6 (↑(crN keep (List.getD l i fi0)) : Int))], .sl [(S6 ((List.getD l i fi0).nm)), .sl (u8s (List.take (crN keep (List.getD l i fi0)) (List.getD l i fi0).d)) (crN keep (List.getD l i fi0)) .any, (I6 (↑(crN keep (List.getD l i fi0)) : Int))] 1 .nn, .row 3 0 (i + 1), U6, U6, .undef], [⟨[.sl (fisc l) (List.length l) .any, (I6 room), (I6 arm), (B6 dead)], 4, .fresh⟩, ⟨[.sl [] 0 .nil, (I6 0), (I6 0), (B6 false)], 4, .fresh⟩, ⟨[.row 3 0 (i), (I6 room), (I6 (-1)), (B6 false)], 4, .fresh⟩, ⟨fisc (crL l keep i) ++ [AVal.sc (Value.string (List.getD l i fi0).nm), AVal.sl (u8s (List.take (crN keep (List.getD l i fi0)) (List.getD l i fi0).d)) (crN keep (List.getD l i fi0)) SlK.any, (I6 (↑(crN keep (List.getD l i fi0)) : Int))], 3, .grown⟩, ⟨[(S6 ((List.getD l i fi0).nm)), .sl (u8s (List.getD l i fi0).d) (List.length (List.getD l i fi0).d) .any, (I6 ((List.getD l i fi0).sf))], 3, .fresh⟩]⟩ (by kernel_rfl) ⟨⟨by kernel_rfl, by kernel_rfl⟩, by kernel_rfl, by kernel_rfl⟩ ⟨(by omega), ⟨(by omega), ⟨(by (rw [fisc_length, crL_len])), ⟨(by omega), ⟨(by (exact fi_dat2 _ _ _ _ _)), (by (exact fi_ones2 _ _ _ _))⟩⟩⟩⟩⟩ ?_
    rw [Go.Dk.fi_app2 (crL l keep i) ((List.getD l i fi0).nm) ((List.getD l i fi0).d) (crN keep (List.getD l i fi0)) ((↑(crN keep (List.getD l i fi0)) : Int)) (by omega)]
    refine DerZ.quiet (True) (.ptr 2 0) ⟨[U6, (I6 keep), U6, U6, .ptr 1 0, .ptr 2 0, U6, .ptr 4 0, (I6 (↑(crN keep (List.getD l i fi0)) : Int))] ++ UU 8 ++ [.sl (fisc l) (List.length l) .any, (I6 (↑(List.length l) : Int)), (I6 (↑i : Int))] ++ UU 15 ++ [.ptr 2 0, .row 3 0 (i), .ptr 4 0, (S6 ((List.getD l i fi0).nm)), .ptr 4 1, .sl (u8s (List.getD l i fi0).d) (List.length (List.getD l i fi0).d) .any, (I6 (↑(crN keep (List.getD l i fi0)) : Int)), .sl (u8s (List.take (crN keep (List.getD l i fi0)) (List.getD l i fi0).d)) (crN keep (List.getD l i fi0)) .any, .sl (u8s (List.take (crN keep (List.getD l i fi0)) (List.getD l i fi0).d)) (crN keep (List.getD l i fi0)) .any, (I6 (↑(crN keep (List.getD l i fi0)) : Int)), .agg [(S6 ((List.getD l i fi0).nm)), .sl (u8s (List.take (crN keep (List.getD l i fi0)) (List.getD l i fi0).d)) (crN keep (List.getD l i fi0)) .any, (I6 (↑(crN keep (List.getD l i fi0)) : Int))], .sl [(S6 ((List.getD l i fi0).nm)), .sl (u8s (List.take (crN keep (List.getD l i fi0)) (List.getD l i fi0).d)) (crN keep (List.getD l i fi0)) .any, (I6 (↑(crN keep (List.getD l i fi0)) : Int))] 1 .nn, .row 3 0 (i + 1), .ptr 2 0, U6, .undef], [⟨[.sl (fisc l) (List.length l) .any, (I6 room), (I6 arm), (B6 dead)], 4, .fresh⟩, ⟨[.sl [] 0 .nil, (I6 0), (I6 0), (B6 false)], 4, .fresh⟩, ⟨[.row 3 0 (i), (I6 room), (I6 (-1)), (B6 false)], 4, .fresh⟩, ⟨fisc (crL l keep i ++ [{ nm := (List.getD l i fi0).nm, d := List.take (crN keep (List.getD l i fi0)) (List.getD l i fi0).d, sf := (↑(crN keep (List.getD l i fi0)) : Int) }]), 3, .grown⟩, ⟨[(S6 ((List.getD l i fi0).nm)), .sl (u8s (List.getD l i fi0).d) (List.length (List.getD l i fi0).d) .any, (I6 ((List.getD l i fi0).sf))], 3, .fresh⟩]⟩ (by intro x ext; kernel_rfl) ⟨by kernel_rfl, by kernel_rfl⟩ trivial ?_
    refine DerZ.eff 5 ((1 : Nat) ≤ (4 : Nat)) (.tup []) [⟨[.sl (fisc l) (List.length l) .any, (I6 room), (I6 arm), (B6 dead)], 4, .fresh⟩, ⟨[.sl [] 0 .nil, (I6 0), (I6 0), (B6 false)], 4, .fresh⟩, ⟨[.row 3 0 (i + 1), (I6 room), (I6 (-1)), (B6 false)], 4, .fresh⟩, ⟨fisc (crL l keep i ++ [{ nm := (List.getD l i fi0).nm, d := List.take (crN keep (List.getD l i fi0)) (List.getD l i fi0).d, sf := (↑(crN keep (List.getD l i fi0)) : Int) }]), 3, .grown⟩, ⟨[(S6 ((List.getD l i fi0).nm)), .sl (u8s (List.getD l i fi0).d) (List.length (List.getD l i fi0).d) .any, (I6 ((List.getD l i fi0).sf))], 3, .fresh⟩] ⟨[U6, (I6 keep), U6, U6, .ptr 1 0, .ptr 2 0, U6, .ptr 4 0, (I6 (↑(crN keep (List.getD l i fi0)) : Int))] ++ UU 8 ++ [.sl (fisc l) (List.length l) .any, (I6 (↑(List.length l) : Int)), (I6 (↑i : Int))] ++ UU 15 ++ [.ptr 2 0, .row 3 0 (i), .ptr 4 0, (S6 ((List.getD l i fi0).nm)), .ptr 4 1, .sl (u8s (List.getD l i fi0).d) (List.length (List.getD l i fi0).d) .any, (I6 (↑(crN keep (List.getD l i fi0)) : Int)), .sl (u8s (List.take (crN keep (List.getD l i fi0)) (List.getD l i fi0).d)) (crN keep (List.getD l i fi0)) .any, .sl (u8s (List.take (crN keep (List.getD l i fi0)) (List.getD l i fi0).d)) (crN keep (List.getD l i fi0)) .any, (I6 (↑(crN keep (List.getD l i fi0)) : Int)), .agg [(S6 ((List.getD l i fi0).nm)), .sl (u8s (List.take (crN keep (List.getD l i fi0)) (List.getD l i fi0).d)) (crN keep (List.getD l i fi0)) .any, (I6 (↑(crN keep (List.getD l i fi0)) : Int))], .sl [(S6 ((List.getD l i fi0).nm)), .sl (u8s (List.take (crN keep (List.getD l i fi0)) (List.getD l i fi0).d)) (crN keep (List.getD l i fi0)) .any, (I6 (↑(crN keep (List.getD l i fi0)) : Int))] 1 .nn, .row 3 0 (i + 1), .ptr 2 0, U6, .undef], [⟨[.sl (fisc l) (List.length l) .any, (I6 room), (I6 arm), (B6 dead)], 4, .fresh⟩, ⟨[.sl [] 0 .nil, (I6 0), (I6 0), (B6 false)], 4, .fresh⟩, ⟨[.row 3 0 (i + 1), (I6 room), (I6 (-1)), (B6 false)], 4, .fresh⟩, ⟨fisc (crL l keep i ++ [{ nm := (List.getD l i fi0).nm, d := List.take (crN keep (List.getD l i fi0)) (List.getD l i fi0).d, sf := (↑(crN keep (List.getD l i fi0)) : Int) }]), 3, .grown⟩, ⟨[(S6 ((List.getD l i fi0).nm)), .sl (u8s (List.getD l i fi0).d) (List.length (List.getD l i fi0).d) .any, (I6 ((List.getD l i fi0).sf))], 3, .fresh⟩]⟩ (by kernel_rfl) ⟨⟨by kernel_rfl, by kernel_rfl⟩, by kernel_rfl, by kernel_rfl⟩ (by omega) ?_
    refine DerZ.nil ?_
    refine KL ([7, 8] ++ NN 35 14) ⟨[U6, (I6 keep), U6, U6, .ptr 1 0, .ptr 2 0] ++ UU 11 ++ [.sl (fisc l) (List.length l) .any, (I6 (↑(List.length l) : Int)), (I6 (↑i : Int))] ++ UU 31, [⟨[.sl (fisc l) (List.length l) .any, (I6 room), (I6 arm), (B6 dead)], 4, .fresh⟩, ⟨[.sl [] 0 .nil, (I6 0), (I6 0), (B6 false)], 4, .fresh⟩, ⟨[.row 3 0 (i + 1), (I6 room), (I6 (-1)), (B6 false)], 4, .fresh⟩, ⟨fisc (crL l keep i ++ [{ nm := (List.getD l i fi0).nm, d := List.take (crN keep (List.getD l i fi0)) (List.getD l i fi0).d, sf := (↑(crN keep (List.getD l i fi0)) : Int) }]), 3, .grown⟩, ⟨[(S6 ((List.getD l i fi0).nm)), .sl (u8s (List.getD l i fi0).d) (List.length (List.getD l i fi0).d) .any, (I6 ((List.getD l i fi0).sf))], 3, .fresh⟩]⟩ ?_
    refine AWP.reg ?_
    refine DerQ.run (TT 2) ⟨[U6, (I6 keep), U6, U6, .ptr 1 0, .ptr 2 0] ++ UU 11 ++ [.sl (fisc l) (List.length l) .any, (I6 (↑(List.length l) : Int)), (I6 (IntKind.wrap IntKind.i64 ((↑i : Int) + 1)))] ++ UU 29 ++ [(I6 (IntKind.wrap IntKind.i64 ((↑i : Int) + 1))), .undef], [⟨[.sl (fisc l) (List.length l) .any, (I6 room), (I6 arm), (B6 dead)], 4, .fresh⟩, ⟨[.sl [] 0 .nil, (I6 0), (I6 0), (B6 false)], 4, .fresh⟩, ⟨[.row 3 0 (i + 1), (I6 room), (I6 (-1)), (B6 false)], 4, .fresh⟩, ⟨fisc (crL l keep i ++ [{ nm := (List.getD l i fi0).nm, d := List.take (crN keep (List.getD l i fi0)) (List.getD l i fi0).d, sf := (↑(crN keep (List.getD l i fi0)) : Int) }]), 3, .grown⟩, ⟨[(S6 ((List.getD l i fi0).nm)), .sl (u8s (List.getD l i fi0).d) (List.length (List.getD l i fi0).d) .any, (I6 ((List.getD l i fi0).sf))], 3, .fresh⟩]⟩ (by kernel_rfl) (tt 2) ?_
    rw [IntWalk.i64_in ((↑i : Int) + 1) (by omega)]
    (exact ⟨_, by omega, _, Weak.cutW (rows2 := [⟨[.sl (fisc l) l.length .any, .sc (.int .i64 room), .sc (.int .i64 arm), .sc (.bool dead)], 4, .fresh⟩, ⟨[.sl [] 0 .nil, .sc (.int .i64 0), .sc (.int .i64 0), .sc (.bool false)], 4, .fresh⟩, ⟨[.row 3 0 (i + 1), .sc (.int .i64 room), .sc (.int .i64 (-1)), .sc (.bool false)], 4, .fresh⟩, ⟨fisc (crL l keep (i + 1)), 3, .grown⟩]) 4 (by kernel_rfl) (by simp) (by kernel_rfl) (WfRows.of (by intro r hr; simp at hr; rcases hr with rfl | rfl | rfl | rfl <;> simp [ltAll, AVal.refLt, ltAll_of_data])), i + 1, rfl, by omega, rfl⟩; done)
  · have h1' := of_decide_eq_false h1
    refine AWP.exit ?_
    refine AWP.seq (KL [1, 17, 18, 19, 20] ⟨[U6, U6, U6, U6, .ptr 1 0, .ptr 2 0] ++ UU 45, [⟨[.sl (fisc l) (List.length l) .any, (I6 room), (I6 arm), (B6 dead)], 4, .fresh⟩, ⟨[.sl [] 0 .nil, (I6 0), (I6 0), (B6 false)], 4, .fresh⟩, ⟨[.row 3 0 (i), (I6 room), (I6 (-1)), (B6 false)], 4, .fresh⟩, ⟨fisc (crL l keep i), 3, .grown⟩]⟩ ?_)
    refine AWP.reg (RI (4 ≤ 4 ∧ 4 ≤ 4 ∧ True) ⟨(by omega), (by omega), trivial⟩ ?_)
    refine AWP.ret ?_
    refine FI (.agg [.row 3 0 (i), (I6 room), (I6 (-1)), (B6 false)]) ?_
    refine Shrink.dataK [3] ((dataAll (fisc (crL l keep i)) = true) ∧ (True)) (.agg [.sl (List.take (i * 3) (List.drop 0 (fisc (crL l keep i)))) (i) .any, (I6 room), (I6 (-1)), (B6 false)]) (by kernel_rfl) ⟨(by simp), trivial⟩ ?_ rfl
    (((obtain rfl : i = l.length := by omega); rw [fi_all (crL l keep l.length) l.length (by rw [crL_len])]; rfl); done)
end Go.Dk
