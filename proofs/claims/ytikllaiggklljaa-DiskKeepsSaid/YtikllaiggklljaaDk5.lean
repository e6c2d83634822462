/- Walks and laws. -/
import Derived.Test.YtikllaiggklljaaDk4
import Derived.Test.YtikllaiggklljaaLibC
set_option maxRecDepth 100000
set_option maxHeartbeats 0
set_option linter.unusedSimpArgs false
set_option linter.unusedVariables false
namespace Go.Dk
open Go Go.Abs Go.Proofs
theorem okD_used {room arm : Int} {l : List FileD} (h : okD room arm l) : usedL l ≤ room := by
  rcases Nat.eq_zero_or_pos l.length with h0 | h0
  · rw [List.eq_nil_of_length_eq_zero h0]; exact h.1
  · have h1 := (h.2.2.2.2 (l.length - 1) (by omega)).2.2.2.1
    rw [leftL_eq _ _ _ (by omega)] at h1
    have h2 := usedL_succ l (l.length - 1) (by omega)
    rw [show l.length - 1 + 1 = l.length by omega, List.take_length] at h2
    omega
theorem askE_ok {room arm : Int} {dead : Bool} {l : List FileD} {s : ByteArray} : askE room arm dead l s = 0 ↔ okD room arm l ∧ dead = false ∧ namedP s := by
  unfold askE
  by_cases h1 : okD room arm l <;> by_cases h2 : dead = true <;> by_cases h3 : namedP s <;> simp [h1, h2, h3]
theorem put_ask (l : List FileD) (room arm : Int) (dead : Bool) (hx : l.length ≤ 1000000) (s : ByteArray) (d : List Int) (hd : d.length ≤ 1000000) (e : Int) (h0 : e ≠ 0) (he : askE room arm dead l s = e) : EvD Try.prog 42 [.agg [.sl (fisc l) l.length .any, .sc (.int .i64 room), .sc (.int .i64 arm), .sc (.bool dead)], .sc (.string s), .sl (u8s d) d.length .any] (.tup [.agg [.sl (fisc l) l.length .any, .sc (.int .i64 room), .sc (.int .i64 arm), .sc (.bool dead)], .sc (.int .i64 e)]) := by
  have a1 : EvD Try.prog 67 [.agg [.sl (fisc l) l.length .any, .sc (.int .i64 room), .sc (.int .i64 arm), .sc (.bool dead)], .sc (.string s)] (.sc (.int .i64 e)) := by have := asked l room arm dead hx s; rwa [he] at this
  refine EvD.body Try.func42 rfl (by simp [dataAll, AVal.data]) (by simp [dataAll, AVal.data]) ?_
  refine AWP.seq ?_
  refine TO ⟨[.agg [.sl (fisc l) (List.length l) .any, (I6 room), (I6 arm), (B6 dead)], (S6 s), .sl (u8s d) (List.length d) .any] ++ UU 33, []⟩ ?_
  refine AWP.reg (RT 5 ?_)
  refine AWP.seq (AWP.seq (KL [0, 1, 2] ⟨[U6, U6, U6, .ptr 0 0, .ptr 1 0, .ptr 2 0, .ptr 3 0, (I6 0)] ++ UU 28, [⟨[.sl (fisc l) (List.length l) .any, (I6 room), (I6 arm), (B6 dead)], 4, .fresh⟩, ⟨[(S6 s)], 1, .fresh⟩, ⟨[.sl (u8s d) (List.length d) .any], 1, .fresh⟩, ⟨[.sl [] 0 .nil, (I6 0), (I6 0), (B6 false)], 4, .fresh⟩]⟩ ?_))
  refine AWP.reg (PI 2 (4 ≤ 4 ∧ 0 < 1 ∧ True) ⟨(by omega), (by omega), trivial⟩ ?_)
  refine CD (a1) ?_
  refine RT 1 ?_
  refine AWP.seq (KL [11, 12, 13] ⟨[U6, U6, U6, .ptr 0 0, .ptr 1 0, .ptr 2 0, .ptr 3 0, (I6 0), (I6 e)] ++ UU 27, [⟨[.sl (fisc l) (List.length l) .any, (I6 room), (I6 arm), (B6 dead)], 4, .fresh⟩, ⟨[(S6 s)], 1, .fresh⟩, ⟨[.sl (u8s d) (List.length d) .any], 1, .fresh⟩, ⟨[.sl [] 0 .nil, (I6 0), (I6 0), (B6 false)], 4, .fresh⟩]⟩ ?_)
  refine AWP.reg (RT 2 ?_)
  refine KL [14] ⟨[U6, U6, U6, .ptr 0 0, .ptr 1 0, .ptr 2 0, .ptr 3 0, (I6 0), (I6 e)] ++ UU 6 ++ [(B6 (e != 0))] ++ UU 20, [⟨[.sl (fisc l) (List.length l) .any, (I6 room), (I6 arm), (B6 dead)], 4, .fresh⟩, ⟨[(S6 s)], 1, .fresh⟩, ⟨[.sl (u8s d) (List.length d) .any], 1, .fresh⟩, ⟨[.sl [] 0 .nil, (I6 0), (I6 0), (B6 false)], 4, .fresh⟩]⟩ ?_
  refine CN (e != 0) (fun h1 => ?_) (fun h1 => ?_)
  · have h1' := bne_iff_ne.1 h1
    refine SQ (RI (4 ≤ 4 ∧ True ∧ 4 ≤ 4 ∧ True ∧ True) ⟨(by omega), trivial, (by omega), trivial, trivial⟩ ?_)
    refine AWP.ret FA
  · have h1' := bne_eq_false_iff_eq.1 h1
    exfalso; omega
theorem put_full (l : List FileD) (room arm : Int) (dead : Bool) (hx : l.length ≤ 1000000) (s : ByteArray) (d : List Int) (hd : d.length ≤ 1000000) (ho : okD room arm l) (he : askE room arm dead l s = 0) (hp : ¬ roomP room l s (d.length : Int)) : EvD Try.prog 42 [.agg [.sl (fisc l) l.length .any, .sc (.int .i64 room), .sc (.int .i64 arm), .sc (.bool dead)], .sc (.string s), .sl (u8s d) d.length .any] (.tup [.agg [.sl (fisc l) l.length .any, .sc (.int .i64 room), .sc (.int .i64 arm), .sc (.bool dead)], .sc (.int .i64 4)]) := by
  have a1 : EvD Try.prog 67 [.agg [.sl (fisc l) l.length .any, .sc (.int .i64 room), .sc (.int .i64 arm), .sc (.bool dead)], .sc (.string s)] (.sc (.int .i64 0)) := by have := asked l room arm dead hx s; rwa [he] at this
  have r1 : EvK Try.prog 68 [.ptr 0 0, .sc (.string s), .sc (.int .i64 (d.length : Int))] ⟨[.sl (fisc l) l.length .any, .sc (.int .i64 room), .sc (.int .i64 arm), .sc (.bool dead)], 4, .fresh⟩ (.sc (.bool false)) ⟨[.sl (fisc l) l.length .any, .sc (.int .i64 room), .sc (.int .i64 arm), .sc (.bool dead)], 4, .fresh⟩ := by
    have := room_ l room arm dead (okD_srt ho) (by have := ho.2.2.2.1; omega) (by have := okD_used ho; have := ho.2.1; omega) ⟨ho.1, ho.2.1⟩ s (d.length : Int) (by omega)
    rwa [decide_eq_false hp] at this
  refine EvD.body Try.func42 rfl (by simp [dataAll, AVal.data]) (by simp [dataAll, AVal.data]) ?_
  refine AWP.seq ?_
  refine TO ⟨[.agg [.sl (fisc l) (List.length l) .any, (I6 room), (I6 arm), (B6 dead)], (S6 s), .sl (u8s d) (List.length d) .any] ++ UU 33, []⟩ ?_
  refine AWP.reg (RT 5 ?_)
  refine AWP.seq (AWP.seq (KL [0, 1, 2] ⟨[U6, U6, U6, .ptr 0 0, .ptr 1 0, .ptr 2 0, .ptr 3 0, (I6 0)] ++ UU 28, [⟨[.sl (fisc l) (List.length l) .any, (I6 room), (I6 arm), (B6 dead)], 4, .fresh⟩, ⟨[(S6 s)], 1, .fresh⟩, ⟨[.sl (u8s d) (List.length d) .any], 1, .fresh⟩, ⟨[.sl [] 0 .nil, (I6 0), (I6 0), (B6 false)], 4, .fresh⟩]⟩ ?_))
  refine AWP.reg (PI 2 (4 ≤ 4 ∧ 0 < 1 ∧ True) ⟨(by omega), (by omega), trivial⟩ ?_)
  refine CD (a1) ?_
  refine RT 1 ?_
  refine AWP.seq (KL [11, 12, 13] ⟨[U6, U6, U6, .ptr 0 0, .ptr 1 0, .ptr 2 0, .ptr 3 0, (I6 0), (I6 0)] ++ UU 27, [⟨[.sl (fisc l) (List.length l) .any, (I6 room), (I6 arm), (B6 dead)], 4, .fresh⟩, ⟨[(S6 s)], 1, .fresh⟩, ⟨[.sl (u8s d) (List.length d) .any], 1, .fresh⟩, ⟨[.sl [] 0 .nil, (I6 0), (I6 0), (B6 false)], 4, .fresh⟩]⟩ ?_)
  refine AWP.reg (RT 2 ?_)
  refine KL [14] ⟨[U6, U6, U6, .ptr 0 0, .ptr 1 0, .ptr 2 0, .ptr 3 0, (I6 0), (I6 0)] ++ UU 6 ++ [(B6 false)] ++ UU 20, [⟨[.sl (fisc l) (List.length l) .any, (I6 room), (I6 arm), (B6 dead)], 4, .fresh⟩, ⟨[(S6 s)], 1, .fresh⟩, ⟨[.sl (u8s d) (List.length d) .any], 1, .fresh⟩, ⟨[.sl [] 0 .nil, (I6 0), (I6 0), (B6 false)], 4, .fresh⟩]⟩ ?_
  refine CN false (fun h => nomatch h) (fun _ => ?_)
  refine AWP.skip (SQ (RI (4 ≤ 4 ∧ True ∧ True ∧ True ∧ 1 ≤ 1 ∧ True) ⟨(by omega), trivial, trivial, trivial, (by omega), trivial⟩ ?_))
  refine AWP.seq (AWP.seq (KL [8, 15, 18, 19, 20] ⟨[U6, U6, U6, .ptr 0 0, .ptr 1 0, .ptr 2 0, .ptr 3 0, (I6 0), U6, .ptr 5 0] ++ UU 26, [⟨[.sl (fisc l) (List.length l) .any, (I6 room), (I6 arm), (B6 dead)], 4, .fresh⟩, ⟨[(S6 s)], 1, .fresh⟩, ⟨[.sl (u8s d) (List.length d) .any], 1, .fresh⟩, ⟨[.sl [] 0 .nil, (I6 0), (I6 0), (B6 false)], 4, .fresh⟩, ⟨[.sl (fisc l) (List.length l) .any, (I6 room), (I6 arm), (B6 dead)], 4, .fresh⟩, ⟨[.ptr 4 0], 1, .fresh⟩]⟩ ?_))
  refine AWP.reg (PI 4 (0 < 1 ∧ 0 < 1 ∧ 0 < 1 ∧ True ∧ True) ⟨(by omega), (by omega), (by omega), trivial, trivial⟩ ?_)
  refine DerQ.callK (r1) 4 [.ptr 4 0, (S6 s), (I6 (↑(List.length d) : Int))] ⟨[U6, U6, U6, .ptr 0 0, .ptr 1 0, .ptr 2 0, .ptr 3 0, (I6 0), U6, .ptr 5 0] ++ UU 11 ++ [.ptr 4 0, (S6 s), .sl (u8s d) (List.length d) .any, (I6 (↑(List.length d) : Int)), (B6 false)] ++ UU 10, [⟨[.sl (fisc l) (List.length l) .any, (I6 room), (I6 arm), (B6 dead)], 4, .fresh⟩, ⟨[(S6 s)], 1, .fresh⟩, ⟨[.sl (u8s d) (List.length d) .any], 1, .fresh⟩, ⟨[.sl [] 0 .nil, (I6 0), (I6 0), (B6 false)], 4, .fresh⟩, ⟨[.sl (fisc l) (List.length l) .any, (I6 room), (I6 arm), (B6 dead)], 4, .fresh⟩, ⟨[.ptr 4 0], 1, .fresh⟩]⟩ ⟨by kernel_rfl, by kernel_rfl, by kernel_rfl, by kernel_rfl, by kernel_rfl⟩ ?_
  refine RT 1 ?_
  refine KL (NN 21 5) ⟨[U6, U6, U6, .ptr 0 0, .ptr 1 0, .ptr 2 0, .ptr 3 0, (I6 0), U6, .ptr 5 0] ++ UU 16 ++ [(B6 true)] ++ UU 9, [⟨[.sl (fisc l) (List.length l) .any, (I6 room), (I6 arm), (B6 dead)], 4, .fresh⟩, ⟨[(S6 s)], 1, .fresh⟩, ⟨[.sl (u8s d) (List.length d) .any], 1, .fresh⟩, ⟨[.sl [] 0 .nil, (I6 0), (I6 0), (B6 false)], 4, .fresh⟩, ⟨[.sl (fisc l) (List.length l) .any, (I6 room), (I6 arm), (B6 dead)], 4, .fresh⟩, ⟨[.ptr 4 0], 1, .fresh⟩]⟩ ?_
  refine CN true (fun _ => ?_) (fun h => nomatch h)
  refine SQ (RI (4 ≤ 4 ∧ 4 ≤ 4 ∧ True ∧ True) ⟨(by omega), (by omega), trivial, trivial⟩ ?_)
  refine AWP.ret FA
theorem put_out (l : List FileD) (room : Int) (hx : l.length ≤ 1000000) (s : ByteArray) (d : List Int) (hd : d.length ≤ 1000000) (ho : okD room 0 l) (he : askE room 0 false l s = 0) (hp : roomP room l s (d.length : Int)) : EvD Try.prog 42 [.agg [.sl (fisc l) l.length .any, .sc (.int .i64 room), .sc (.int .i64 0), .sc (.bool false)], .sc (.string s), .sl (u8s d) d.length .any] (.tup [.agg [.sl (fisc l) l.length .any, .sc (.int .i64 room), .sc (.int .i64 0), .sc (.bool true)], .sc (.int .i64 220)]) := by
  have a1 : EvD Try.prog 67 [.agg [.sl (fisc l) l.length .any, .sc (.int .i64 room), .sc (.int .i64 0), .sc (.bool false)], .sc (.string s)] (.sc (.int .i64 0)) := by have := asked l room 0 false hx s; rwa [he] at this
  have r1 : EvK Try.prog 68 [.ptr 0 0, .sc (.string s), .sc (.int .i64 (d.length : Int))] ⟨[.sl (fisc l) l.length .any, .sc (.int .i64 room), .sc (.int .i64 0), .sc (.bool false)], 4, .fresh⟩ (.sc (.bool true)) ⟨[.sl (fisc l) l.length .any, .sc (.int .i64 room), .sc (.int .i64 0), .sc (.bool false)], 4, .fresh⟩ := by
    have := room_ l room 0 false (okD_srt ho) (by have := ho.2.2.2.1; omega) (by have := okD_used ho; have := ho.2.1; omega) ⟨ho.1, ho.2.1⟩ s (d.length : Int) (by omega)
    rwa [decide_eq_true hp] at this
  refine EvD.body Try.func42 rfl (by simp [dataAll, AVal.data]) (by simp [dataAll, AVal.data]) ?_
  refine AWP.seq ?_
  refine TO ⟨[.agg [.sl (fisc l) (List.length l) .any, (I6 room), (I6 0), (B6 false)], (S6 s), .sl (u8s d) (List.length d) .any] ++ UU 33, []⟩ ?_
  refine AWP.reg (RT 5 ?_)
  refine AWP.seq (AWP.seq (KL [0, 1, 2] ⟨[U6, U6, U6, .ptr 0 0, .ptr 1 0, .ptr 2 0, .ptr 3 0, (I6 0)] ++ UU 28, [⟨[.sl (fisc l) (List.length l) .any, (I6 room), (I6 0), (B6 false)], 4, .fresh⟩, ⟨[(S6 s)], 1, .fresh⟩, ⟨[.sl (u8s d) (List.length d) .any], 1, .fresh⟩, ⟨[.sl [] 0 .nil, (I6 0), (I6 0), (B6 false)], 4, .fresh⟩]⟩ ?_))
  refine AWP.reg (PI 2 (4 ≤ 4 ∧ 0 < 1 ∧ True) ⟨(by omega), (by omega), trivial⟩ ?_)
  refine CD (a1) ?_
  refine RT 1 ?_
  refine AWP.seq (KL [11, 12, 13] ⟨[U6, U6, U6, .ptr 0 0, .ptr 1 0, .ptr 2 0, .ptr 3 0, (I6 0), (I6 0)] ++ UU 27, [⟨[.sl (fisc l) (List.length l) .any, (I6 room), (I6 0), (B6 false)], 4, .fresh⟩, ⟨[(S6 s)], 1, .fresh⟩, ⟨[.sl (u8s d) (List.length d) .any], 1, .fresh⟩, ⟨[.sl [] 0 .nil, (I6 0), (I6 0), (B6 false)], 4, .fresh⟩]⟩ ?_)
  refine AWP.reg (RT 2 ?_)
  refine KL [14] ⟨[U6, U6, U6, .ptr 0 0, .ptr 1 0, .ptr 2 0, .ptr 3 0, (I6 0), (I6 0)] ++ UU 6 ++ [(B6 false)] ++ UU 20, [⟨[.sl (fisc l) (List.length l) .any, (I6 room), (I6 0), (B6 false)], 4, .fresh⟩, ⟨[(S6 s)], 1, .fresh⟩, ⟨[.sl (u8s d) (List.length d) .any], 1, .fresh⟩, ⟨[.sl [] 0 .nil, (I6 0), (I6 0), (B6 false)], 4, .fresh⟩]⟩ ?_
  refine CN false (fun h => nomatch h) (fun _ => ?_)
  refine AWP.skip (SQ (RI (4 ≤ 4 ∧ True ∧ True ∧ True ∧ 1 ≤ 1 ∧ True) ⟨(by omega), trivial, trivial, trivial, (by omega), trivial⟩ ?_))
  refine AWP.seq (AWP.seq (KL [8, 15, 18, 19, 20] ⟨[U6, U6, U6, .ptr 0 0, .ptr 1 0, .ptr 2 0, .ptr 3 0, (I6 0), U6, .ptr 5 0] ++ UU 26, [⟨[.sl (fisc l) (List.length l) .any, (I6 room), (I6 0), (B6 false)], 4, .fresh⟩, ⟨[(S6 s)], 1, .fresh⟩, ⟨[.sl (u8s d) (List.length d) .any], 1, .fresh⟩, ⟨[.sl [] 0 .nil, (I6 0), (I6 0), (B6 false)], 4, .fresh⟩, ⟨[.sl (fisc l) (List.length l) .any, (I6 room), (I6 0), (B6 false)], 4, .fresh⟩, ⟨[.ptr 4 0], 1, .fresh⟩]⟩ ?_))
  refine AWP.reg (PI 4 (0 < 1 ∧ 0 < 1 ∧ 0 < 1 ∧ True ∧ True) ⟨(by omega), (by omega), (by omega), trivial, trivial⟩ ?_)
  refine DerQ.callK (r1) 4 [.ptr 4 0, (S6 s), (I6 (↑(List.length d) : Int))] ⟨[U6, U6, U6, .ptr 0 0, .ptr 1 0, .ptr 2 0, .ptr 3 0, (I6 0), U6, .ptr 5 0] ++ UU 11 ++ [.ptr 4 0, (S6 s), .sl (u8s d) (List.length d) .any, (I6 (↑(List.length d) : Int)), (B6 true)] ++ UU 10, [⟨[.sl (fisc l) (List.length l) .any, (I6 room), (I6 0), (B6 false)], 4, .fresh⟩, ⟨[(S6 s)], 1, .fresh⟩, ⟨[.sl (u8s d) (List.length d) .any], 1, .fresh⟩, ⟨[.sl [] 0 .nil, (I6 0), (I6 0), (B6 false)], 4, .fresh⟩, ⟨[.sl (fisc l) (List.length l) .any, (I6 room), (I6 0), (B6 false)], 4, .fresh⟩, ⟨[.ptr 4 0], 1, .fresh⟩]⟩ ⟨by kernel_rfl, by kernel_rfl, by kernel_rfl, by kernel_rfl, by kernel_rfl⟩ ?_
  refine RT 1 ?_
  refine KL (NN 21 5) ⟨[U6, U6, U6, .ptr 0 0, .ptr 1 0, .ptr 2 0, .ptr 3 0, (I6 0), U6, .ptr 5 0] ++ UU 16 ++ [(B6 false)] ++ UU 9, [⟨[.sl (fisc l) (List.length l) .any, (I6 room), (I6 0), (B6 false)], 4, .fresh⟩, ⟨[(S6 s)], 1, .fresh⟩, ⟨[.sl (u8s d) (List.length d) .any], 1, .fresh⟩, ⟨[.sl [] 0 .nil, (I6 0), (I6 0), (B6 false)], 4, .fresh⟩, ⟨[.sl (fisc l) (List.length l) .any, (I6 room), (I6 0), (B6 false)], 4, .fresh⟩, ⟨[.ptr 4 0], 1, .fresh⟩]⟩ ?_
  refine CN false (fun h => nomatch h) (fun _ => ?_)
  refine AWP.skip (SQ (PI 2 (0 < 1 ∧ True ∧ True) ⟨(by omega), trivial, trivial⟩ ?_))
  refine DerQ.callM (out_put l room false s d) [.ptr 4 0, .fn 70 [.ptr 5 0, .ptr 1 0, .ptr 2 0]] ⟨[U6, U6, U6, .ptr 0 0, .ptr 1 0, .ptr 2 0, .ptr 3 0, (I6 0), U6, .ptr 5 0] ++ UU 16 ++ [(B6 false), U6, .ptr 4 0, .fn 70 [.ptr 5 0, .ptr 1 0, .ptr 2 0], (I6 220)] ++ UU 5, [⟨[.sl (fisc l) (List.length l) .any, (I6 room), (I6 0), (B6 false)], 4, .fresh⟩, ⟨[(S6 s)], 1, .fresh⟩, ⟨[.sl (u8s d) (List.length d) .any], 1, .fresh⟩, ⟨[.sl [] 0 .nil, (I6 0), (I6 0), (B6 false)], 4, .fresh⟩, ⟨[.sl (fisc l) (List.length l) .any, (I6 room), (I6 0), (B6 true)], 4, .fresh⟩, ⟨[.ptr 4 0], 1, .fresh⟩]⟩ ⟨by kernel_rfl, by kernel_rfl, by kernel_rfl, by kernel_rfl, by kernel_rfl⟩ ?_
  refine RT 1 ?_
  refine AWP.seq (KL [3, 4, 5, 26, 28, 29, 30] ⟨[.undef] ++ UU 5 ++ [.ptr 3 0, (I6 0), U6, .ptr 5 0, (I6 220)] ++ UU 25, [⟨[.sl (fisc l) (List.length l) .any, (I6 room), (I6 0), (B6 false)], 4, .fresh⟩, ⟨[(S6 s)], 1, .fresh⟩, ⟨[.sl (u8s d) (List.length d) .any], 1, .fresh⟩, ⟨[.sl [] 0 .nil, (I6 0), (I6 0), (B6 false)], 4, .fresh⟩, ⟨[.sl (fisc l) (List.length l) .any, (I6 room), (I6 0), (B6 true)], 4, .fresh⟩, ⟨[.ptr 4 0], 1, .fresh⟩]⟩ ?_)
  refine AWP.reg (RI (0 < 1 ∧ True ∧ True ∧ 4 ≤ 4 ∧ True ∧ 4 ≤ 4 ∧ True ∧ True) ⟨(by omega), trivial, trivial, (by omega), trivial, (by omega), trivial, trivial⟩ ?_)
  refine AWP.ret FA
theorem put_ok (l : List FileD) (room arm : Int) (dead : Bool) (hx : l.length ≤ 1000000) (s : ByteArray) (d : List Int) (hd : d.length ≤ 1000000) (ho : okD room arm l) (he : askE room arm dead l s = 0) (hp : roomP room l s (d.length : Int)) (ha : arm ≤ 9223372036854775807) (h0 : arm ≠ 0) : EvD Try.prog 42 [.agg [.sl (fisc l) l.length .any, .sc (.int .i64 room), .sc (.int .i64 arm), .sc (.bool dead)], .sc (.string s), .sl (u8s d) d.length .any] (.tup [.agg [.sl (fisc (putL l ⟨s, d, (d.length : Int)⟩)) (putL l ⟨s, d, (d.length : Int)⟩).length .any, .sc (.int .i64 room), .sc (.int .i64 (armN arm)), .sc (.bool dead)], .sc (.int .i64 0)]) := by
  have a1 : EvD Try.prog 67 [.agg [.sl (fisc l) l.length .any, .sc (.int .i64 room), .sc (.int .i64 arm), .sc (.bool dead)], .sc (.string s)] (.sc (.int .i64 0)) := by have := asked l room arm dead hx s; rwa [he] at this
  have r1 : EvK Try.prog 68 [.ptr 0 0, .sc (.string s), .sc (.int .i64 (d.length : Int))] ⟨[.sl (fisc l) l.length .any, .sc (.int .i64 room), .sc (.int .i64 arm), .sc (.bool dead)], 4, .fresh⟩ (.sc (.bool true)) ⟨[.sl (fisc l) l.length .any, .sc (.int .i64 room), .sc (.int .i64 arm), .sc (.bool dead)], 4, .fresh⟩ := by
    have := room_ l room arm dead (okD_srt ho) (by have := ho.2.2.2.1; omega) (by have := okD_used ho; have := ho.2.1; omega) ⟨ho.1, ho.2.1⟩ s (d.length : Int) (by omega)
    rwa [decide_eq_true hp] at this
  have m1 := done_put l room arm dead (okD_srt ho) (by have := ho.2.2.2.1; omega) ⟨ho.2.2.1, ha⟩ h0 s d hd
  refine EvD.body Try.func42 rfl (by simp [dataAll, AVal.data]) (by simp [dataAll, AVal.data]) ?_
  refine AWP.seq ?_
  refine TO ⟨[.agg [.sl (fisc l) (List.length l) .any, (I6 room), (I6 arm), (B6 dead)], (S6 s), .sl (u8s d) (List.length d) .any] ++ UU 33, []⟩ ?_
  refine AWP.reg (RT 5 ?_)
  refine AWP.seq (AWP.seq (KL [0, 1, 2] ⟨[U6, U6, U6, .ptr 0 0, .ptr 1 0, .ptr 2 0, .ptr 3 0, (I6 0)] ++ UU 28, [⟨[.sl (fisc l) (List.length l) .any, (I6 room), (I6 arm), (B6 dead)], 4, .fresh⟩, ⟨[(S6 s)], 1, .fresh⟩, ⟨[.sl (u8s d) (List.length d) .any], 1, .fresh⟩, ⟨[.sl [] 0 .nil, (I6 0), (I6 0), (B6 false)], 4, .fresh⟩]⟩ ?_))
  refine AWP.reg (PI 2 (4 ≤ 4 ∧ 0 < 1 ∧ True) ⟨(by omega), (by omega), trivial⟩ ?_)
  refine CD (a1) ?_
  refine RT 1 ?_
  refine AWP.seq (KL [11, 12, 13] ⟨[U6, U6, U6, .ptr 0 0, .ptr 1 0, .ptr 2 0, .ptr 3 0, (I6 0), (I6 0)] ++ UU 27, [⟨[.sl (fisc l) (List.length l) .any, (I6 room), (I6 arm), (B6 dead)], 4, .fresh⟩, ⟨[(S6 s)], 1, .fresh⟩, ⟨[.sl (u8s d) (List.length d) .any], 1, .fresh⟩, ⟨[.sl [] 0 .nil, (I6 0), (I6 0), (B6 false)], 4, .fresh⟩]⟩ ?_)
  refine AWP.reg (RT 2 ?_)
  refine KL [14] ⟨[U6, U6, U6, .ptr 0 0, .ptr 1 0, .ptr 2 0, .ptr 3 0, (I6 0), (I6 0)] ++ UU 6 ++ [(B6 false)] ++ UU 20, [⟨[.sl (fisc l) (List.length l) .any, (I6 room), (I6 arm), (B6 dead)], 4, .fresh⟩, ⟨[(S6 s)], 1, .fresh⟩, ⟨[.sl (u8s d) (List.length d) .any], 1, .fresh⟩, ⟨[.sl [] 0 .nil, (I6 0), (I6 0), (B6 false)], 4, .fresh⟩]⟩ ?_
  refine CN false (fun h => nomatch h) (fun _ => ?_)
  refine AWP.skip (SQ (RI (4 ≤ 4 ∧ True ∧ True ∧ True ∧ 1 ≤ 1 ∧ True) ⟨(by omega), trivial, trivial, trivial, (by omega), trivial⟩ ?_))
  refine AWP.seq (AWP.seq (KL [8, 15, 18, 19, 20] ⟨[U6, U6, U6, .ptr 0 0, .ptr 1 0, .ptr 2 0, .ptr 3 0, (I6 0), U6, .ptr 5 0] ++ UU 26, [⟨[.sl (fisc l) (List.length l) .any, (I6 room), (I6 arm), (B6 dead)], 4, .fresh⟩, ⟨[(S6 s)], 1, .fresh⟩, ⟨[.sl (u8s d) (List.length d) .any], 1, .fresh⟩, ⟨[.sl [] 0 .nil, (I6 0), (I6 0), (B6 false)], 4, .fresh⟩, ⟨[.sl (fisc l) (List.length l) .any, (I6 room), (I6 arm), (B6 dead)], 4, .fresh⟩, ⟨[.ptr 4 0], 1, .fresh⟩]⟩ ?_))
  refine AWP.reg (PI 4 (0 < 1 ∧ 0 < 1 ∧ 0 < 1 ∧ True ∧ True) ⟨(by omega), (by omega), (by omega), trivial, trivial⟩ ?_)
  refine DerQ.callK (r1) 4 [.ptr 4 0, (S6 s), (I6 (↑(List.length d) : Int))] ⟨[U6, U6, U6, .ptr 0 0, .ptr 1 0, .ptr 2 0, .ptr 3 0, (I6 0), U6, .ptr 5 0] ++ UU 11 ++ [.ptr 4 0, (S6 s), .sl (u8s d) (List.length d) .any, (I6 (↑(List.length d) : Int)), (B6 true)] ++ UU 10, [⟨[.sl (fisc l) (List.length l) .any, (I6 room), (I6 arm), (B6 dead)], 4, .fresh⟩, ⟨[(S6 s)], 1, .fresh⟩, ⟨[.sl (u8s d) (List.length d) .any], 1, .fresh⟩, ⟨[.sl [] 0 .nil, (I6 0), (I6 0), (B6 false)], 4, .fresh⟩, ⟨[.sl (fisc l) (List.length l) .any, (I6 room), (I6 arm), (B6 dead)], 4, .fresh⟩, ⟨[.ptr 4 0], 1, .fresh⟩]⟩ ⟨by kernel_rfl, by kernel_rfl, by kernel_rfl, by kernel_rfl, by kernel_rfl⟩ ?_
  refine RT 1 ?_
  refine KL (NN 21 5) ⟨[U6, U6, U6, .ptr 0 0, .ptr 1 0, .ptr 2 0, .ptr 3 0, (I6 0), U6, .ptr 5 0] ++ UU 16 ++ [(B6 false)] ++ UU 9, [⟨[.sl (fisc l) (List.length l) .any, (I6 room), (I6 arm), (B6 dead)], 4, .fresh⟩, ⟨[(S6 s)], 1, .fresh⟩, ⟨[.sl (u8s d) (List.length d) .any], 1, .fresh⟩, ⟨[.sl [] 0 .nil, (I6 0), (I6 0), (B6 false)], 4, .fresh⟩, ⟨[.sl (fisc l) (List.length l) .any, (I6 room), (I6 arm), (B6 dead)], 4, .fresh⟩, ⟨[.ptr 4 0], 1, .fresh⟩]⟩ ?_
  refine CN false (fun h => nomatch h) (fun _ => ?_)
  refine AWP.skip (SQ (PI 2 (0 < 1 ∧ True ∧ True) ⟨(by omega), trivial, trivial⟩ ?_))
  refine DerQ.callM (m1) [.ptr 4 0, .fn 70 [.ptr 5 0, .ptr 1 0, .ptr 2 0]] ⟨[U6, U6, U6, .ptr 0 0, .ptr 1 0, .ptr 2 0, .ptr 3 0, (I6 0), U6, .ptr 5 0] ++ UU 16 ++ [(B6 false), U6, .ptr 4 0, .fn 70 [.ptr 5 0, .ptr 1 0, .ptr 2 0], (I6 0)] ++ UU 5, [⟨[.sl (fisc l) (List.length l) .any, (I6 room), (I6 arm), (B6 dead)], 4, .fresh⟩, ⟨[(S6 s)], 1, .fresh⟩, ⟨[.sl (u8s d) (List.length d) .any], 1, .fresh⟩, ⟨[.sl [] 0 .nil, (I6 0), (I6 0), (B6 false)], 4, .fresh⟩, ⟨[.sl (fisc (putL l { nm := s, d := d, sf := (↑(List.length d) : Int) })) (List.length (putL l { nm := s, d := d, sf := (↑(List.length d) : Int) })) .any, (I6 room), (I6 (armN arm)), (B6 dead)], 4, .fresh⟩, ⟨[.ptr 4 0], 1, .fresh⟩]⟩ ⟨by kernel_rfl, by kernel_rfl, by kernel_rfl, by kernel_rfl, by kernel_rfl⟩ ?_
  refine RT 1 ?_
  refine AWP.seq (KL [3, 4, 5, 26, 28, 29, 30] ⟨[.undef] ++ UU 5 ++ [.ptr 3 0, (I6 0), U6, .ptr 5 0, (I6 0)] ++ UU 25, [⟨[.sl (fisc l) (List.length l) .any, (I6 room), (I6 arm), (B6 dead)], 4, .fresh⟩, ⟨[(S6 s)], 1, .fresh⟩, ⟨[.sl (u8s d) (List.length d) .any], 1, .fresh⟩, ⟨[.sl [] 0 .nil, (I6 0), (I6 0), (B6 false)], 4, .fresh⟩, ⟨[.sl (fisc (putL l { nm := s, d := d, sf := (↑(List.length d) : Int) })) (List.length (putL l { nm := s, d := d, sf := (↑(List.length d) : Int) })) .any, (I6 room), (I6 (armN arm)), (B6 dead)], 4, .fresh⟩, ⟨[.ptr 4 0], 1, .fresh⟩]⟩ ?_)
  refine AWP.reg (RI (0 < 1 ∧ True ∧ True ∧ 4 ≤ 4 ∧ True ∧ 4 ≤ 4 ∧ True ∧ True) ⟨(by omega), trivial, trivial, (by omega), trivial, (by omega), trivial, trivial⟩ ?_)
  refine AWP.ret FA
end Go.Dk
