/- Walks and laws. -/
import Derived.Test.YtikllaiggklljaaDk3
import Derived.Test.YtikllaiggklljaaLibC
set_option maxRecDepth 100000
set_option maxHeartbeats 0
set_option linter.unusedSimpArgs false
set_option linter.unusedVariables false
namespace Go.Dk
open Go Go.Abs Go.Proofs
theorem putL_len (l : List FileD) (f : FileD) : (putL l f).length = if has l f.nm then l.length else l.length + 1 := by
  unfold putL
  by_cases h : has l f.nm
  · rw [if_pos h, if_pos h, List.length_set]
  · rw [if_neg h, if_neg h, insD, List.length_append, List.length_cons, List.length_take, List.length_drop]
    have := low_le l f.nm; omega
theorem set_ (l : List FileD) (room arm : Int) (dead : Bool) (hs : Srt l) (hx : l.length ≤ 100) (f : FileD) : EvK Try.prog 71 [.ptr 0 0, .agg (fic f)] ⟨[.sl (fisc l) l.length .any, .sc (.int .i64 room), .sc (.int .i64 arm), .sc (.bool dead)], 4, .fresh⟩ (.tup []) ⟨[.sl (fisc (putL l f)) (putL l f).length .any, .sc (.int .i64 room), .sc (.int .i64 arm), .sc (.bool dead)], 4, .fresh⟩ := by
  by_cases h : has l f.nm
  · exact set_has l room arm dead hs hx f h
  · have h3 : (putL l f).length = l.length + 1 := by rw [putL_len, if_neg h]
    rw [h3]; exact set_new l room arm dead hs hx f h
def askE (room arm : Int) (dead : Bool) (l : List FileD) (s : ByteArray) : Int := if ¬ okD room arm l then 3 else if dead = true then 220 else if ¬ namedP s then 2 else 0
theorem asked (l : List FileD) (room arm : Int) (dead : Bool) (hx : l.length ≤ 1000000) (s : ByteArray) : EvD Try.prog 67 [.agg [.sl (fisc l) l.length .any, .sc (.int .i64 room), .sc (.int .i64 arm), .sc (.bool dead)], .sc (.string s)] (.sc (.int .i64 (askE room arm dead l s))) := by
  unfold askE
  refine EvD.body Try.func67 rfl (by simp [dataAll, AVal.data, *]) (by simp [dataAll, AVal.data, *]) ?_
  refine AWP.seq ?_
  refine TO ⟨[.agg [.sl (fisc l) (List.length l) .any, (I6 room), (I6 arm), (B6 dead)], (S6 s)] ++ UU 14, []⟩ ?_
  refine AWP.reg (RT 2 ?_)
  refine AWP.seq (AWP.block (AWP.seq (KL [0] ⟨[U6, (S6 s), .ptr 0 0, U6, (I6 0)] ++ UU 11, [⟨[.sl (fisc l) (List.length l) .any, (I6 room), (I6 arm), (B6 dead)], 4, .fresh⟩]⟩ ?_)))
  refine AWP.reg (PI 1 (4 ≤ 4 ∧ True) ⟨(by omega), trivial⟩ ?_)
  refine CD (check l room arm dead (by omega)) ?_
  refine RT 2 ?_
  refine KL [6, 7, 8] ⟨[U6, (S6 s), .ptr 0 0, U6, (I6 0), (B6 (!decide (okD room arm l)))] ++ UU 10, [⟨[.sl (fisc l) (List.length l) .any, (I6 room), (I6 arm), (B6 dead)], 4, .fresh⟩]⟩ ?_
  refine CN (!decide (okD room arm l)) (fun h1 => ?_) (fun h1 => ?_)
  · have h1' := h1
    simp only [Bool.and_eq_true, Bool.and_eq_false_iff, Bool.or_eq_true, Bool.or_eq_false_iff, Bool.not_eq_true', Bool.not_eq_false', beq_iff_eq, beq_eq_false_iff_ne, decide_eq_true_eq, decide_eq_false_iff_not, ne_eq] at h1'
    refine SQ (RT 1 ?_)
    refine AWP.ret ?_
    refine FI (I6 3) ?_
    refine Shrink.all ?_ rfl
    (simp_all; done)
  · have h1' := h1
    simp only [Bool.and_eq_true, Bool.and_eq_false_iff, Bool.or_eq_true, Bool.or_eq_false_iff, Bool.not_eq_true', Bool.not_eq_false', beq_iff_eq, beq_eq_false_iff_ne, decide_eq_true_eq, decide_eq_false_iff_not, ne_eq] at h1'
    refine SQ (RI (True ∧ 3 < 4 ∧ True ∧ True) ⟨trivial, (by omega), trivial, trivial⟩ ?_)
    refine KL [2, 5, 10, 11] ⟨[U6, (S6 s), U6, U6, (I6 0), U6, U6, U6, U6, (B6 dead)] ++ UU 6, [⟨[.sl (fisc l) (List.length l) .any, (I6 room), (I6 arm), (B6 dead)], 4, .fresh⟩]⟩ ?_
    refine CN (dead) (fun h2 => ?_) (fun h2 => ?_)
    · refine SQ (RT 1 ?_)
      refine AWP.ret ?_
      refine FI (I6 220) ?_
      refine Shrink.all ?_ rfl
      (simp_all; done)
    · refine SQ (PT 1 1 ?_)
      refine CD (named s) ?_
      refine RT 2 ?_
      refine KL [1, 9, 13, 14, 15] ⟨[U6, U6, U6, U6, (I6 0)] ++ UU 7 ++ [(B6 (!decide (namedP s))), U6, U6, .undef], [⟨[.sl (fisc l) (List.length l) .any, (I6 room), (I6 arm), (B6 dead)], 4, .fresh⟩]⟩ ?_
      refine CN (!decide (namedP s)) (fun h3 => ?_) (fun h3 => ?_)
      · have h3' := h3
        simp only [Bool.and_eq_true, Bool.and_eq_false_iff, Bool.or_eq_true, Bool.or_eq_false_iff, Bool.not_eq_true', Bool.not_eq_false', beq_iff_eq, beq_eq_false_iff_ne, decide_eq_true_eq, decide_eq_false_iff_not, ne_eq] at h3'
        refine SQ (RT 1 ?_)
        refine AWP.ret ?_
        refine FI (I6 2) ?_
        refine Shrink.all ?_ rfl
        (simp_all; done)
      · have h3' := h3
        simp only [Bool.and_eq_true, Bool.and_eq_false_iff, Bool.or_eq_true, Bool.or_eq_false_iff, Bool.not_eq_true', Bool.not_eq_false', beq_iff_eq, beq_eq_false_iff_ne, decide_eq_true_eq, decide_eq_false_iff_not, ne_eq] at h3'
        refine AWP.skip (SQ (RT 1 ?_))
        refine AWP.ret ?_
        refine FI (I6 0) ?_
        refine Shrink.all ?_ rfl
        (simp_all; done)
def armN (arm : Int) : Int := if -1 > arm - 1 then -1 else arm - 1
theorem put1 (l : List FileD) (room arm : Int) (dead : Bool) (arm0 : Int) (hs : Srt l) (hx : l.length ≤ 100) (s : ByteArray) (d : List Int) (hd : d.length ≤ 1000000) : EvF Try.prog 70 [.ptr 5 0, .ptr 1 0, .ptr 2 0] [⟨[.sl (fisc l) l.length .any, .sc (.int .i64 room), .sc (.int .i64 arm0), .sc (.bool dead)], 4, .fresh⟩, ⟨[.sc (.string s)], 1, .fresh⟩, ⟨[.sl (u8s d) d.length .any], 1, .fresh⟩, ⟨[.sl [] 0 .nil, .sc (.int .i64 0), .sc (.int .i64 0), .sc (.bool false)], 4, .fresh⟩, ⟨[.sl (fisc l) l.length .any, .sc (.int .i64 room), .sc (.int .i64 arm), .sc (.bool dead)], 4, .fresh⟩, ⟨[.ptr 4 0], 1, .fresh⟩] (.tup []) [⟨[.sl (fisc l) l.length .any, .sc (.int .i64 room), .sc (.int .i64 arm0), .sc (.bool dead)], 4, .fresh⟩, ⟨[.sc (.string s)], 1, .fresh⟩, ⟨[.sl (u8s d) d.length .any], 1, .fresh⟩, ⟨[.sl [] 0 .nil, .sc (.int .i64 0), .sc (.int .i64 0), .sc (.bool false)], 4, .fresh⟩, ⟨[.sl (fisc (putL l ⟨s, d, (d.length : Int)⟩)) (putL l ⟨s, d, (d.length : Int)⟩).length .any, .sc (.int .i64 room), .sc (.int .i64 arm), .sc (.bool dead)], 4, .fresh⟩, ⟨[.ptr 4 0], 1, .fresh⟩] := by
  refine EvF.body Try.func70 rfl (fun _ => ?_)
  refine TO ⟨[.ptr 5 0, .ptr 1 0, .ptr 2 0] ++ UU 8, [⟨[.sl (fisc l) (List.length l) .any, (I6 room), (I6 arm0), (B6 dead)], 4, .fresh⟩, ⟨[(S6 s)], 1, .fresh⟩, ⟨[.sl (u8s d) (List.length d) .any], 1, .fresh⟩, ⟨[.sl [] 0 .nil, (I6 0), (I6 0), (B6 false)], 4, .fresh⟩, ⟨[.sl (fisc l) (List.length l) .any, (I6 room), (I6 arm), (B6 dead)], 4, .fresh⟩, ⟨[.ptr 4 0], 1, .fresh⟩]⟩ ?_
  refine AWP.drawT mixed (fun o => kindOf [(10, 3)] (keyW o)) 0 (fun x => [⟨[.sl (fisc l) (List.length l) .any, (I6 room), (I6 arm0), (B6 dead)], 4, .fresh⟩, ⟨[(S6 s)], 1, .fresh⟩, ⟨[.sl (u8s d) (List.length d) .any], 1, .fresh⟩, ⟨[.sl [] 0 .nil, (I6 0), (I6 0), (B6 false)], 4, .fresh⟩, x 4, ⟨[.ptr 4 0], 1, .fresh⟩]) ⟨[.ptr 5 0, .ptr 1 0, .ptr 2 0] ++ UU 8, [⟨[.sl (fisc l) (List.length l) .any, (I6 room), (I6 arm0), (B6 dead)], 4, .fresh⟩, ⟨[(S6 s)], 1, .fresh⟩, ⟨[.sl (u8s d) (List.length d) .any], 1, .fresh⟩, ⟨[.sl [] 0 .nil, (I6 0), (I6 0), (B6 false)], 4, .fresh⟩, ⟨[.sl (fisc l) (List.length l) .any, (I6 room), (I6 arm), (B6 dead)], 4, .fresh⟩, ⟨[.ptr 4 0], 1, .fresh⟩]⟩ (by kernel_rfl) (by kernel_rfl) (by kernel_rfl) ?_
  refine DerU.preI 3 (((0 : Nat) < (1 : Nat)) ∧ (((0 : Nat) < (1 : Nat)) ∧ (((0 : Nat) < (1 : Nat)) ∧ (True)))) (by intro x ext; kernel_rfl) ⟨(by omega), ⟨(by omega), ⟨(by omega), trivial⟩⟩⟩ ?_
  refine DerU.callDI (bclone d (by omega)) ⟨by kernel_rfl, by kernel_rfl⟩ ?_
  refine DerU.preI 3 (((0 : Nat) < (1 : Nat)) ∧ ((True) ∧ ((True) ∧ (True)))) (by intro x ext; kernel_rfl) ⟨(by omega), ⟨trivial, ⟨trivial, trivial⟩⟩⟩ ?_
  refine DerU.callK (set_ l room arm dead hs hx ⟨s, d, (d.length : Int)⟩) 6 4 [.ptr 4 0, .agg [(S6 s), .sl (u8s d) (List.length d) .any, (I6 (↑(List.length d) : Int))]] ⟨[.ptr 5 0, .ptr 1 0, .ptr 2 0, .ptr 4 0, (S6 s), .sl (u8s d) (List.length d) .any, .sl (u8s d) (List.length d) .any, .sl (u8s d) (List.length d) .any, (I6 (↑(List.length d) : Int)), .agg [(S6 s), .sl (u8s d) (List.length d) .any, (I6 (↑(List.length d) : Int))], .tup []], [⟨[.sl (fisc l) (List.length l) .any, (I6 room), (I6 arm0), (B6 dead)], 4, .fresh⟩, ⟨[(S6 s)], 1, .fresh⟩, ⟨[.sl (u8s d) (List.length d) .any], 1, .fresh⟩, ⟨[.sl [] 0 .nil, (I6 0), (I6 0), (B6 false)], 4, .fresh⟩, ⟨[.sl (fisc (putL l { nm := s, d := d, sf := (↑(List.length d) : Int) })) (List.length (putL l { nm := s, d := d, sf := (↑(List.length d) : Int) })) .any, (I6 room), (I6 arm), (B6 dead)], 4, .fresh⟩, ⟨[.ptr 4 0], 1, .fresh⟩]⟩ ⟨⟨by kernel_rfl, by kernel_rfl⟩, by kernel_rfl, by kernel_rfl, by kernel_rfl, by kernel_rfl, by kernel_rfl⟩ ?_
  refine DerU.nil ?_
  refine FI (.tup []) ?_
  exact Shrink.refl _ _ _
theorem done_put (l : List FileD) (room arm : Int) (dead : Bool) (hs : Srt l) (hx : l.length ≤ 100) (ha : -1 ≤ arm ∧ arm ≤ 9223372036854775807) (h0 : arm ≠ 0) (s : ByteArray) (d : List Int) (hd : d.length ≤ 1000000) : EvF Try.prog 69 [.ptr 4 0, .fn 70 [.ptr 5 0, .ptr 1 0, .ptr 2 0]] [⟨[.sl (fisc l) l.length .any, .sc (.int .i64 room), .sc (.int .i64 arm), .sc (.bool dead)], 4, .fresh⟩, ⟨[.sc (.string s)], 1, .fresh⟩, ⟨[.sl (u8s d) d.length .any], 1, .fresh⟩, ⟨[.sl [] 0 .nil, .sc (.int .i64 0), .sc (.int .i64 0), .sc (.bool false)], 4, .fresh⟩, ⟨[.sl (fisc l) l.length .any, .sc (.int .i64 room), .sc (.int .i64 arm), .sc (.bool dead)], 4, .fresh⟩, ⟨[.ptr 4 0], 1, .fresh⟩] (.sc (.int .i64 0)) [⟨[.sl (fisc l) l.length .any, .sc (.int .i64 room), .sc (.int .i64 arm), .sc (.bool dead)], 4, .fresh⟩, ⟨[.sc (.string s)], 1, .fresh⟩, ⟨[.sl (u8s d) d.length .any], 1, .fresh⟩, ⟨[.sl [] 0 .nil, .sc (.int .i64 0), .sc (.int .i64 0), .sc (.bool false)], 4, .fresh⟩, ⟨[.sl (fisc (putL l ⟨s, d, (d.length : Int)⟩)) (putL l ⟨s, d, (d.length : Int)⟩).length .any, .sc (.int .i64 room), .sc (.int .i64 (armN arm)), .sc (.bool dead)], 4, .fresh⟩, ⟨[.ptr 4 0], 1, .fresh⟩] := by
  unfold armN
  refine EvF.body Try.func69 rfl (fun _ => ?_)
  refine AWP.seq ?_
  refine TO ⟨[.ptr 4 0, .fn 70 [.ptr 5 0, .ptr 1 0, .ptr 2 0]] ++ UU 26, [⟨[.sl (fisc l) (List.length l) .any, (I6 room), (I6 arm), (B6 dead)], 4, .fresh⟩, ⟨[(S6 s)], 1, .fresh⟩, ⟨[.sl (u8s d) (List.length d) .any], 1, .fresh⟩, ⟨[.sl [] 0 .nil, (I6 0), (I6 0), (B6 false)], 4, .fresh⟩, ⟨[.sl (fisc l) (List.length l) .any, (I6 room), (I6 arm), (B6 dead)], 4, .fresh⟩, ⟨[.ptr 4 0], 1, .fresh⟩]⟩ ?_
  refine AWP.reg (RT 1 ?_)
  refine AWP.seq (AWP.seq ?_)
  refine TO ⟨[.ptr 4 0, .fn 70 [.ptr 5 0, .ptr 1 0, .ptr 2 0], U6, U6, (I6 0)] ++ UU 23, [⟨[.sl (fisc l) (List.length l) .any, (I6 room), (I6 arm), (B6 dead)], 4, .fresh⟩, ⟨[(S6 s)], 1, .fresh⟩, ⟨[.sl (u8s d) (List.length d) .any], 1, .fresh⟩, ⟨[.sl [] 0 .nil, (I6 0), (I6 0), (B6 false)], 4, .fresh⟩, ⟨[.sl (fisc l) (List.length l) .any, (I6 room), (I6 arm), (B6 dead)], 4, .fresh⟩, ⟨[.ptr 4 0], 1, .fresh⟩]⟩ ?_
  refine AWP.reg (RI (True ∧ True ∧ True ∧ True ∧ 2 < 4 ∧ True ∧ True) ⟨trivial, trivial, trivial, trivial, (by omega), trivial, trivial⟩ ?_)
  refine KL (NN 5 5) ⟨[.ptr 4 0, .fn 70 [.ptr 5 0, .ptr 1 0, .ptr 2 0], U6, U6, (I6 0)] ++ UU 5 ++ [(B6 (arm == 0))] ++ UU 17, [⟨[.sl (fisc l) (List.length l) .any, (I6 room), (I6 arm), (B6 dead)], 4, .fresh⟩, ⟨[(S6 s)], 1, .fresh⟩, ⟨[.sl (u8s d) (List.length d) .any], 1, .fresh⟩, ⟨[.sl [] 0 .nil, (I6 0), (I6 0), (B6 false)], 4, .fresh⟩, ⟨[.sl (fisc l) (List.length l) .any, (I6 room), (I6 arm), (B6 dead)], 4, .fresh⟩, ⟨[.ptr 4 0], 1, .fresh⟩]⟩ ?_
  refine CN (arm == 0) (fun h1 => ?_) (fun h1 => ?_)
  · have h1' := eq_of_beq h1
    exfalso; omega
  · have h1' := ne_of_beq_false h1
    refine AWP.skip (SQ ?_)
    refine DerQ.run (True ∧ True ∧ True ∧ True ∧ True ∧ 2 < 4 ∧ True ∧ True ∧ True ∧ True ∧ True ∧ 3 ≤ 4 ∧ True) ⟨[.ptr 4 0, .fn 70 [.ptr 5 0, .ptr 1 0, .ptr 2 0], U6, U6, (I6 0)] ++ UU 5 ++ [(B6 (arm == 0)), U6, U6, U6, U6, .ptr 4 0, .ptr 4 0, .ptr 4 0, .ptr 4 0, .ptr 4 2, (I6 arm), (I6 (IntKind.wrap IntKind.i64 (arm - 1))), (I6 (if -1 > IntKind.wrap IntKind.i64 (arm - 1) then -1 else IntKind.wrap IntKind.i64 (arm - 1))), .ptr 4 0, .ptr 4 0, .ptr 4 2, U6, .undef], [⟨[.sl (fisc l) (List.length l) .any, (I6 room), (I6 arm), (B6 dead)], 4, .fresh⟩, ⟨[(S6 s)], 1, .fresh⟩, ⟨[.sl (u8s d) (List.length d) .any], 1, .fresh⟩, ⟨[.sl [] 0 .nil, (I6 0), (I6 0), (B6 false)], 4, .fresh⟩, ⟨[.sl (fisc l) (List.length l) .any, (I6 room), (I6 (if -1 > IntKind.wrap IntKind.i64 (arm - 1) then -1 else IntKind.wrap IntKind.i64 (arm - 1))), (B6 dead)], 4, .fresh⟩, ⟨[.ptr 4 0], 1, .fresh⟩]⟩ (by kernel_rfl) ⟨trivial, trivial, trivial, trivial, trivial, (by omega), trivial, trivial, trivial, trivial, trivial, (by omega), trivial⟩ ?_
    rw [IntWalk.i64_in (arm - 1) (by omega)]
    refine AWP.seq (KL ([0, 10] ++ NN 15 11) ⟨[U6, .fn 70 [.ptr 5 0, .ptr 1 0, .ptr 2 0], U6, U6, (I6 0)] ++ UU 23, [⟨[.sl (fisc l) (List.length l) .any, (I6 room), (I6 arm), (B6 dead)], 4, .fresh⟩, ⟨[(S6 s)], 1, .fresh⟩, ⟨[.sl (u8s d) (List.length d) .any], 1, .fresh⟩, ⟨[.sl [] 0 .nil, (I6 0), (I6 0), (B6 false)], 4, .fresh⟩, ⟨[.sl (fisc l) (List.length l) .any, (I6 room), (I6 (if -1 > arm - 1 then -1 else arm - 1)), (B6 dead)], 4, .fresh⟩, ⟨[.ptr 4 0], 1, .fresh⟩]⟩ ?_)
    refine AWP.reg (PT 1 1 ?_)
    refine DerQ.callM (put1 l room (if -1 > arm - 1 then -1 else arm - 1) dead arm hs hx s d hd) [.ptr 5 0, .ptr 1 0, .ptr 2 0] ⟨[U6, .fn 70 [.ptr 5 0, .ptr 1 0, .ptr 2 0], U6, U6, (I6 0)] ++ UU 21 ++ [.fn 70 [.ptr 5 0, .ptr 1 0, .ptr 2 0], .tup []], [⟨[.sl (fisc l) (List.length l) .any, (I6 room), (I6 arm), (B6 dead)], 4, .fresh⟩, ⟨[(S6 s)], 1, .fresh⟩, ⟨[.sl (u8s d) (List.length d) .any], 1, .fresh⟩, ⟨[.sl [] 0 .nil, (I6 0), (I6 0), (B6 false)], 4, .fresh⟩, ⟨[.sl (fisc (putL l { nm := s, d := d, sf := (↑(List.length d) : Int) })) (List.length (putL l { nm := s, d := d, sf := (↑(List.length d) : Int) })) .any, (I6 room), (I6 (if -1 > arm - 1 then -1 else arm - 1)), (B6 dead)], 4, .fresh⟩, ⟨[.ptr 4 0], 1, .fresh⟩]⟩ ⟨by kernel_rfl, by kernel_rfl, by kernel_rfl, by kernel_rfl, by kernel_rfl⟩ ?_
    refine DerQ.nil ?_
    refine SQ (RT 1 ?_)
    refine AWP.ret ?_
    refine FI (I6 0) ?_
    exact Shrink.refl _ _ _
theorem out_put (l : List FileD) (room : Int) (dead : Bool) (s : ByteArray) (d : List Int) : EvF Try.prog 69 [.ptr 4 0, .fn 70 [.ptr 5 0, .ptr 1 0, .ptr 2 0]] [⟨[.sl (fisc l) l.length .any, .sc (.int .i64 room), .sc (.int .i64 0), .sc (.bool dead)], 4, .fresh⟩, ⟨[.sc (.string s)], 1, .fresh⟩, ⟨[.sl (u8s d) d.length .any], 1, .fresh⟩, ⟨[.sl [] 0 .nil, .sc (.int .i64 0), .sc (.int .i64 0), .sc (.bool false)], 4, .fresh⟩, ⟨[.sl (fisc l) l.length .any, .sc (.int .i64 room), .sc (.int .i64 0), .sc (.bool dead)], 4, .fresh⟩, ⟨[.ptr 4 0], 1, .fresh⟩] (.sc (.int .i64 220)) [⟨[.sl (fisc l) l.length .any, .sc (.int .i64 room), .sc (.int .i64 0), .sc (.bool dead)], 4, .fresh⟩, ⟨[.sc (.string s)], 1, .fresh⟩, ⟨[.sl (u8s d) d.length .any], 1, .fresh⟩, ⟨[.sl [] 0 .nil, .sc (.int .i64 0), .sc (.int .i64 0), .sc (.bool false)], 4, .fresh⟩, ⟨[.sl (fisc l) l.length .any, .sc (.int .i64 room), .sc (.int .i64 0), .sc (.bool true)], 4, .fresh⟩, ⟨[.ptr 4 0], 1, .fresh⟩] := by
  refine EvF.body Try.func69 rfl (fun _ => ?_)
  refine AWP.seq ?_
  refine TO ⟨[.ptr 4 0, .fn 70 [.ptr 5 0, .ptr 1 0, .ptr 2 0]] ++ UU 26, [⟨[.sl (fisc l) (List.length l) .any, (I6 room), (I6 0), (B6 dead)], 4, .fresh⟩, ⟨[(S6 s)], 1, .fresh⟩, ⟨[.sl (u8s d) (List.length d) .any], 1, .fresh⟩, ⟨[.sl [] 0 .nil, (I6 0), (I6 0), (B6 false)], 4, .fresh⟩, ⟨[.sl (fisc l) (List.length l) .any, (I6 room), (I6 0), (B6 dead)], 4, .fresh⟩, ⟨[.ptr 4 0], 1, .fresh⟩]⟩ ?_
  refine AWP.reg (RT 1 ?_)
  refine AWP.seq (AWP.seq ?_)
  refine TO ⟨[.ptr 4 0, .fn 70 [.ptr 5 0, .ptr 1 0, .ptr 2 0], U6, U6, (I6 0)] ++ UU 23, [⟨[.sl (fisc l) (List.length l) .any, (I6 room), (I6 0), (B6 dead)], 4, .fresh⟩, ⟨[(S6 s)], 1, .fresh⟩, ⟨[.sl (u8s d) (List.length d) .any], 1, .fresh⟩, ⟨[.sl [] 0 .nil, (I6 0), (I6 0), (B6 false)], 4, .fresh⟩, ⟨[.sl (fisc l) (List.length l) .any, (I6 room), (I6 0), (B6 dead)], 4, .fresh⟩, ⟨[.ptr 4 0], 1, .fresh⟩]⟩ ?_
  refine AWP.reg (RI (True ∧ True ∧ True ∧ True ∧ 2 < 4 ∧ True ∧ True) ⟨trivial, trivial, trivial, trivial, (by omega), trivial, trivial⟩ ?_)
  refine KL (NN 5 5) ⟨[.ptr 4 0, .fn 70 [.ptr 5 0, .ptr 1 0, .ptr 2 0], U6, U6, (I6 0)] ++ UU 5 ++ [(B6 true)] ++ UU 17, [⟨[.sl (fisc l) (List.length l) .any, (I6 room), (I6 0), (B6 dead)], 4, .fresh⟩, ⟨[(S6 s)], 1, .fresh⟩, ⟨[.sl (u8s d) (List.length d) .any], 1, .fresh⟩, ⟨[.sl [] 0 .nil, (I6 0), (I6 0), (B6 false)], 4, .fresh⟩, ⟨[.sl (fisc l) (List.length l) .any, (I6 room), (I6 0), (B6 dead)], 4, .fresh⟩, ⟨[.ptr 4 0], 1, .fresh⟩]⟩ ?_
  refine CN true (fun _ => ?_) (fun h => nomatch h)
  refine SQ (RI (True ∧ True ∧ True ∧ True ∧ 4 ≤ 4 ∧ True) ⟨trivial, trivial, trivial, trivial, (by omega), trivial⟩ ?_)
  refine AWP.seq (KL (NN 10 5) ⟨[.ptr 4 0, .fn 70 [.ptr 5 0, .ptr 1 0, .ptr 2 0], U6, U6, (I6 0)] ++ UU 23, [⟨[.sl (fisc l) (List.length l) .any, (I6 room), (I6 0), (B6 dead)], 4, .fresh⟩, ⟨[(S6 s)], 1, .fresh⟩, ⟨[.sl (u8s d) (List.length d) .any], 1, .fresh⟩, ⟨[.sl [] 0 .nil, (I6 0), (I6 0), (B6 false)], 4, .fresh⟩, ⟨[.sl (fisc l) (List.length l) .any, (I6 room), (I6 0), (B6 true)], 4, .fresh⟩, ⟨[.ptr 4 0], 1, .fresh⟩]⟩ ?_)
  refine AWP.reg (RT 1 ?_)
  refine AWP.ret ?_
  refine FI (I6 220) ?_
  exact Shrink.refl _ _ _
end Go.Dk
