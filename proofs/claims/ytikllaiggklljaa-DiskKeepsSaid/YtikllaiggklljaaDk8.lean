/- Walks and laws. -/
import Derived.Test.YtikllaiggklljaaDk7
import Derived.Test.YtikllaiggklljaaLibC
set_option maxRecDepth 100000
set_option maxHeartbeats 0
set_option linter.unusedSimpArgs false
set_option linter.unusedVariables false
namespace Go.Dk
open Go Go.Abs Go.Proofs
open Go.Chu (concat2)
theorem fi_nm (l : List FileD) (s : ByteArray) (h : has l s) : [AVal.sc (.string (l.getD (low l s) fi0).nm), .sl (u8s (l.getD (low l s) fi0).d) (l.getD (low l s) fi0).d.length .any, .sc (.int .i64 (l.getD (low l s) fi0).sf)] = [AVal.sc (.string s), .sl (u8s (l.getD (low l s) fi0).d) (l.getD (low l s) fi0).d.length .any, .sc (.int .i64 (l.getD (low l s) fi0).sf)] := by rw [h.2]
theorem deep_u8s (d : List Int) : deepAll (u8s d) = u8s d := by
  induction d with
  | nil => rfl
  | cons a l ih => simp only [u8s, List.map_cons, deepAll, AVal.deepA] at ih ⊢; rw [ih]
theorem concat0 (d : List Int) (hd : d.length ≤ 2000000) : EvD Try.prog 79 [.sl [.sl [] 0 .nil, .sl (u8s d) d.length .any] 2 .any] (.sl (u8s d) d.length .any) :=
  EvD.deep (concat2 [] d d.length (by simp) hd) (by simp only [deepAll, AVal.deepA, deep_u8s]; rfl)
theorem nop80 : EvD Try.prog 80 [] (.tup []) := by
  refine EvD.body Try.func80 rfl rfl rfl ?_
  refine AWP.skip FA
theorem done80 (l : List FileD) (room arm : Int) (dead : Bool) (ha : -1 ≤ arm ∧ arm ≤ 9223372036854775807) (h0 : arm ≠ 0) : EvK Try.prog 69 [.ptr 0 0, .fn 80 []] ⟨[.sl (fisc l) l.length .any, .sc (.int .i64 room), .sc (.int .i64 arm), .sc (.bool dead)], 4, .fresh⟩ (.sc (.int .i64 0)) ⟨[.sl (fisc l) l.length .any, .sc (.int .i64 room), .sc (.int .i64 (armN arm)), .sc (.bool dead)], 4, .fresh⟩ := by
  unfold armN
  refine EvK.ofF ?_ ⟨rfl, rfl, by rfl, by rfl, rfl, rfl, by show 0 < 4; omega, by show 4 ≤ 4; omega, by simp [fic, ltAll, AVal.refLt, ltAll_of_data], rfl⟩
  refine EvF.body Try.func69 rfl (fun _ => ?_)
  refine AWP.seq ?_
  refine TO ⟨[.ptr 0 0, .fn 80 []] ++ UU 26, [⟨[.sl (fisc l) (List.length l) .any, (I6 room), (I6 arm), (B6 dead)], 4, .fresh⟩]⟩ ?_
  refine AWP.reg (RT 1 ?_)
  refine AWP.seq (AWP.seq ?_)
  refine TO ⟨[.ptr 0 0, .fn 80 [], U6, U6, (I6 0)] ++ UU 23, [⟨[.sl (fisc l) (List.length l) .any, (I6 room), (I6 arm), (B6 dead)], 4, .fresh⟩]⟩ ?_
  refine AWP.reg (RI (True ∧ True ∧ True ∧ True ∧ 2 < 4 ∧ True ∧ True) ⟨trivial, trivial, trivial, trivial, (by omega), trivial, trivial⟩ ?_)
  refine KL (NN 5 5) ⟨[.ptr 0 0, .fn 80 [], U6, U6, (I6 0)] ++ UU 5 ++ [(B6 (arm == 0))] ++ UU 17, [⟨[.sl (fisc l) (List.length l) .any, (I6 room), (I6 arm), (B6 dead)], 4, .fresh⟩]⟩ ?_
  refine CN (arm == 0) (fun h1 => ?_) (fun h1 => ?_)
  · have h1' := eq_of_beq h1
    exfalso; omega
  · have h1' := ne_of_beq_false h1
    refine AWP.skip (SQ ?_)
    refine DerQ.run (True ∧ True ∧ True ∧ True ∧ True ∧ 2 < 4 ∧ True ∧ True ∧ True ∧ True ∧ True ∧ 3 ≤ 4 ∧ True) ⟨[.ptr 0 0, .fn 80 [], U6, U6, (I6 0)] ++ UU 5 ++ [(B6 (arm == 0)), U6, U6, U6, U6, .ptr 0 0, .ptr 0 0, .ptr 0 0, .ptr 0 0, .ptr 0 2, (I6 arm), (I6 (IntKind.wrap IntKind.i64 (arm - 1))), (I6 (if -1 > IntKind.wrap IntKind.i64 (arm - 1) then -1 else IntKind.wrap IntKind.i64 (arm - 1))), .ptr 0 0, .ptr 0 0, .ptr 0 2, U6, .undef], [⟨[.sl (fisc l) (List.length l) .any, (I6 room), (I6 (if -1 > IntKind.wrap IntKind.i64 (arm - 1) then -1 else IntKind.wrap IntKind.i64 (arm - 1))), (B6 dead)], 4, .fresh⟩]⟩ (by kernel_rfl) ⟨trivial, trivial, trivial, trivial, trivial, (by omega), trivial, trivial, trivial, trivial, trivial, (by omega), trivial⟩ ?_
    rw [IntWalk.i64_in (arm - 1) (by omega)]
    refine AWP.seq (KL ([0, 10] ++ NN 15 11) ⟨[U6, .fn 80 [], U6, U6, (I6 0)] ++ UU 23, [⟨[.sl (fisc l) (List.length l) .any, (I6 room), (I6 (if -1 > arm - 1 then -1 else arm - 1)), (B6 dead)], 4, .fresh⟩]⟩ ?_)
    refine AWP.reg (PT 1 1 ?_)
    refine CD (nop80) ?_
    refine DerQ.nil ?_
    refine AWP.seq (KL [1, 26, 27] ⟨[U6, U6, U6, U6, (I6 0)] ++ UU 23, [⟨[.sl (fisc l) (List.length l) .any, (I6 room), (I6 (if -1 > arm - 1 then -1 else arm - 1)), (B6 dead)], 4, .fresh⟩]⟩ ?_)
    refine AWP.reg (RT 1 ?_)
    refine AWP.ret ?_
    refine FI (I6 0) ?_
    exact Shrink.refl _ _ _
theorem out80 (l : List FileD) (room : Int) (dead : Bool) : EvK Try.prog 69 [.ptr 0 0, .fn 80 []] ⟨[.sl (fisc l) l.length .any, .sc (.int .i64 room), .sc (.int .i64 0), .sc (.bool dead)], 4, .fresh⟩ (.sc (.int .i64 220)) ⟨[.sl (fisc l) l.length .any, .sc (.int .i64 room), .sc (.int .i64 0), .sc (.bool true)], 4, .fresh⟩ := by
  refine EvK.ofF ?_ ⟨rfl, rfl, by rfl, by rfl, rfl, rfl, by show 0 < 4; omega, by show 4 ≤ 4; omega, by simp [fic, ltAll, AVal.refLt, ltAll_of_data], rfl⟩
  refine EvF.body Try.func69 rfl (fun _ => ?_)
  refine AWP.seq ?_
  refine TO ⟨[.ptr 0 0, .fn 80 []] ++ UU 26, [⟨[.sl (fisc l) (List.length l) .any, (I6 room), (I6 0), (B6 dead)], 4, .fresh⟩]⟩ ?_
  refine AWP.reg (RT 1 ?_)
  refine AWP.seq (AWP.seq ?_)
  refine TO ⟨[.ptr 0 0, .fn 80 [], U6, U6, (I6 0)] ++ UU 23, [⟨[.sl (fisc l) (List.length l) .any, (I6 room), (I6 0), (B6 dead)], 4, .fresh⟩]⟩ ?_
  refine AWP.reg (RI (True ∧ True ∧ True ∧ True ∧ 2 < 4 ∧ True ∧ True) ⟨trivial, trivial, trivial, trivial, (by omega), trivial, trivial⟩ ?_)
  refine KL (NN 5 5) ⟨[.ptr 0 0, .fn 80 [], U6, U6, (I6 0)] ++ UU 5 ++ [(B6 true)] ++ UU 17, [⟨[.sl (fisc l) (List.length l) .any, (I6 room), (I6 0), (B6 dead)], 4, .fresh⟩]⟩ ?_
  refine CN true (fun _ => ?_) (fun h => nomatch h)
  refine SQ (RI (True ∧ True ∧ True ∧ True ∧ 4 ≤ 4 ∧ True) ⟨trivial, trivial, trivial, trivial, (by omega), trivial⟩ ?_)
  refine AWP.seq (KL (NN 10 5) ⟨[.ptr 0 0, .fn 80 [], U6, U6, (I6 0)] ++ UU 23, [⟨[.sl (fisc l) (List.length l) .any, (I6 room), (I6 0), (B6 true)], 4, .fresh⟩]⟩ ?_)
  refine AWP.reg (RT 1 ?_)
  refine AWP.ret ?_
  refine FI (I6 220) ?_
  exact Shrink.refl _ _ _
theorem app_ask (l : List FileD) (room arm : Int) (dead : Bool) (hx : l.length ≤ 1000000) (s : ByteArray) (d : List Int) (hd : d.length ≤ 900000) (e : Int) (h0 : e ≠ 0) (he : askE room arm dead l s = e) : EvD Try.prog 62 [.agg [.sl (fisc l) l.length .any, .sc (.int .i64 room), .sc (.int .i64 arm), .sc (.bool dead)], .sc (.string s), .sl (u8s d) d.length .any] (.tup [.agg [.sl (fisc l) l.length .any, .sc (.int .i64 room), .sc (.int .i64 arm), .sc (.bool dead)], .sc (.int .i64 e)]) := by
  have a1 : EvD Try.prog 67 [.agg [.sl (fisc l) l.length .any, .sc (.int .i64 room), .sc (.int .i64 arm), .sc (.bool dead)], .sc (.string s)] (.sc (.int .i64 e)) := by have := asked l room arm dead hx s; rwa [he] at this
  refine EvD.body Try.func62 rfl (by simp [dataAll, AVal.data]) (by simp [dataAll, AVal.data]) ?_
  refine AWP.seq ?_
  refine TO ⟨[.agg [.sl (fisc l) (List.length l) .any, (I6 room), (I6 arm), (B6 dead)], (S6 s), .sl (u8s d) (List.length d) .any] ++ UU 65, []⟩ ?_
  refine AWP.reg (RT 3 ?_)
  refine AWP.seq (AWP.seq (KL [0] ⟨[U6, (S6 s), .sl (u8s d) (List.length d) .any, .ptr 0 0, U6, U6, .ptr 1 0, (I6 0)] ++ UU 60, [⟨[.sl (fisc l) (List.length l) .any, (I6 room), (I6 arm), (B6 dead)], 4, .fresh⟩, ⟨[.sl [] 0 .nil, (I6 0), (I6 0), (B6 false)], 4, .fresh⟩]⟩ ?_))
  refine AWP.reg (PI 2 (4 ≤ 4 ∧ True ∧ True) ⟨(by omega), trivial, trivial⟩ ?_)
  refine CD (a1) ?_
  refine RT 1 ?_
  refine AWP.seq (KL [14, 15, 16] ⟨[U6, (S6 s), .sl (u8s d) (List.length d) .any, .ptr 0 0, U6, U6, .ptr 1 0, (I6 0), (I6 e)] ++ UU 59, [⟨[.sl (fisc l) (List.length l) .any, (I6 room), (I6 arm), (B6 dead)], 4, .fresh⟩, ⟨[.sl [] 0 .nil, (I6 0), (I6 0), (B6 false)], 4, .fresh⟩]⟩ ?_)
  refine AWP.reg (RT 2 ?_)
  refine KL [17] ⟨[U6, (S6 s), .sl (u8s d) (List.length d) .any, .ptr 0 0, U6, U6, .ptr 1 0, (I6 0), (I6 e)] ++ UU 9 ++ [(B6 (e != 0))] ++ UU 49, [⟨[.sl (fisc l) (List.length l) .any, (I6 room), (I6 arm), (B6 dead)], 4, .fresh⟩, ⟨[.sl [] 0 .nil, (I6 0), (I6 0), (B6 false)], 4, .fresh⟩]⟩ ?_
  refine CN (e != 0) (fun h1 => ?_) (fun h1 => ?_)
  · have h1' := bne_iff_ne.1 h1
    refine SQ (RI (4 ≤ 4 ∧ True ∧ 4 ≤ 4 ∧ True ∧ True) ⟨(by omega), trivial, (by omega), trivial, trivial⟩ ?_)
    refine AWP.ret FA
  · have h1' := bne_eq_false_iff_eq.1 h1
    exfalso; omega
theorem app_full_h (l : List FileD) (room arm : Int) (dead : Bool) (hx : l.length ≤ 1000000) (s : ByteArray) (d : List Int) (hd : d.length ≤ 900000) (ho : okD room arm l) (he : askE room arm dead l s = 0) (hh : has l s) (hp : ¬ roomP room l s (((l.getD (low l s) fi0).d.length : Int) + (d.length : Int))) : EvD Try.prog 62 [.agg [.sl (fisc l) l.length .any, .sc (.int .i64 room), .sc (.int .i64 arm), .sc (.bool dead)], .sc (.string s), .sl (u8s d) d.length .any] (.tup [.agg [.sl (fisc l) l.length .any, .sc (.int .i64 room), .sc (.int .i64 arm), .sc (.bool dead)], .sc (.int .i64 4)]) := by
  have hll := hh.1
  have hdl := d_le l _ hll
  have hus := okD_used ho
  have hrm := ho.2.1
  have a1 : EvD Try.prog 67 [.agg [.sl (fisc l) l.length .any, .sc (.int .i64 room), .sc (.int .i64 arm), .sc (.bool dead)], .sc (.string s)] (.sc (.int .i64 0)) := by have := asked l room arm dead hx s; rwa [he] at this
  have p1 := place l room arm dead (okD_srt ho) (by have := ho.2.2.2.1; omega) s
  have r1 : EvK Try.prog 68 [.ptr 0 0, .sc (.string s), .sc (.int .i64 (((l.getD (low l s) fi0).d.length : Int) + (d.length : Int)))] ⟨[.sl (fisc l) l.length .any, .sc (.int .i64 room), .sc (.int .i64 arm), .sc (.bool dead)], 4, .fresh⟩ (.sc (.bool false)) ⟨[.sl (fisc l) l.length .any, .sc (.int .i64 room), .sc (.int .i64 arm), .sc (.bool dead)], 4, .fresh⟩ := by
    have := room_ l room arm dead (okD_srt ho) (by have := ho.2.2.2.1; omega) (by have := okD_used ho; have := ho.2.1; omega) ⟨ho.1, ho.2.1⟩ s ((((l.getD (low l s) fi0).d.length : Int) + (d.length : Int))) (by omega)
    rwa [decide_eq_false hp] at this
  refine EvD.body Try.func62 rfl (by simp [dataAll, AVal.data]) (by simp [dataAll, AVal.data]) ?_
  refine AWP.seq ?_
  refine TO ⟨[.agg [.sl (fisc l) (List.length l) .any, (I6 room), (I6 arm), (B6 dead)], (S6 s), .sl (u8s d) (List.length d) .any] ++ UU 65, []⟩ ?_
  refine AWP.reg (RT 3 ?_)
  refine AWP.seq (AWP.seq (KL [0] ⟨[U6, (S6 s), .sl (u8s d) (List.length d) .any, .ptr 0 0, U6, U6, .ptr 1 0, (I6 0)] ++ UU 60, [⟨[.sl (fisc l) (List.length l) .any, (I6 room), (I6 arm), (B6 dead)], 4, .fresh⟩, ⟨[.sl [] 0 .nil, (I6 0), (I6 0), (B6 false)], 4, .fresh⟩]⟩ ?_))
  refine AWP.reg (PI 2 (4 ≤ 4 ∧ True ∧ True) ⟨(by omega), trivial, trivial⟩ ?_)
  refine CD (a1) ?_
  refine RT 1 ?_
  refine AWP.seq (KL [14, 15, 16] ⟨[U6, (S6 s), .sl (u8s d) (List.length d) .any, .ptr 0 0, U6, U6, .ptr 1 0, (I6 0), (I6 0)] ++ UU 59, [⟨[.sl (fisc l) (List.length l) .any, (I6 room), (I6 arm), (B6 dead)], 4, .fresh⟩, ⟨[.sl [] 0 .nil, (I6 0), (I6 0), (B6 false)], 4, .fresh⟩]⟩ ?_)
  refine AWP.reg (RT 2 ?_)
  refine KL [17] ⟨[U6, (S6 s), .sl (u8s d) (List.length d) .any, .ptr 0 0, U6, U6, .ptr 1 0, (I6 0), (I6 0)] ++ UU 9 ++ [(B6 false)] ++ UU 49, [⟨[.sl (fisc l) (List.length l) .any, (I6 room), (I6 arm), (B6 dead)], 4, .fresh⟩, ⟨[.sl [] 0 .nil, (I6 0), (I6 0), (B6 false)], 4, .fresh⟩]⟩ ?_
  refine CN false (fun h => nomatch h) (fun _ => ?_)
  refine AWP.skip (SQ (RI (4 ≤ 4 ∧ True ∧ True ∧ True ∧ True) ⟨(by omega), trivial, trivial, trivial, trivial⟩ ?_))
  refine AWP.seq (KL [8, 18, 21, 22, 23] ⟨[U6, (S6 s), .sl (u8s d) (List.length d) .any, .ptr 0 0, U6, U6, .ptr 1 0, (I6 0), U6, .ptr 2 0] ++ UU 58, [⟨[.sl (fisc l) (List.length l) .any, (I6 room), (I6 arm), (B6 dead)], 4, .fresh⟩, ⟨[.sl [] 0 .nil, (I6 0), (I6 0), (B6 false)], 4, .fresh⟩, ⟨[.sl (fisc l) (List.length l) .any, (I6 room), (I6 arm), (B6 dead)], 4, .fresh⟩]⟩ ?_)
  refine AWP.reg (RI (True ∧ True ∧ True ∧ 3 ≤ 3 ∧ True) ⟨trivial, trivial, trivial, (by omega), trivial⟩ ?_)
  refine AWP.seq (AWP.seq (KL [24, 25] ⟨[U6, (S6 s), .sl (u8s d) (List.length d) .any, .ptr 0 0, U6, U6, .ptr 1 0, (I6 0), U6, .ptr 2 0, .ptr 3 0] ++ UU 57, [⟨[.sl (fisc l) (List.length l) .any, (I6 room), (I6 arm), (B6 dead)], 4, .fresh⟩, ⟨[.sl [] 0 .nil, (I6 0), (I6 0), (B6 false)], 4, .fresh⟩, ⟨[.sl (fisc l) (List.length l) .any, (I6 room), (I6 arm), (B6 dead)], 4, .fresh⟩, ⟨[(S6 s), .sl [] 0 .nil, (I6 0)], 3, .fresh⟩]⟩ ?_))
  refine AWP.reg (PT 2 2 ?_)
  refine DerQ.callK (p1) 2 [.ptr 2 0, (S6 s)] ⟨[U6, (S6 s), .sl (u8s d) (List.length d) .any, .ptr 0 0, U6, U6, .ptr 1 0, (I6 0), U6, .ptr 2 0, .ptr 3 0] ++ UU 16 ++ [.ptr 2 0, (S6 s), .tup [(I6 (↑(low l s) : Int)), (B6 (decide (has l s)))]] ++ UU 38, [⟨[.sl (fisc l) (List.length l) .any, (I6 room), (I6 arm), (B6 dead)], 4, .fresh⟩, ⟨[.sl [] 0 .nil, (I6 0), (I6 0), (B6 false)], 4, .fresh⟩, ⟨[.sl (fisc l) (List.length l) .any, (I6 room), (I6 arm), (B6 dead)], 4, .fresh⟩, ⟨[(S6 s), .sl [] 0 .nil, (I6 0)], 3, .fresh⟩]⟩ ⟨by kernel_rfl, by kernel_rfl, by kernel_rfl, by kernel_rfl, by kernel_rfl⟩ ?_
  refine RT 5 ?_
  refine AWP.seq (KL (NN 26 6) ⟨[U6, (S6 s), .sl (u8s d) (List.length d) .any, .ptr 0 0, U6, U6, .ptr 1 0, (I6 0), U6, .ptr 2 0, .ptr 3 0, (I6 (↑(low l s) : Int)), (B6 (decide (has l s)))] ++ UU 55, [⟨[.sl (fisc l) (List.length l) .any, (I6 room), (I6 arm), (B6 dead)], 4, .fresh⟩, ⟨[.sl [] 0 .nil, (I6 0), (I6 0), (B6 false)], 4, .fresh⟩, ⟨[.sl (fisc l) (List.length l) .any, (I6 room), (I6 arm), (B6 dead)], 4, .fresh⟩, ⟨[(S6 s), .sl [] 0 .nil, (I6 0)], 3, .fresh⟩]⟩ ?_)
  refine AWP.reg (RT 1 ?_)
  refine KL [12] ⟨[U6, (S6 s), .sl (u8s d) (List.length d) .any, .ptr 0 0, U6, U6, .ptr 1 0, (I6 0), U6, .ptr 2 0, .ptr 3 0, (I6 (↑(low l s) : Int))] ++ UU 20 ++ [(B6 (decide (has l s)))] ++ UU 35, [⟨[.sl (fisc l) (List.length l) .any, (I6 room), (I6 arm), (B6 dead)], 4, .fresh⟩, ⟨[.sl [] 0 .nil, (I6 0), (I6 0), (B6 false)], 4, .fresh⟩, ⟨[.sl (fisc l) (List.length l) .any, (I6 room), (I6 arm), (B6 dead)], 4, .fresh⟩, ⟨[(S6 s), .sl [] 0 .nil, (I6 0)], 3, .fresh⟩]⟩ ?_
  refine CN (decide (has l s)) (fun h1 => ?_) (fun h1 => ?_)
  · have h1' := of_decide_eq_true h1
    refine AWP.reg ?_
    refine DerQ.pre 8 (True ∧ True ∧ True ∧ True ∧ 0 < 4 ∧ True ∧ (((0 ≤ (↑(low l s) : Int)) ∧ ((↑(low l s) : Int) < (↑(List.length l) : Int))) ∧ (Int.toNat (↑(low l s) : Int) * 3 + 3 ≤ List.length (fisc l))) ∧ 3 ≤ 3 ∧ True) ⟨[U6, (S6 s), .sl (u8s d) (List.length d) .any, .ptr 0 0, U6, U6, .ptr 1 0, (I6 0), U6, .ptr 2 0, .ptr 3 0, (I6 (↑(low l s) : Int))] ++ UU 20 ++ [(B6 (decide (has l s))), .ptr 2 0, .ptr 2 0, .ptr 2 0, .ptr 2 0, .sl (fisc l) (List.length l) .any, (I6 (↑(low l s) : Int)), .dptr [List.getD (fisc l) (Int.toNat (↑(low l s) : Int) * 3 + 0) U6, List.getD (fisc l) (Int.toNat (↑(low l s) : Int) * 3 + 1) U6, List.getD (fisc l) (Int.toNat (↑(low l s) : Int) * 3 + 2) AVal.undef], .agg [List.getD (fisc l) (Int.toNat (↑(low l s) : Int) * 3 + 0) U6, List.getD (fisc l) (Int.toNat (↑(low l s) : Int) * 3 + 1) U6, List.getD (fisc l) (Int.toNat (↑(low l s) : Int) * 3 + 2) AVal.undef]] ++ UU 27, [⟨[.sl (fisc l) (List.length l) .any, (I6 room), (I6 arm), (B6 dead)], 4, .fresh⟩, ⟨[.sl [] 0 .nil, (I6 0), (I6 0), (B6 false)], 4, .fresh⟩, ⟨[.sl (fisc l) (List.length l) .any, (I6 room), (I6 arm), (B6 dead)], 4, .fresh⟩, ⟨[(S6 s), .sl [] 0 .nil, (I6 0)], 3, .fresh⟩]⟩ (by kernel_rfl) ⟨trivial, trivial, trivial, trivial, (by omega), trivial, ⟨⟨(by omega), (by omega)⟩, (by (simp [spliceA_length] <;> omega))⟩, (by omega), trivial⟩ ?_
    rw [Int.toNat_natCast (low l s)]
    rw [Nat.add_zero (low l s * 3)]
    rw [Go.Dk.fi_cells (l) (low l s) (by omega)]
    refine DerQ.run (3 ≤ 3 ∧ True) ⟨[U6, (S6 s), .sl (u8s d) (List.length d) .any, .ptr 0 0, U6, U6, .ptr 1 0, (I6 0), U6, .ptr 2 0, .ptr 3 0, (I6 (↑(low l s) : Int))] ++ UU 20 ++ [(B6 (decide (has l s))), .ptr 2 0, .ptr 2 0, .ptr 2 0, .ptr 2 0, .sl (fisc l) (List.length l) .any, (I6 (↑(low l s) : Int)), .dptr [(S6 ((List.getD l (low l s) fi0).nm)), .sl (u8s (List.getD l (low l s) fi0).d) (List.length (List.getD l (low l s) fi0).d) .any, (I6 ((List.getD l (low l s) fi0).sf))], .agg [(S6 ((List.getD l (low l s) fi0).nm)), .sl (u8s (List.getD l (low l s) fi0).d) (List.length (List.getD l (low l s) fi0).d) .any, (I6 ((List.getD l (low l s) fi0).sf))]] ++ UU 27, [⟨[.sl (fisc l) (List.length l) .any, (I6 room), (I6 arm), (B6 dead)], 4, .fresh⟩, ⟨[.sl [] 0 .nil, (I6 0), (I6 0), (B6 false)], 4, .fresh⟩, ⟨[.sl (fisc l) (List.length l) .any, (I6 room), (I6 arm), (B6 dead)], 4, .fresh⟩, ⟨[(S6 ((List.getD l (low l s) fi0).nm)), .sl (u8s (List.getD l (low l s) fi0).d) (List.length (List.getD l (low l s) fi0).d) .any, (I6 ((List.getD l (low l s) fi0).sf))], 3, .fresh⟩]⟩ (by kernel_rfl) ⟨(by omega), trivial⟩ ?_
    rw [Go.Dk.fi_nm (l) (s) (by omega)]
    refine AWP.seq (AWP.seq (KL ([11] ++ NN 32 9) ⟨[U6, (S6 s), .sl (u8s d) (List.length d) .any, .ptr 0 0, U6, U6, .ptr 1 0, (I6 0), U6, .ptr 2 0, .ptr 3 0] ++ UU 57, [⟨[.sl (fisc l) (List.length l) .any, (I6 room), (I6 arm), (B6 dead)], 4, .fresh⟩, ⟨[.sl [] 0 .nil, (I6 0), (I6 0), (B6 false)], 4, .fresh⟩, ⟨[.sl (fisc l) (List.length l) .any, (I6 room), (I6 arm), (B6 dead)], 4, .fresh⟩, ⟨[(S6 s), .sl (u8s (List.getD l (low l s) fi0).d) (List.length (List.getD l (low l s) fi0).d) .any, (I6 ((List.getD l (low l s) fi0).sf))], 3, .fresh⟩]⟩ ?_))
    refine AWP.reg ?_
    refine DerQ.pre 8 (True ∧ True ∧ True ∧ 1 < 3 ∧ True ∧ True ∧ True ∧ True ∧ True) ⟨[U6, (S6 s), .sl (u8s d) (List.length d) .any, .ptr 0 0, U6, U6, .ptr 1 0, (I6 0), U6, .ptr 2 0, .ptr 3 0] ++ UU 30 ++ [.ptr 2 0, (S6 s), .ptr 3 1, .sl (u8s (List.getD l (low l s) fi0).d) (List.length (List.getD l (low l s) fi0).d) .any, (I6 (↑(List.length (List.getD l (low l s) fi0).d) : Int)), .sl (u8s d) (List.length d) .any, (I6 (↑(List.length d) : Int)), (I6 (IntKind.wrap IntKind.i64 ((↑(List.length (List.getD l (low l s) fi0).d) : Int) + (↑(List.length d) : Int))))] ++ UU 19, [⟨[.sl (fisc l) (List.length l) .any, (I6 room), (I6 arm), (B6 dead)], 4, .fresh⟩, ⟨[.sl [] 0 .nil, (I6 0), (I6 0), (B6 false)], 4, .fresh⟩, ⟨[.sl (fisc l) (List.length l) .any, (I6 room), (I6 arm), (B6 dead)], 4, .fresh⟩, ⟨[(S6 s), .sl (u8s (List.getD l (low l s) fi0).d) (List.length (List.getD l (low l s) fi0).d) .any, (I6 ((List.getD l (low l s) fi0).sf))], 3, .fresh⟩]⟩ (by kernel_rfl) ⟨trivial, trivial, trivial, (by omega), trivial, trivial, trivial, trivial, trivial⟩ ?_
    rw [IntWalk.i64_in ((↑(List.length (List.getD l (low l s) fi0).d) : Int) + (↑(List.length d) : Int)) (by omega)]
    refine DerQ.callK (r1) 2 [.ptr 2 0, (S6 s), (I6 ((↑(List.length (List.getD l (low l s) fi0).d) : Int) + (↑(List.length d) : Int)))] ⟨[U6, (S6 s), .sl (u8s d) (List.length d) .any, .ptr 0 0, U6, U6, .ptr 1 0, (I6 0), U6, .ptr 2 0, .ptr 3 0] ++ UU 30 ++ [.ptr 2 0, (S6 s), .ptr 3 1, .sl (u8s (List.getD l (low l s) fi0).d) (List.length (List.getD l (low l s) fi0).d) .any, (I6 (↑(List.length (List.getD l (low l s) fi0).d) : Int)), .sl (u8s d) (List.length d) .any, (I6 (↑(List.length d) : Int)), (I6 ((↑(List.length (List.getD l (low l s) fi0).d) : Int) + (↑(List.length d) : Int))), (B6 false)] ++ UU 18, [⟨[.sl (fisc l) (List.length l) .any, (I6 room), (I6 arm), (B6 dead)], 4, .fresh⟩, ⟨[.sl [] 0 .nil, (I6 0), (I6 0), (B6 false)], 4, .fresh⟩, ⟨[.sl (fisc l) (List.length l) .any, (I6 room), (I6 arm), (B6 dead)], 4, .fresh⟩, ⟨[(S6 s), .sl (u8s (List.getD l (low l s) fi0).d) (List.length (List.getD l (low l s) fi0).d) .any, (I6 ((List.getD l (low l s) fi0).sf))], 3, .fresh⟩]⟩ ⟨by kernel_rfl, by kernel_rfl, by kernel_rfl, by kernel_rfl, by kernel_rfl⟩ ?_
    refine RT 1 ?_
    refine KL ([1] ++ NN 41 9) ⟨[U6, U6, .sl (u8s d) (List.length d) .any, .ptr 0 0, U6, U6, .ptr 1 0, (I6 0), U6, .ptr 2 0, .ptr 3 0] ++ UU 39 ++ [(B6 true)] ++ UU 17, [⟨[.sl (fisc l) (List.length l) .any, (I6 room), (I6 arm), (B6 dead)], 4, .fresh⟩, ⟨[.sl [] 0 .nil, (I6 0), (I6 0), (B6 false)], 4, .fresh⟩, ⟨[.sl (fisc l) (List.length l) .any, (I6 room), (I6 arm), (B6 dead)], 4, .fresh⟩, ⟨[(S6 s), .sl (u8s (List.getD l (low l s) fi0).d) (List.length (List.getD l (low l s) fi0).d) .any, (I6 ((List.getD l (low l s) fi0).sf))], 3, .fresh⟩]⟩ ?_
    refine CN true (fun _ => ?_) (fun h => nomatch h)
    refine SQ (RI (4 ≤ 4 ∧ 4 ≤ 4 ∧ True ∧ True) ⟨(by omega), (by omega), trivial, trivial⟩ ?_)
    refine AWP.ret FA
  · have h1' := of_decide_eq_false h1
    (exfalso; exact absurd hh (by assumption); done)
theorem app_full_n (l : List FileD) (room arm : Int) (dead : Bool) (hx : l.length ≤ 1000000) (s : ByteArray) (d : List Int) (hd : d.length ≤ 900000) (ho : okD room arm l) (he : askE room arm dead l s = 0) (hh : ¬ has l s) (hp : ¬ roomP room l s ((d.length : Int))) : EvD Try.prog 62 [.agg [.sl (fisc l) l.length .any, .sc (.int .i64 room), .sc (.int .i64 arm), .sc (.bool dead)], .sc (.string s), .sl (u8s d) d.length .any] (.tup [.agg [.sl (fisc l) l.length .any, .sc (.int .i64 room), .sc (.int .i64 arm), .sc (.bool dead)], .sc (.int .i64 4)]) := by
  have a1 : EvD Try.prog 67 [.agg [.sl (fisc l) l.length .any, .sc (.int .i64 room), .sc (.int .i64 arm), .sc (.bool dead)], .sc (.string s)] (.sc (.int .i64 0)) := by have := asked l room arm dead hx s; rwa [he] at this
  have p1 := place l room arm dead (okD_srt ho) (by have := ho.2.2.2.1; omega) s
  have r1 : EvK Try.prog 68 [.ptr 0 0, .sc (.string s), .sc (.int .i64 (0 + (d.length : Int)))] ⟨[.sl (fisc l) l.length .any, .sc (.int .i64 room), .sc (.int .i64 arm), .sc (.bool dead)], 4, .fresh⟩ (.sc (.bool false)) ⟨[.sl (fisc l) l.length .any, .sc (.int .i64 room), .sc (.int .i64 arm), .sc (.bool dead)], 4, .fresh⟩ := by
    rw [Int.zero_add]
    have := room_ l room arm dead (okD_srt ho) (by have := ho.2.2.2.1; omega) (by have := okD_used ho; have := ho.2.1; omega) ⟨ho.1, ho.2.1⟩ s (((d.length : Int))) (by omega)
    rwa [decide_eq_false hp] at this
  refine EvD.body Try.func62 rfl (by simp [dataAll, AVal.data]) (by simp [dataAll, AVal.data]) ?_
  refine AWP.seq ?_
  refine TO ⟨[.agg [.sl (fisc l) (List.length l) .any, (I6 room), (I6 arm), (B6 dead)], (S6 s), .sl (u8s d) (List.length d) .any] ++ UU 65, []⟩ ?_
  refine AWP.reg (RT 3 ?_)
  refine AWP.seq (AWP.seq (KL [0] ⟨[U6, (S6 s), .sl (u8s d) (List.length d) .any, .ptr 0 0, U6, U6, .ptr 1 0, (I6 0)] ++ UU 60, [⟨[.sl (fisc l) (List.length l) .any, (I6 room), (I6 arm), (B6 dead)], 4, .fresh⟩, ⟨[.sl [] 0 .nil, (I6 0), (I6 0), (B6 false)], 4, .fresh⟩]⟩ ?_))
  refine AWP.reg (PI 2 (4 ≤ 4 ∧ True ∧ True) ⟨(by omega), trivial, trivial⟩ ?_)
  refine CD (a1) ?_
  refine RT 1 ?_
  refine AWP.seq (KL [14, 15, 16] ⟨[U6, (S6 s), .sl (u8s d) (List.length d) .any, .ptr 0 0, U6, U6, .ptr 1 0, (I6 0), (I6 0)] ++ UU 59, [⟨[.sl (fisc l) (List.length l) .any, (I6 room), (I6 arm), (B6 dead)], 4, .fresh⟩, ⟨[.sl [] 0 .nil, (I6 0), (I6 0), (B6 false)], 4, .fresh⟩]⟩ ?_)
  refine AWP.reg (RT 2 ?_)
  refine KL [17] ⟨[U6, (S6 s), .sl (u8s d) (List.length d) .any, .ptr 0 0, U6, U6, .ptr 1 0, (I6 0), (I6 0)] ++ UU 9 ++ [(B6 false)] ++ UU 49, [⟨[.sl (fisc l) (List.length l) .any, (I6 room), (I6 arm), (B6 dead)], 4, .fresh⟩, ⟨[.sl [] 0 .nil, (I6 0), (I6 0), (B6 false)], 4, .fresh⟩]⟩ ?_
  refine CN false (fun h => nomatch h) (fun _ => ?_)
  refine AWP.skip (SQ (RI (4 ≤ 4 ∧ True ∧ True ∧ True ∧ True) ⟨(by omega), trivial, trivial, trivial, trivial⟩ ?_))
  refine AWP.seq (KL [8, 18, 21, 22, 23] ⟨[U6, (S6 s), .sl (u8s d) (List.length d) .any, .ptr 0 0, U6, U6, .ptr 1 0, (I6 0), U6, .ptr 2 0] ++ UU 58, [⟨[.sl (fisc l) (List.length l) .any, (I6 room), (I6 arm), (B6 dead)], 4, .fresh⟩, ⟨[.sl [] 0 .nil, (I6 0), (I6 0), (B6 false)], 4, .fresh⟩, ⟨[.sl (fisc l) (List.length l) .any, (I6 room), (I6 arm), (B6 dead)], 4, .fresh⟩]⟩ ?_)
  refine AWP.reg (RI (True ∧ True ∧ True ∧ 3 ≤ 3 ∧ True) ⟨trivial, trivial, trivial, (by omega), trivial⟩ ?_)
  refine AWP.seq (AWP.seq (KL [24, 25] ⟨[U6, (S6 s), .sl (u8s d) (List.length d) .any, .ptr 0 0, U6, U6, .ptr 1 0, (I6 0), U6, .ptr 2 0, .ptr 3 0] ++ UU 57, [⟨[.sl (fisc l) (List.length l) .any, (I6 room), (I6 arm), (B6 dead)], 4, .fresh⟩, ⟨[.sl [] 0 .nil, (I6 0), (I6 0), (B6 false)], 4, .fresh⟩, ⟨[.sl (fisc l) (List.length l) .any, (I6 room), (I6 arm), (B6 dead)], 4, .fresh⟩, ⟨[(S6 s), .sl [] 0 .nil, (I6 0)], 3, .fresh⟩]⟩ ?_))
  refine AWP.reg (PT 2 2 ?_)
  refine DerQ.callK (p1) 2 [.ptr 2 0, (S6 s)] ⟨[U6, (S6 s), .sl (u8s d) (List.length d) .any, .ptr 0 0, U6, U6, .ptr 1 0, (I6 0), U6, .ptr 2 0, .ptr 3 0] ++ UU 16 ++ [.ptr 2 0, (S6 s), .tup [(I6 (↑(low l s) : Int)), (B6 (decide (has l s)))]] ++ UU 38, [⟨[.sl (fisc l) (List.length l) .any, (I6 room), (I6 arm), (B6 dead)], 4, .fresh⟩, ⟨[.sl [] 0 .nil, (I6 0), (I6 0), (B6 false)], 4, .fresh⟩, ⟨[.sl (fisc l) (List.length l) .any, (I6 room), (I6 arm), (B6 dead)], 4, .fresh⟩, ⟨[(S6 s), .sl [] 0 .nil, (I6 0)], 3, .fresh⟩]⟩ ⟨by kernel_rfl, by kernel_rfl, by kernel_rfl, by kernel_rfl, by kernel_rfl⟩ ?_
  refine RT 5 ?_
  refine AWP.seq (KL (NN 26 6) ⟨[U6, (S6 s), .sl (u8s d) (List.length d) .any, .ptr 0 0, U6, U6, .ptr 1 0, (I6 0), U6, .ptr 2 0, .ptr 3 0, (I6 (↑(low l s) : Int)), (B6 (decide (has l s)))] ++ UU 55, [⟨[.sl (fisc l) (List.length l) .any, (I6 room), (I6 arm), (B6 dead)], 4, .fresh⟩, ⟨[.sl [] 0 .nil, (I6 0), (I6 0), (B6 false)], 4, .fresh⟩, ⟨[.sl (fisc l) (List.length l) .any, (I6 room), (I6 arm), (B6 dead)], 4, .fresh⟩, ⟨[(S6 s), .sl [] 0 .nil, (I6 0)], 3, .fresh⟩]⟩ ?_)
  refine AWP.reg (RT 1 ?_)
  refine KL [12] ⟨[U6, (S6 s), .sl (u8s d) (List.length d) .any, .ptr 0 0, U6, U6, .ptr 1 0, (I6 0), U6, .ptr 2 0, .ptr 3 0, (I6 (↑(low l s) : Int))] ++ UU 20 ++ [(B6 (decide (has l s)))] ++ UU 35, [⟨[.sl (fisc l) (List.length l) .any, (I6 room), (I6 arm), (B6 dead)], 4, .fresh⟩, ⟨[.sl [] 0 .nil, (I6 0), (I6 0), (B6 false)], 4, .fresh⟩, ⟨[.sl (fisc l) (List.length l) .any, (I6 room), (I6 arm), (B6 dead)], 4, .fresh⟩, ⟨[(S6 s), .sl [] 0 .nil, (I6 0)], 3, .fresh⟩]⟩ ?_
  refine CN (decide (has l s)) (fun h1 => ?_) (fun h1 => ?_)
  · have h1' := of_decide_eq_true h1
    (exfalso; exact absurd (by assumption) hh; done)
  · have h1' := of_decide_eq_false h1
    refine AWP.skip (AWP.seq (SQ ?_))
    refine DerQ.pre 8 (True ∧ True ∧ True ∧ 1 < 3 ∧ True ∧ True ∧ True ∧ True ∧ True) ⟨[U6, (S6 s), .sl (u8s d) (List.length d) .any, .ptr 0 0, U6, U6, .ptr 1 0, (I6 0), U6, .ptr 2 0, .ptr 3 0, (I6 (↑(low l s) : Int))] ++ UU 20 ++ [(B6 (decide (has l s)))] ++ UU 8 ++ [.ptr 2 0, (S6 s), .ptr 3 1, .sl [] 0 .nil, (I6 0), .sl (u8s d) (List.length d) .any, (I6 (↑(List.length d) : Int)), (I6 (IntKind.wrap IntKind.i64 (0 + (↑(List.length d) : Int))))] ++ UU 19, [⟨[.sl (fisc l) (List.length l) .any, (I6 room), (I6 arm), (B6 dead)], 4, .fresh⟩, ⟨[.sl [] 0 .nil, (I6 0), (I6 0), (B6 false)], 4, .fresh⟩, ⟨[.sl (fisc l) (List.length l) .any, (I6 room), (I6 arm), (B6 dead)], 4, .fresh⟩, ⟨[(S6 s), .sl [] 0 .nil, (I6 0)], 3, .fresh⟩]⟩ (by kernel_rfl) ⟨trivial, trivial, trivial, (by omega), trivial, trivial, trivial, trivial, trivial⟩ ?_
    rw [IntWalk.i64_in (0 + (↑(List.length d) : Int)) (by omega)]
    refine DerQ.callK (r1) 2 [.ptr 2 0, (S6 s), (I6 (0 + (↑(List.length d) : Int)))] ⟨[U6, (S6 s), .sl (u8s d) (List.length d) .any, .ptr 0 0, U6, U6, .ptr 1 0, (I6 0), U6, .ptr 2 0, .ptr 3 0, (I6 (↑(low l s) : Int))] ++ UU 20 ++ [(B6 (decide (has l s)))] ++ UU 8 ++ [.ptr 2 0, (S6 s), .ptr 3 1, .sl [] 0 .nil, (I6 0), .sl (u8s d) (List.length d) .any, (I6 (↑(List.length d) : Int)), (I6 (0 + (↑(List.length d) : Int))), (B6 false)] ++ UU 18, [⟨[.sl (fisc l) (List.length l) .any, (I6 room), (I6 arm), (B6 dead)], 4, .fresh⟩, ⟨[.sl [] 0 .nil, (I6 0), (I6 0), (B6 false)], 4, .fresh⟩, ⟨[.sl (fisc l) (List.length l) .any, (I6 room), (I6 arm), (B6 dead)], 4, .fresh⟩, ⟨[(S6 s), .sl [] 0 .nil, (I6 0)], 3, .fresh⟩]⟩ ⟨by kernel_rfl, by kernel_rfl, by kernel_rfl, by kernel_rfl, by kernel_rfl⟩ ?_
    refine RT 1 ?_
    refine KL ([1, 11, 32] ++ NN 41 9) ⟨[U6, U6, .sl (u8s d) (List.length d) .any, .ptr 0 0, U6, U6, .ptr 1 0, (I6 0), U6, .ptr 2 0, .ptr 3 0] ++ UU 39 ++ [(B6 true)] ++ UU 17, [⟨[.sl (fisc l) (List.length l) .any, (I6 room), (I6 arm), (B6 dead)], 4, .fresh⟩, ⟨[.sl [] 0 .nil, (I6 0), (I6 0), (B6 false)], 4, .fresh⟩, ⟨[.sl (fisc l) (List.length l) .any, (I6 room), (I6 arm), (B6 dead)], 4, .fresh⟩, ⟨[(S6 s), .sl [] 0 .nil, (I6 0)], 3, .fresh⟩]⟩ ?_
    refine CN true (fun _ => ?_) (fun h => nomatch h)
    refine SQ (RI (4 ≤ 4 ∧ 4 ≤ 4 ∧ True ∧ True) ⟨(by omega), (by omega), trivial, trivial⟩ ?_)
    refine AWP.ret FA
theorem app_ok_h (l : List FileD) (room arm : Int) (dead : Bool) (hx : l.length ≤ 1000000) (s : ByteArray) (d : List Int) (hd : d.length ≤ 900000) (ho : okD room arm l) (he : askE room arm dead l s = 0) (hh : has l s) (hp : roomP room l s (((l.getD (low l s) fi0).d.length : Int) + (d.length : Int))) (ha : -1 ≤ arm ∧ arm ≤ 9223372036854775807) (h0 : arm ≠ 0) : EvD Try.prog 62 [.agg [.sl (fisc l) l.length .any, .sc (.int .i64 room), .sc (.int .i64 arm), .sc (.bool dead)], .sc (.string s), .sl (u8s d) d.length .any] (.tup [.agg [.sl (fisc (putL l ⟨s, (l.getD (low l s) fi0).d ++ d, (l.getD (low l s) fi0).sf⟩)) (putL l ⟨s, (l.getD (low l s) fi0).d ++ d, (l.getD (low l s) fi0).sf⟩).length .any, .sc (.int .i64 room), .sc (.int .i64 (armN arm)), .sc (.bool dead)], .sc (.int .i64 0)]) := by
  have hll := hh.1
  have hdl := d_le l _ hll
  have hus := okD_used ho
  have hrm := ho.2.1
  have a1 : EvD Try.prog 67 [.agg [.sl (fisc l) l.length .any, .sc (.int .i64 room), .sc (.int .i64 arm), .sc (.bool dead)], .sc (.string s)] (.sc (.int .i64 0)) := by have := asked l room arm dead hx s; rwa [he] at this
  have p1 := place l room arm dead (okD_srt ho) (by have := ho.2.2.2.1; omega) s
  have r1 : EvK Try.prog 68 [.ptr 0 0, .sc (.string s), .sc (.int .i64 (((l.getD (low l s) fi0).d.length : Int) + (d.length : Int)))] ⟨[.sl (fisc l) l.length .any, .sc (.int .i64 room), .sc (.int .i64 arm), .sc (.bool dead)], 4, .fresh⟩ (.sc (.bool true)) ⟨[.sl (fisc l) l.length .any, .sc (.int .i64 room), .sc (.int .i64 arm), .sc (.bool dead)], 4, .fresh⟩ := by
    have := room_ l room arm dead (okD_srt ho) (by have := ho.2.2.2.1; omega) (by have := okD_used ho; have := ho.2.1; omega) ⟨ho.1, ho.2.1⟩ s ((((l.getD (low l s) fi0).d.length : Int) + (d.length : Int))) (by omega)
    rwa [decide_eq_true hp] at this
  have n1 := done80 l room arm dead ha h0
  have q1 := concat2 (l.getD (low l s) fi0).d d ((l.getD (low l s) fi0).d ++ d).length (by rw [List.length_append]) (by rw [List.length_append]; omega)
  have s1 := set_ l room (armN arm) dead (okD_srt ho) (by have := ho.2.2.2.1; omega) ⟨s, (l.getD (low l s) fi0).d ++ d, (l.getD (low l s) fi0).sf⟩
  refine EvD.body Try.func62 rfl (by simp [dataAll, AVal.data]) (by simp [dataAll, AVal.data]) ?_
  refine AWP.seq ?_
  refine TO ⟨[.agg [.sl (fisc l) (List.length l) .any, (I6 room), (I6 arm), (B6 dead)], (S6 s), .sl (u8s d) (List.length d) .any] ++ UU 65, []⟩ ?_
  refine AWP.reg (RT 3 ?_)
  refine AWP.seq (AWP.seq (KL [0] ⟨[U6, (S6 s), .sl (u8s d) (List.length d) .any, .ptr 0 0, U6, U6, .ptr 1 0, (I6 0)] ++ UU 60, [⟨[.sl (fisc l) (List.length l) .any, (I6 room), (I6 arm), (B6 dead)], 4, .fresh⟩, ⟨[.sl [] 0 .nil, (I6 0), (I6 0), (B6 false)], 4, .fresh⟩]⟩ ?_))
  refine AWP.reg (PI 2 (4 ≤ 4 ∧ True ∧ True) ⟨(by omega), trivial, trivial⟩ ?_)
  refine CD (a1) ?_
  refine RT 1 ?_
  refine AWP.seq (KL [14, 15, 16] ⟨[U6, (S6 s), .sl (u8s d) (List.length d) .any, .ptr 0 0, U6, U6, .ptr 1 0, (I6 0), (I6 0)] ++ UU 59, [⟨[.sl (fisc l) (List.length l) .any, (I6 room), (I6 arm), (B6 dead)], 4, .fresh⟩, ⟨[.sl [] 0 .nil, (I6 0), (I6 0), (B6 false)], 4, .fresh⟩]⟩ ?_)
  refine AWP.reg (RT 2 ?_)
  refine KL [17] ⟨[U6, (S6 s), .sl (u8s d) (List.length d) .any, .ptr 0 0, U6, U6, .ptr 1 0, (I6 0), (I6 0)] ++ UU 9 ++ [(B6 false)] ++ UU 49, [⟨[.sl (fisc l) (List.length l) .any, (I6 room), (I6 arm), (B6 dead)], 4, .fresh⟩, ⟨[.sl [] 0 .nil, (I6 0), (I6 0), (B6 false)], 4, .fresh⟩]⟩ ?_
  refine CN false (fun h => nomatch h) (fun _ => ?_)
  refine AWP.skip (SQ (RI (4 ≤ 4 ∧ True ∧ True ∧ True ∧ True) ⟨(by omega), trivial, trivial, trivial, trivial⟩ ?_))
  refine AWP.seq (KL [8, 18, 21, 22, 23] ⟨[U6, (S6 s), .sl (u8s d) (List.length d) .any, .ptr 0 0, U6, U6, .ptr 1 0, (I6 0), U6, .ptr 2 0] ++ UU 58, [⟨[.sl (fisc l) (List.length l) .any, (I6 room), (I6 arm), (B6 dead)], 4, .fresh⟩, ⟨[.sl [] 0 .nil, (I6 0), (I6 0), (B6 false)], 4, .fresh⟩, ⟨[.sl (fisc l) (List.length l) .any, (I6 room), (I6 arm), (B6 dead)], 4, .fresh⟩]⟩ ?_)
  refine AWP.reg (RI (True ∧ True ∧ True ∧ 3 ≤ 3 ∧ True) ⟨trivial, trivial, trivial, (by omega), trivial⟩ ?_)
  refine AWP.seq (AWP.seq (KL [24, 25] ⟨[U6, (S6 s), .sl (u8s d) (List.length d) .any, .ptr 0 0, U6, U6, .ptr 1 0, (I6 0), U6, .ptr 2 0, .ptr 3 0] ++ UU 57, [⟨[.sl (fisc l) (List.length l) .any, (I6 room), (I6 arm), (B6 dead)], 4, .fresh⟩, ⟨[.sl [] 0 .nil, (I6 0), (I6 0), (B6 false)], 4, .fresh⟩, ⟨[.sl (fisc l) (List.length l) .any, (I6 room), (I6 arm), (B6 dead)], 4, .fresh⟩, ⟨[(S6 s), .sl [] 0 .nil, (I6 0)], 3, .fresh⟩]⟩ ?_))
  refine AWP.reg (PT 2 2 ?_)
  refine DerQ.callK (p1) 2 [.ptr 2 0, (S6 s)] ⟨[U6, (S6 s), .sl (u8s d) (List.length d) .any, .ptr 0 0, U6, U6, .ptr 1 0, (I6 0), U6, .ptr 2 0, .ptr 3 0] ++ UU 16 ++ [.ptr 2 0, (S6 s), .tup [(I6 (↑(low l s) : Int)), (B6 (decide (has l s)))]] ++ UU 38, [⟨[.sl (fisc l) (List.length l) .any, (I6 room), (I6 arm), (B6 dead)], 4, .fresh⟩, ⟨[.sl [] 0 .nil, (I6 0), (I6 0), (B6 false)], 4, .fresh⟩, ⟨[.sl (fisc l) (List.length l) .any, (I6 room), (I6 arm), (B6 dead)], 4, .fresh⟩, ⟨[(S6 s), .sl [] 0 .nil, (I6 0)], 3, .fresh⟩]⟩ ⟨by kernel_rfl, by kernel_rfl, by kernel_rfl, by kernel_rfl, by kernel_rfl⟩ ?_
  refine RT 5 ?_
  refine AWP.seq (KL (NN 26 6) ⟨[U6, (S6 s), .sl (u8s d) (List.length d) .any, .ptr 0 0, U6, U6, .ptr 1 0, (I6 0), U6, .ptr 2 0, .ptr 3 0, (I6 (↑(low l s) : Int)), (B6 (decide (has l s)))] ++ UU 55, [⟨[.sl (fisc l) (List.length l) .any, (I6 room), (I6 arm), (B6 dead)], 4, .fresh⟩, ⟨[.sl [] 0 .nil, (I6 0), (I6 0), (B6 false)], 4, .fresh⟩, ⟨[.sl (fisc l) (List.length l) .any, (I6 room), (I6 arm), (B6 dead)], 4, .fresh⟩, ⟨[(S6 s), .sl [] 0 .nil, (I6 0)], 3, .fresh⟩]⟩ ?_)
  refine AWP.reg (RT 1 ?_)
  refine KL [12] ⟨[U6, (S6 s), .sl (u8s d) (List.length d) .any, .ptr 0 0, U6, U6, .ptr 1 0, (I6 0), U6, .ptr 2 0, .ptr 3 0, (I6 (↑(low l s) : Int))] ++ UU 20 ++ [(B6 (decide (has l s)))] ++ UU 35, [⟨[.sl (fisc l) (List.length l) .any, (I6 room), (I6 arm), (B6 dead)], 4, .fresh⟩, ⟨[.sl [] 0 .nil, (I6 0), (I6 0), (B6 false)], 4, .fresh⟩, ⟨[.sl (fisc l) (List.length l) .any, (I6 room), (I6 arm), (B6 dead)], 4, .fresh⟩, ⟨[(S6 s), .sl [] 0 .nil, (I6 0)], 3, .fresh⟩]⟩ ?_
  refine CN (decide (has l s)) (fun h1 => ?_) (fun h1 => ?_)
  · have h1' := of_decide_eq_true h1
    refine AWP.reg ?_
    refine DerQ.pre 8 (True ∧ True ∧ True ∧ True ∧ 0 < 4 ∧ True ∧ (((0 ≤ (↑(low l s) : Int)) ∧ ((↑(low l s) : Int) < (↑(List.length l) : Int))) ∧ (Int.toNat (↑(low l s) : Int) * 3 + 3 ≤ List.length (fisc l))) ∧ 3 ≤ 3 ∧ True) ⟨[U6, (S6 s), .sl (u8s d) (List.length d) .any, .ptr 0 0, U6, U6, .ptr 1 0, (I6 0), U6, .ptr 2 0, .ptr 3 0, (I6 (↑(low l s) : Int))] ++ UU 20 ++ [(B6 (decide (has l s))), .ptr 2 0, .ptr 2 0, .ptr 2 0, .ptr 2 0, .sl (fisc l) (List.length l) .any, (I6 (↑(low l s) : Int)), .dptr [List.getD (fisc l) (Int.toNat (↑(low l s) : Int) * 3 + 0) U6, List.getD (fisc l) (Int.toNat (↑(low l s) : Int) * 3 + 1) U6, List.getD (fisc l) (Int.toNat (↑(low l s) : Int) * 3 + 2) AVal.undef], .agg [List.getD (fisc l) (Int.toNat (↑(low l s) : Int) * 3 + 0) U6, List.getD (fisc l) (Int.toNat (↑(low l s) : Int) * 3 + 1) U6, List.getD (fisc l) (Int.toNat (↑(low l s) : Int) * 3 + 2) AVal.undef]] ++ UU 27, [⟨[.sl (fisc l) (List.length l) .any, (I6 room), (I6 arm), (B6 dead)], 4, .fresh⟩, ⟨[.sl [] 0 .nil, (I6 0), (I6 0), (B6 false)], 4, .fresh⟩, ⟨[.sl (fisc l) (List.length l) .any, (I6 room), (I6 arm), (B6 dead)], 4, .fresh⟩, ⟨[(S6 s), .sl [] 0 .nil, (I6 0)], 3, .fresh⟩]⟩ (by kernel_rfl) ⟨trivial, trivial, trivial, trivial, (by omega), trivial, ⟨⟨(by omega), (by omega)⟩, (by (simp [spliceA_length] <;> omega))⟩, (by omega), trivial⟩ ?_
    rw [Int.toNat_natCast (low l s)]
    rw [Nat.add_zero (low l s * 3)]
    rw [Go.Dk.fi_cells (l) (low l s) (by omega)]
    refine DerQ.run (3 ≤ 3 ∧ True) ⟨[U6, (S6 s), .sl (u8s d) (List.length d) .any, .ptr 0 0, U6, U6, .ptr 1 0, (I6 0), U6, .ptr 2 0, .ptr 3 0, (I6 (↑(low l s) : Int))] ++ UU 20 ++ [(B6 (decide (has l s))), .ptr 2 0, .ptr 2 0, .ptr 2 0, .ptr 2 0, .sl (fisc l) (List.length l) .any, (I6 (↑(low l s) : Int)), .dptr [(S6 ((List.getD l (low l s) fi0).nm)), .sl (u8s (List.getD l (low l s) fi0).d) (List.length (List.getD l (low l s) fi0).d) .any, (I6 ((List.getD l (low l s) fi0).sf))], .agg [(S6 ((List.getD l (low l s) fi0).nm)), .sl (u8s (List.getD l (low l s) fi0).d) (List.length (List.getD l (low l s) fi0).d) .any, (I6 ((List.getD l (low l s) fi0).sf))]] ++ UU 27, [⟨[.sl (fisc l) (List.length l) .any, (I6 room), (I6 arm), (B6 dead)], 4, .fresh⟩, ⟨[.sl [] 0 .nil, (I6 0), (I6 0), (B6 false)], 4, .fresh⟩, ⟨[.sl (fisc l) (List.length l) .any, (I6 room), (I6 arm), (B6 dead)], 4, .fresh⟩, ⟨[(S6 ((List.getD l (low l s) fi0).nm)), .sl (u8s (List.getD l (low l s) fi0).d) (List.length (List.getD l (low l s) fi0).d) .any, (I6 ((List.getD l (low l s) fi0).sf))], 3, .fresh⟩]⟩ (by kernel_rfl) ⟨(by omega), trivial⟩ ?_
    rw [Go.Dk.fi_nm (l) (s) (by omega)]
    refine AWP.seq (AWP.seq (KL ([11] ++ NN 32 9) ⟨[U6, (S6 s), .sl (u8s d) (List.length d) .any, .ptr 0 0, U6, U6, .ptr 1 0, (I6 0), U6, .ptr 2 0, .ptr 3 0] ++ UU 57, [⟨[.sl (fisc l) (List.length l) .any, (I6 room), (I6 arm), (B6 dead)], 4, .fresh⟩, ⟨[.sl [] 0 .nil, (I6 0), (I6 0), (B6 false)], 4, .fresh⟩, ⟨[.sl (fisc l) (List.length l) .any, (I6 room), (I6 arm), (B6 dead)], 4, .fresh⟩, ⟨[(S6 s), .sl (u8s (List.getD l (low l s) fi0).d) (List.length (List.getD l (low l s) fi0).d) .any, (I6 ((List.getD l (low l s) fi0).sf))], 3, .fresh⟩]⟩ ?_))
    refine AWP.reg ?_
    refine DerQ.pre 8 (True ∧ True ∧ True ∧ 1 < 3 ∧ True ∧ True ∧ True ∧ True ∧ True) ⟨[U6, (S6 s), .sl (u8s d) (List.length d) .any, .ptr 0 0, U6, U6, .ptr 1 0, (I6 0), U6, .ptr 2 0, .ptr 3 0] ++ UU 30 ++ [.ptr 2 0, (S6 s), .ptr 3 1, .sl (u8s (List.getD l (low l s) fi0).d) (List.length (List.getD l (low l s) fi0).d) .any, (I6 (↑(List.length (List.getD l (low l s) fi0).d) : Int)), .sl (u8s d) (List.length d) .any, (I6 (↑(List.length d) : Int)), (I6 (IntKind.wrap IntKind.i64 ((↑(List.length (List.getD l (low l s) fi0).d) : Int) + (↑(List.length d) : Int))))] ++ UU 19, [⟨[.sl (fisc l) (List.length l) .any, (I6 room), (I6 arm), (B6 dead)], 4, .fresh⟩, ⟨[.sl [] 0 .nil, (I6 0), (I6 0), (B6 false)], 4, .fresh⟩, ⟨[.sl (fisc l) (List.length l) .any, (I6 room), (I6 arm), (B6 dead)], 4, .fresh⟩, ⟨[(S6 s), .sl (u8s (List.getD l (low l s) fi0).d) (List.length (List.getD l (low l s) fi0).d) .any, (I6 ((List.getD l (low l s) fi0).sf))], 3, .fresh⟩]⟩ (by kernel_rfl) ⟨trivial, trivial, trivial, (by omega), trivial, trivial, trivial, trivial, trivial⟩ ?_
    rw [IntWalk.i64_in ((↑(List.length (List.getD l (low l s) fi0).d) : Int) + (↑(List.length d) : Int)) (by omega)]
    refine DerQ.callK (r1) 2 [.ptr 2 0, (S6 s), (I6 ((↑(List.length (List.getD l (low l s) fi0).d) : Int) + (↑(List.length d) : Int)))] ⟨[U6, (S6 s), .sl (u8s d) (List.length d) .any, .ptr 0 0, U6, U6, .ptr 1 0, (I6 0), U6, .ptr 2 0, .ptr 3 0] ++ UU 30 ++ [.ptr 2 0, (S6 s), .ptr 3 1, .sl (u8s (List.getD l (low l s) fi0).d) (List.length (List.getD l (low l s) fi0).d) .any, (I6 (↑(List.length (List.getD l (low l s) fi0).d) : Int)), .sl (u8s d) (List.length d) .any, (I6 (↑(List.length d) : Int)), (I6 ((↑(List.length (List.getD l (low l s) fi0).d) : Int) + (↑(List.length d) : Int))), (B6 true)] ++ UU 18, [⟨[.sl (fisc l) (List.length l) .any, (I6 room), (I6 arm), (B6 dead)], 4, .fresh⟩, ⟨[.sl [] 0 .nil, (I6 0), (I6 0), (B6 false)], 4, .fresh⟩, ⟨[.sl (fisc l) (List.length l) .any, (I6 room), (I6 arm), (B6 dead)], 4, .fresh⟩, ⟨[(S6 s), .sl (u8s (List.getD l (low l s) fi0).d) (List.length (List.getD l (low l s) fi0).d) .any, (I6 ((List.getD l (low l s) fi0).sf))], 3, .fresh⟩]⟩ ⟨by kernel_rfl, by kernel_rfl, by kernel_rfl, by kernel_rfl, by kernel_rfl⟩ ?_
    refine RT 1 ?_
    refine KL ([1] ++ NN 41 9) ⟨[U6, U6, .sl (u8s d) (List.length d) .any, .ptr 0 0, U6, U6, .ptr 1 0, (I6 0), U6, .ptr 2 0, .ptr 3 0] ++ UU 39 ++ [(B6 false)] ++ UU 17, [⟨[.sl (fisc l) (List.length l) .any, (I6 room), (I6 arm), (B6 dead)], 4, .fresh⟩, ⟨[.sl [] 0 .nil, (I6 0), (I6 0), (B6 false)], 4, .fresh⟩, ⟨[.sl (fisc l) (List.length l) .any, (I6 room), (I6 arm), (B6 dead)], 4, .fresh⟩, ⟨[(S6 s), .sl (u8s (List.getD l (low l s) fi0).d) (List.length (List.getD l (low l s) fi0).d) .any, (I6 ((List.getD l (low l s) fi0).sf))], 3, .fresh⟩]⟩ ?_
    refine CN false (fun h => nomatch h) (fun _ => ?_)
    refine AWP.skip (SQ (PI 4 (True ∧ 1 < 3 ∧ True ∧ True ∧ True) ⟨trivial, (by omega), trivial, trivial, trivial⟩ ?_))
    refine DerQ.callEI (q1) ⟨by kernel_rfl, by kernel_rfl⟩ ?_
    refine RI (True ∧ 2 ≤ 3 ∧ True) ⟨trivial, (by omega), trivial⟩ ?_
    refine AWP.seq (KL ([2, 3, 50] ++ NN 52 6) ⟨[.undef] ++ UU 5 ++ [.ptr 1 0, (I6 0), U6, .ptr 2 0, .ptr 3 0] ++ UU 57, [⟨[.sl (fisc l) (List.length l) .any, (I6 room), (I6 arm), (B6 dead)], 4, .fresh⟩, ⟨[.sl [] 0 .nil, (I6 0), (I6 0), (B6 false)], 4, .fresh⟩, ⟨[.sl (fisc l) (List.length l) .any, (I6 room), (I6 arm), (B6 dead)], 4, .fresh⟩, ⟨[(S6 s), .sl (u8s ((List.getD l (low l s) fi0).d ++ d)) (List.length ((List.getD l (low l s) fi0).d ++ d)) .any, (I6 ((List.getD l (low l s) fi0).sf))], 3, .fresh⟩]⟩ ?_)
    refine AWP.reg (PT 1 1 ?_)
    refine DerQ.callK (n1) 2 [.ptr 2 0, .fn 80 []] ⟨[.undef] ++ UU 5 ++ [.ptr 1 0, (I6 0), U6, .ptr 2 0, .ptr 3 0] ++ UU 47 ++ [.ptr 2 0, (I6 0)] ++ UU 8, [⟨[.sl (fisc l) (List.length l) .any, (I6 room), (I6 arm), (B6 dead)], 4, .fresh⟩, ⟨[.sl [] 0 .nil, (I6 0), (I6 0), (B6 false)], 4, .fresh⟩, ⟨[.sl (fisc l) (List.length l) .any, (I6 room), (I6 (armN arm)), (B6 dead)], 4, .fresh⟩, ⟨[(S6 s), .sl (u8s ((List.getD l (low l s) fi0).d ++ d)) (List.length ((List.getD l (low l s) fi0).d ++ d)) .any, (I6 ((List.getD l (low l s) fi0).sf))], 3, .fresh⟩]⟩ ⟨by kernel_rfl, by kernel_rfl, by kernel_rfl, by kernel_rfl, by kernel_rfl⟩ ?_
    refine RT 1 ?_
    refine AWP.seq (KL [58, 59] ⟨[.undef] ++ UU 5 ++ [.ptr 1 0, (I6 0), U6, .ptr 2 0, .ptr 3 0, U6, U6, (I6 0)] ++ UU 54, [⟨[.sl (fisc l) (List.length l) .any, (I6 room), (I6 arm), (B6 dead)], 4, .fresh⟩, ⟨[.sl [] 0 .nil, (I6 0), (I6 0), (B6 false)], 4, .fresh⟩, ⟨[.sl (fisc l) (List.length l) .any, (I6 room), (I6 (armN arm)), (B6 dead)], 4, .fresh⟩, ⟨[(S6 s), .sl (u8s ((List.getD l (low l s) fi0).d ++ d)) (List.length ((List.getD l (low l s) fi0).d ++ d)) .any, (I6 ((List.getD l (low l s) fi0).sf))], 3, .fresh⟩]⟩ ?_)
    refine AWP.reg (PI 2 (True ∧ 3 ≤ 3 ∧ True) ⟨trivial, (by omega), trivial⟩ ?_)
    refine DerQ.callK (s1) 2 [.ptr 2 0, .agg [(S6 s), .sl (u8s ((List.getD l (low l s) fi0).d ++ d)) (List.length ((List.getD l (low l s) fi0).d ++ d)) .any, (I6 ((List.getD l (low l s) fi0).sf))]] ⟨[.undef] ++ UU 5 ++ [.ptr 1 0, (I6 0), U6, .ptr 2 0, .ptr 3 0, U6, U6, (I6 0)] ++ UU 46 ++ [.ptr 2 0, .agg [(S6 s), .sl (u8s ((List.getD l (low l s) fi0).d ++ d)) (List.length ((List.getD l (low l s) fi0).d ++ d)) .any, (I6 ((List.getD l (low l s) fi0).sf))], .tup []] ++ UU 5, [⟨[.sl (fisc l) (List.length l) .any, (I6 room), (I6 arm), (B6 dead)], 4, .fresh⟩, ⟨[.sl [] 0 .nil, (I6 0), (I6 0), (B6 false)], 4, .fresh⟩, ⟨[.sl (fisc (putL l { nm := s, d := (List.getD l (low l s) fi0).d ++ d, sf := (List.getD l (low l s) fi0).sf })) (List.length (putL l { nm := s, d := (List.getD l (low l s) fi0).d ++ d, sf := (List.getD l (low l s) fi0).sf })) .any, (I6 room), (I6 (armN arm)), (B6 dead)], 4, .fresh⟩, ⟨[(S6 s), .sl (u8s ((List.getD l (low l s) fi0).d ++ d)) (List.length ((List.getD l (low l s) fi0).d ++ d)) .any, (I6 ((List.getD l (low l s) fi0).sf))], 3, .fresh⟩]⟩ ⟨by kernel_rfl, by kernel_rfl, by kernel_rfl, by kernel_rfl, by kernel_rfl⟩ ?_
    refine DerQ.nil ?_
    refine AWP.seq (KL [10, 60, 61, 62] ⟨[.undef] ++ UU 5 ++ [.ptr 1 0, (I6 0), U6, .ptr 2 0, U6, U6, U6, (I6 0)] ++ UU 54, [⟨[.sl (fisc l) (List.length l) .any, (I6 room), (I6 arm), (B6 dead)], 4, .fresh⟩, ⟨[.sl [] 0 .nil, (I6 0), (I6 0), (B6 false)], 4, .fresh⟩, ⟨[.sl (fisc (putL l { nm := s, d := (List.getD l (low l s) fi0).d ++ d, sf := (List.getD l (low l s) fi0).sf })) (List.length (putL l { nm := s, d := (List.getD l (low l s) fi0).d ++ d, sf := (List.getD l (low l s) fi0).sf })) .any, (I6 room), (I6 (armN arm)), (B6 dead)], 4, .fresh⟩, ⟨[(S6 s), .sl (u8s ((List.getD l (low l s) fi0).d ++ d)) (List.length ((List.getD l (low l s) fi0).d ++ d)) .any, (I6 ((List.getD l (low l s) fi0).sf))], 3, .fresh⟩]⟩ ?_)
    refine AWP.reg (RI (True ∧ True ∧ True ∧ 4 ≤ 4 ∧ True ∧ 4 ≤ 4 ∧ True ∧ True) ⟨trivial, trivial, trivial, (by omega), trivial, (by omega), trivial, trivial⟩ ?_)
    refine AWP.ret FA
  · have h1' := of_decide_eq_false h1
    (exfalso; exact absurd hh (by assumption); done)
theorem app_ok_n (l : List FileD) (room arm : Int) (dead : Bool) (hx : l.length ≤ 1000000) (s : ByteArray) (d : List Int) (hd : d.length ≤ 900000) (ho : okD room arm l) (he : askE room arm dead l s = 0) (hh : ¬ has l s) (hp : roomP room l s ((d.length : Int))) (ha : -1 ≤ arm ∧ arm ≤ 9223372036854775807) (h0 : arm ≠ 0) : EvD Try.prog 62 [.agg [.sl (fisc l) l.length .any, .sc (.int .i64 room), .sc (.int .i64 arm), .sc (.bool dead)], .sc (.string s), .sl (u8s d) d.length .any] (.tup [.agg [.sl (fisc (putL l ⟨s, d, 0⟩)) (putL l ⟨s, d, 0⟩).length .any, .sc (.int .i64 room), .sc (.int .i64 (armN arm)), .sc (.bool dead)], .sc (.int .i64 0)]) := by
  have a1 : EvD Try.prog 67 [.agg [.sl (fisc l) l.length .any, .sc (.int .i64 room), .sc (.int .i64 arm), .sc (.bool dead)], .sc (.string s)] (.sc (.int .i64 0)) := by have := asked l room arm dead hx s; rwa [he] at this
  have p1 := place l room arm dead (okD_srt ho) (by have := ho.2.2.2.1; omega) s
  have r1 : EvK Try.prog 68 [.ptr 0 0, .sc (.string s), .sc (.int .i64 (0 + (d.length : Int)))] ⟨[.sl (fisc l) l.length .any, .sc (.int .i64 room), .sc (.int .i64 arm), .sc (.bool dead)], 4, .fresh⟩ (.sc (.bool true)) ⟨[.sl (fisc l) l.length .any, .sc (.int .i64 room), .sc (.int .i64 arm), .sc (.bool dead)], 4, .fresh⟩ := by
    rw [Int.zero_add]
    have := room_ l room arm dead (okD_srt ho) (by have := ho.2.2.2.1; omega) (by have := okD_used ho; have := ho.2.1; omega) ⟨ho.1, ho.2.1⟩ s (((d.length : Int))) (by omega)
    rwa [decide_eq_true hp] at this
  have n1 := done80 l room arm dead ha h0
  have q1 : EvD Try.prog 79 [.sl [.sl [] 0 .nil, .sl (u8s d) d.length .any] 2 .any] (.sl (u8s d) d.length .any) := concat0 d (by omega)
  have s1 := set_ l room (armN arm) dead (okD_srt ho) (by have := ho.2.2.2.1; omega) ⟨s, d, 0⟩
  refine EvD.body Try.func62 rfl (by simp [dataAll, AVal.data]) (by simp [dataAll, AVal.data]) ?_
  refine AWP.seq ?_
  refine TO ⟨[.agg [.sl (fisc l) (List.length l) .any, (I6 room), (I6 arm), (B6 dead)], (S6 s), .sl (u8s d) (List.length d) .any] ++ UU 65, []⟩ ?_
  refine AWP.reg (RT 3 ?_)
  refine AWP.seq (AWP.seq (KL [0] ⟨[U6, (S6 s), .sl (u8s d) (List.length d) .any, .ptr 0 0, U6, U6, .ptr 1 0, (I6 0)] ++ UU 60, [⟨[.sl (fisc l) (List.length l) .any, (I6 room), (I6 arm), (B6 dead)], 4, .fresh⟩, ⟨[.sl [] 0 .nil, (I6 0), (I6 0), (B6 false)], 4, .fresh⟩]⟩ ?_))
  refine AWP.reg (PI 2 (4 ≤ 4 ∧ True ∧ True) ⟨(by omega), trivial, trivial⟩ ?_)
  refine CD (a1) ?_
  refine RT 1 ?_
  refine AWP.seq (KL [14, 15, 16] ⟨[U6, (S6 s), .sl (u8s d) (List.length d) .any, .ptr 0 0, U6, U6, .ptr 1 0, (I6 0), (I6 0)] ++ UU 59, [⟨[.sl (fisc l) (List.length l) .any, (I6 room), (I6 arm), (B6 dead)], 4, .fresh⟩, ⟨[.sl [] 0 .nil, (I6 0), (I6 0), (B6 false)], 4, .fresh⟩]⟩ ?_)
  refine AWP.reg (RT 2 ?_)
  refine KL [17] ⟨[U6, (S6 s), .sl (u8s d) (List.length d) .any, .ptr 0 0, U6, U6, .ptr 1 0, (I6 0), (I6 0)] ++ UU 9 ++ [(B6 false)] ++ UU 49, [⟨[.sl (fisc l) (List.length l) .any, (I6 room), (I6 arm), (B6 dead)], 4, .fresh⟩, ⟨[.sl [] 0 .nil, (I6 0), (I6 0), (B6 false)], 4, .fresh⟩]⟩ ?_
  refine CN false (fun h => nomatch h) (fun _ => ?_)
  refine AWP.skip (SQ (RI (4 ≤ 4 ∧ True ∧ True ∧ True ∧ True) ⟨(by omega), trivial, trivial, trivial, trivial⟩ ?_))
  refine AWP.seq (KL [8, 18, 21, 22, 23] ⟨[U6, (S6 s), .sl (u8s d) (List.length d) .any, .ptr 0 0, U6, U6, .ptr 1 0, (I6 0), U6, .ptr 2 0] ++ UU 58, [⟨[.sl (fisc l) (List.length l) .any, (I6 room), (I6 arm), (B6 dead)], 4, .fresh⟩, ⟨[.sl [] 0 .nil, (I6 0), (I6 0), (B6 false)], 4, .fresh⟩, ⟨[.sl (fisc l) (List.length l) .any, (I6 room), (I6 arm), (B6 dead)], 4, .fresh⟩]⟩ ?_)
  refine AWP.reg (RI (True ∧ True ∧ True ∧ 3 ≤ 3 ∧ True) ⟨trivial, trivial, trivial, (by omega), trivial⟩ ?_)
  refine AWP.seq (AWP.seq (KL [24, 25] ⟨[U6, (S6 s), .sl (u8s d) (List.length d) .any, .ptr 0 0, U6, U6, .ptr 1 0, (I6 0), U6, .ptr 2 0, .ptr 3 0] ++ UU 57, [⟨[.sl (fisc l) (List.length l) .any, (I6 room), (I6 arm), (B6 dead)], 4, .fresh⟩, ⟨[.sl [] 0 .nil, (I6 0), (I6 0), (B6 false)], 4, .fresh⟩, ⟨[.sl (fisc l) (List.length l) .any, (I6 room), (I6 arm), (B6 dead)], 4, .fresh⟩, ⟨[(S6 s), .sl [] 0 .nil, (I6 0)], 3, .fresh⟩]⟩ ?_))
  refine AWP.reg (PT 2 2 ?_)
  refine DerQ.callK (p1) 2 [.ptr 2 0, (S6 s)] ⟨[U6, (S6 s), .sl (u8s d) (List.length d) .any, .ptr 0 0, U6, U6, .ptr 1 0, (I6 0), U6, .ptr 2 0, .ptr 3 0] ++ UU 16 ++ [.ptr 2 0, (S6 s), .tup [(I6 (↑(low l s) : Int)), (B6 (decide (has l s)))]] ++ UU 38, [⟨[.sl (fisc l) (List.length l) .any, (I6 room), (I6 arm), (B6 dead)], 4, .fresh⟩, ⟨[.sl [] 0 .nil, (I6 0), (I6 0), (B6 false)], 4, .fresh⟩, ⟨[.sl (fisc l) (List.length l) .any, (I6 room), (I6 arm), (B6 dead)], 4, .fresh⟩, ⟨[(S6 s), .sl [] 0 .nil, (I6 0)], 3, .fresh⟩]⟩ ⟨by kernel_rfl, by kernel_rfl, by kernel_rfl, by kernel_rfl, by kernel_rfl⟩ ?_
  refine RT 5 ?_
  refine AWP.seq (KL (NN 26 6) ⟨[U6, (S6 s), .sl (u8s d) (List.length d) .any, .ptr 0 0, U6, U6, .ptr 1 0, (I6 0), U6, .ptr 2 0, .ptr 3 0, (I6 (↑(low l s) : Int)), (B6 (decide (has l s)))] ++ UU 55, [⟨[.sl (fisc l) (List.length l) .any, (I6 room), (I6 arm), (B6 dead)], 4, .fresh⟩, ⟨[.sl [] 0 .nil, (I6 0), (I6 0), (B6 false)], 4, .fresh⟩, ⟨[.sl (fisc l) (List.length l) .any, (I6 room), (I6 arm), (B6 dead)], 4, .fresh⟩, ⟨[(S6 s), .sl [] 0 .nil, (I6 0)], 3, .fresh⟩]⟩ ?_)
  refine AWP.reg (RT 1 ?_)
  refine KL [12] ⟨[U6, (S6 s), .sl (u8s d) (List.length d) .any, .ptr 0 0, U6, U6, .ptr 1 0, (I6 0), U6, .ptr 2 0, .ptr 3 0, (I6 (↑(low l s) : Int))] ++ UU 20 ++ [(B6 (decide (has l s)))] ++ UU 35, [⟨[.sl (fisc l) (List.length l) .any, (I6 room), (I6 arm), (B6 dead)], 4, .fresh⟩, ⟨[.sl [] 0 .nil, (I6 0), (I6 0), (B6 false)], 4, .fresh⟩, ⟨[.sl (fisc l) (List.length l) .any, (I6 room), (I6 arm), (B6 dead)], 4, .fresh⟩, ⟨[(S6 s), .sl [] 0 .nil, (I6 0)], 3, .fresh⟩]⟩ ?_
  refine CN (decide (has l s)) (fun h1 => ?_) (fun h1 => ?_)
  · have h1' := of_decide_eq_true h1
    (exfalso; exact absurd (by assumption) hh; done)
  · have h1' := of_decide_eq_false h1
    refine AWP.skip (AWP.seq (SQ ?_))
    refine DerQ.pre 8 (True ∧ True ∧ True ∧ 1 < 3 ∧ True ∧ True ∧ True ∧ True ∧ True) ⟨[U6, (S6 s), .sl (u8s d) (List.length d) .any, .ptr 0 0, U6, U6, .ptr 1 0, (I6 0), U6, .ptr 2 0, .ptr 3 0, (I6 (↑(low l s) : Int))] ++ UU 20 ++ [(B6 (decide (has l s)))] ++ UU 8 ++ [.ptr 2 0, (S6 s), .ptr 3 1, .sl [] 0 .nil, (I6 0), .sl (u8s d) (List.length d) .any, (I6 (↑(List.length d) : Int)), (I6 (IntKind.wrap IntKind.i64 (0 + (↑(List.length d) : Int))))] ++ UU 19, [⟨[.sl (fisc l) (List.length l) .any, (I6 room), (I6 arm), (B6 dead)], 4, .fresh⟩, ⟨[.sl [] 0 .nil, (I6 0), (I6 0), (B6 false)], 4, .fresh⟩, ⟨[.sl (fisc l) (List.length l) .any, (I6 room), (I6 arm), (B6 dead)], 4, .fresh⟩, ⟨[(S6 s), .sl [] 0 .nil, (I6 0)], 3, .fresh⟩]⟩ (by kernel_rfl) ⟨trivial, trivial, trivial, (by omega), trivial, trivial, trivial, trivial, trivial⟩ ?_
    rw [IntWalk.i64_in (0 + (↑(List.length d) : Int)) (by omega)]
    refine DerQ.callK (r1) 2 [.ptr 2 0, (S6 s), (I6 (0 + (↑(List.length d) : Int)))] ⟨[U6, (S6 s), .sl (u8s d) (List.length d) .any, .ptr 0 0, U6, U6, .ptr 1 0, (I6 0), U6, .ptr 2 0, .ptr 3 0, (I6 (↑(low l s) : Int))] ++ UU 20 ++ [(B6 (decide (has l s)))] ++ UU 8 ++ [.ptr 2 0, (S6 s), .ptr 3 1, .sl [] 0 .nil, (I6 0), .sl (u8s d) (List.length d) .any, (I6 (↑(List.length d) : Int)), (I6 (0 + (↑(List.length d) : Int))), (B6 true)] ++ UU 18, [⟨[.sl (fisc l) (List.length l) .any, (I6 room), (I6 arm), (B6 dead)], 4, .fresh⟩, ⟨[.sl [] 0 .nil, (I6 0), (I6 0), (B6 false)], 4, .fresh⟩, ⟨[.sl (fisc l) (List.length l) .any, (I6 room), (I6 arm), (B6 dead)], 4, .fresh⟩, ⟨[(S6 s), .sl [] 0 .nil, (I6 0)], 3, .fresh⟩]⟩ ⟨by kernel_rfl, by kernel_rfl, by kernel_rfl, by kernel_rfl, by kernel_rfl⟩ ?_
    refine RT 1 ?_
    refine KL ([1, 11, 32] ++ NN 41 9) ⟨[U6, U6, .sl (u8s d) (List.length d) .any, .ptr 0 0, U6, U6, .ptr 1 0, (I6 0), U6, .ptr 2 0, .ptr 3 0] ++ UU 39 ++ [(B6 false)] ++ UU 17, [⟨[.sl (fisc l) (List.length l) .any, (I6 room), (I6 arm), (B6 dead)], 4, .fresh⟩, ⟨[.sl [] 0 .nil, (I6 0), (I6 0), (B6 false)], 4, .fresh⟩, ⟨[.sl (fisc l) (List.length l) .any, (I6 room), (I6 arm), (B6 dead)], 4, .fresh⟩, ⟨[(S6 s), .sl [] 0 .nil, (I6 0)], 3, .fresh⟩]⟩ ?_
    refine CN false (fun h => nomatch h) (fun _ => ?_)
    refine AWP.skip (SQ (PI 4 (True ∧ 1 < 3 ∧ True ∧ True ∧ True) ⟨trivial, (by omega), trivial, trivial, trivial⟩ ?_))
    refine DerQ.callEI (q1) ⟨by kernel_rfl, by kernel_rfl⟩ ?_
    refine RI (True ∧ 2 ≤ 3 ∧ True) ⟨trivial, (by omega), trivial⟩ ?_
    refine AWP.seq (KL ([2, 3, 50] ++ NN 52 6) ⟨[.undef] ++ UU 5 ++ [.ptr 1 0, (I6 0), U6, .ptr 2 0, .ptr 3 0] ++ UU 57, [⟨[.sl (fisc l) (List.length l) .any, (I6 room), (I6 arm), (B6 dead)], 4, .fresh⟩, ⟨[.sl [] 0 .nil, (I6 0), (I6 0), (B6 false)], 4, .fresh⟩, ⟨[.sl (fisc l) (List.length l) .any, (I6 room), (I6 arm), (B6 dead)], 4, .fresh⟩, ⟨[(S6 s), .sl (u8s d) (List.length d) .any, (I6 0)], 3, .fresh⟩]⟩ ?_)
    refine AWP.reg (PT 1 1 ?_)
    refine DerQ.callK (n1) 2 [.ptr 2 0, .fn 80 []] ⟨[.undef] ++ UU 5 ++ [.ptr 1 0, (I6 0), U6, .ptr 2 0, .ptr 3 0] ++ UU 47 ++ [.ptr 2 0, (I6 0)] ++ UU 8, [⟨[.sl (fisc l) (List.length l) .any, (I6 room), (I6 arm), (B6 dead)], 4, .fresh⟩, ⟨[.sl [] 0 .nil, (I6 0), (I6 0), (B6 false)], 4, .fresh⟩, ⟨[.sl (fisc l) (List.length l) .any, (I6 room), (I6 (armN arm)), (B6 dead)], 4, .fresh⟩, ⟨[(S6 s), .sl (u8s d) (List.length d) .any, (I6 0)], 3, .fresh⟩]⟩ ⟨by kernel_rfl, by kernel_rfl, by kernel_rfl, by kernel_rfl, by kernel_rfl⟩ ?_
    refine RT 1 ?_
    refine AWP.seq (KL [58, 59] ⟨[.undef] ++ UU 5 ++ [.ptr 1 0, (I6 0), U6, .ptr 2 0, .ptr 3 0, U6, U6, (I6 0)] ++ UU 54, [⟨[.sl (fisc l) (List.length l) .any, (I6 room), (I6 arm), (B6 dead)], 4, .fresh⟩, ⟨[.sl [] 0 .nil, (I6 0), (I6 0), (B6 false)], 4, .fresh⟩, ⟨[.sl (fisc l) (List.length l) .any, (I6 room), (I6 (armN arm)), (B6 dead)], 4, .fresh⟩, ⟨[(S6 s), .sl (u8s d) (List.length d) .any, (I6 0)], 3, .fresh⟩]⟩ ?_)
    refine AWP.reg (PI 2 (True ∧ 3 ≤ 3 ∧ True) ⟨trivial, (by omega), trivial⟩ ?_)
    refine DerQ.callK (s1) 2 [.ptr 2 0, .agg [(S6 s), .sl (u8s d) (List.length d) .any, (I6 0)]] ⟨[.undef] ++ UU 5 ++ [.ptr 1 0, (I6 0), U6, .ptr 2 0, .ptr 3 0, U6, U6, (I6 0)] ++ UU 46 ++ [.ptr 2 0, .agg [(S6 s), .sl (u8s d) (List.length d) .any, (I6 0)], .tup []] ++ UU 5, [⟨[.sl (fisc l) (List.length l) .any, (I6 room), (I6 arm), (B6 dead)], 4, .fresh⟩, ⟨[.sl [] 0 .nil, (I6 0), (I6 0), (B6 false)], 4, .fresh⟩, ⟨[.sl (fisc (putL l { nm := s, d := d, sf := 0 })) (List.length (putL l { nm := s, d := d, sf := 0 })) .any, (I6 room), (I6 (armN arm)), (B6 dead)], 4, .fresh⟩, ⟨[(S6 s), .sl (u8s d) (List.length d) .any, (I6 0)], 3, .fresh⟩]⟩ ⟨by kernel_rfl, by kernel_rfl, by kernel_rfl, by kernel_rfl, by kernel_rfl⟩ ?_
    refine DerQ.nil ?_
    refine AWP.seq (KL [10, 60, 61, 62] ⟨[.undef] ++ UU 5 ++ [.ptr 1 0, (I6 0), U6, .ptr 2 0, U6, U6, U6, (I6 0)] ++ UU 54, [⟨[.sl (fisc l) (List.length l) .any, (I6 room), (I6 arm), (B6 dead)], 4, .fresh⟩, ⟨[.sl [] 0 .nil, (I6 0), (I6 0), (B6 false)], 4, .fresh⟩, ⟨[.sl (fisc (putL l { nm := s, d := d, sf := 0 })) (List.length (putL l { nm := s, d := d, sf := 0 })) .any, (I6 room), (I6 (armN arm)), (B6 dead)], 4, .fresh⟩, ⟨[(S6 s), .sl (u8s d) (List.length d) .any, (I6 0)], 3, .fresh⟩]⟩ ?_)
    refine AWP.reg (RI (True ∧ True ∧ True ∧ 4 ≤ 4 ∧ True ∧ 4 ≤ 4 ∧ True ∧ True) ⟨trivial, trivial, trivial, (by omega), trivial, (by omega), trivial, trivial⟩ ?_)
    refine AWP.ret FA
theorem app_out_h (l : List FileD) (room : Int) (dead : Bool) (hx : l.length ≤ 1000000) (s : ByteArray) (d : List Int) (hd : d.length ≤ 900000) (ho : okD room 0 l) (he : askE room 0 dead l s = 0) (hh : has l s) (hp : roomP room l s (((l.getD (low l s) fi0).d.length : Int) + (d.length : Int))) : EvD Try.prog 62 [.agg [.sl (fisc l) l.length .any, .sc (.int .i64 room), .sc (.int .i64 0), .sc (.bool dead)], .sc (.string s), .sl (u8s d) d.length .any] (.tup [.agg [.sl (fisc (putL l ⟨s, (l.getD (low l s) fi0).d ++ d, (l.getD (low l s) fi0).sf⟩)) (putL l ⟨s, (l.getD (low l s) fi0).d ++ d, (l.getD (low l s) fi0).sf⟩).length .any, .sc (.int .i64 room), .sc (.int .i64 0), .sc (.bool true)], .sc (.int .i64 220)]) := by
  have hll := hh.1
  have hdl := d_le l _ hll
  have hus := okD_used ho
  have hrm := ho.2.1
  have a1 : EvD Try.prog 67 [.agg [.sl (fisc l) l.length .any, .sc (.int .i64 room), .sc (.int .i64 0), .sc (.bool dead)], .sc (.string s)] (.sc (.int .i64 0)) := by have := asked l room 0 dead hx s; rwa [he] at this
  have p1 := place l room 0 dead (okD_srt ho) (by have := ho.2.2.2.1; omega) s
  have r1 : EvK Try.prog 68 [.ptr 0 0, .sc (.string s), .sc (.int .i64 (((l.getD (low l s) fi0).d.length : Int) + (d.length : Int)))] ⟨[.sl (fisc l) l.length .any, .sc (.int .i64 room), .sc (.int .i64 0), .sc (.bool dead)], 4, .fresh⟩ (.sc (.bool true)) ⟨[.sl (fisc l) l.length .any, .sc (.int .i64 room), .sc (.int .i64 0), .sc (.bool dead)], 4, .fresh⟩ := by
    have := room_ l room 0 dead (okD_srt ho) (by have := ho.2.2.2.1; omega) (by have := okD_used ho; have := ho.2.1; omega) ⟨ho.1, ho.2.1⟩ s ((((l.getD (low l s) fi0).d.length : Int) + (d.length : Int))) (by omega)
    rwa [decide_eq_true hp] at this
  have n1 := out80 l room dead
  have q1 := concat2 (l.getD (low l s) fi0).d d ((l.getD (low l s) fi0).d ++ d).length (by rw [List.length_append]) (by rw [List.length_append]; omega)
  have s1 := set_ l room 0 true (okD_srt ho) (by have := ho.2.2.2.1; omega) ⟨s, (l.getD (low l s) fi0).d ++ d, (l.getD (low l s) fi0).sf⟩
  refine EvD.body Try.func62 rfl (by simp [dataAll, AVal.data]) (by simp [dataAll, AVal.data]) ?_
  refine AWP.seq ?_
  refine TO ⟨[.agg [.sl (fisc l) (List.length l) .any, (I6 room), (I6 0), (B6 dead)], (S6 s), .sl (u8s d) (List.length d) .any] ++ UU 65, []⟩ ?_
  refine AWP.reg (RT 3 ?_)
  refine AWP.seq (AWP.seq (KL [0] ⟨[U6, (S6 s), .sl (u8s d) (List.length d) .any, .ptr 0 0, U6, U6, .ptr 1 0, (I6 0)] ++ UU 60, [⟨[.sl (fisc l) (List.length l) .any, (I6 room), (I6 0), (B6 dead)], 4, .fresh⟩, ⟨[.sl [] 0 .nil, (I6 0), (I6 0), (B6 false)], 4, .fresh⟩]⟩ ?_))
  refine AWP.reg (PI 2 (4 ≤ 4 ∧ True ∧ True) ⟨(by omega), trivial, trivial⟩ ?_)
  refine CD (a1) ?_
  refine RT 1 ?_
  refine AWP.seq (KL [14, 15, 16] ⟨[U6, (S6 s), .sl (u8s d) (List.length d) .any, .ptr 0 0, U6, U6, .ptr 1 0, (I6 0), (I6 0)] ++ UU 59, [⟨[.sl (fisc l) (List.length l) .any, (I6 room), (I6 0), (B6 dead)], 4, .fresh⟩, ⟨[.sl [] 0 .nil, (I6 0), (I6 0), (B6 false)], 4, .fresh⟩]⟩ ?_)
  refine AWP.reg (RT 2 ?_)
  refine KL [17] ⟨[U6, (S6 s), .sl (u8s d) (List.length d) .any, .ptr 0 0, U6, U6, .ptr 1 0, (I6 0), (I6 0)] ++ UU 9 ++ [(B6 false)] ++ UU 49, [⟨[.sl (fisc l) (List.length l) .any, (I6 room), (I6 0), (B6 dead)], 4, .fresh⟩, ⟨[.sl [] 0 .nil, (I6 0), (I6 0), (B6 false)], 4, .fresh⟩]⟩ ?_
  refine CN false (fun h => nomatch h) (fun _ => ?_)
  refine AWP.skip (SQ (RI (4 ≤ 4 ∧ True ∧ True ∧ True ∧ True) ⟨(by omega), trivial, trivial, trivial, trivial⟩ ?_))
  refine AWP.seq (KL [8, 18, 21, 22, 23] ⟨[U6, (S6 s), .sl (u8s d) (List.length d) .any, .ptr 0 0, U6, U6, .ptr 1 0, (I6 0), U6, .ptr 2 0] ++ UU 58, [⟨[.sl (fisc l) (List.length l) .any, (I6 room), (I6 0), (B6 dead)], 4, .fresh⟩, ⟨[.sl [] 0 .nil, (I6 0), (I6 0), (B6 false)], 4, .fresh⟩, ⟨[.sl (fisc l) (List.length l) .any, (I6 room), (I6 0), (B6 dead)], 4, .fresh⟩]⟩ ?_)
  refine AWP.reg (RI (True ∧ True ∧ True ∧ 3 ≤ 3 ∧ True) ⟨trivial, trivial, trivial, (by omega), trivial⟩ ?_)
  refine AWP.seq (AWP.seq (KL [24, 25] ⟨[U6, (S6 s), .sl (u8s d) (List.length d) .any, .ptr 0 0, U6, U6, .ptr 1 0, (I6 0), U6, .ptr 2 0, .ptr 3 0] ++ UU 57, [⟨[.sl (fisc l) (List.length l) .any, (I6 room), (I6 0), (B6 dead)], 4, .fresh⟩, ⟨[.sl [] 0 .nil, (I6 0), (I6 0), (B6 false)], 4, .fresh⟩, ⟨[.sl (fisc l) (List.length l) .any, (I6 room), (I6 0), (B6 dead)], 4, .fresh⟩, ⟨[(S6 s), .sl [] 0 .nil, (I6 0)], 3, .fresh⟩]⟩ ?_))
  refine AWP.reg (PT 2 2 ?_)
  refine DerQ.callK (p1) 2 [.ptr 2 0, (S6 s)] ⟨[U6, (S6 s), .sl (u8s d) (List.length d) .any, .ptr 0 0, U6, U6, .ptr 1 0, (I6 0), U6, .ptr 2 0, .ptr 3 0] ++ UU 16 ++ [.ptr 2 0, (S6 s), .tup [(I6 (↑(low l s) : Int)), (B6 (decide (has l s)))]] ++ UU 38, [⟨[.sl (fisc l) (List.length l) .any, (I6 room), (I6 0), (B6 dead)], 4, .fresh⟩, ⟨[.sl [] 0 .nil, (I6 0), (I6 0), (B6 false)], 4, .fresh⟩, ⟨[.sl (fisc l) (List.length l) .any, (I6 room), (I6 0), (B6 dead)], 4, .fresh⟩, ⟨[(S6 s), .sl [] 0 .nil, (I6 0)], 3, .fresh⟩]⟩ ⟨by kernel_rfl, by kernel_rfl, by kernel_rfl, by kernel_rfl, by kernel_rfl⟩ ?_
  refine RT 5 ?_
  refine AWP.seq (KL (NN 26 6) ⟨[U6, (S6 s), .sl (u8s d) (List.length d) .any, .ptr 0 0, U6, U6, .ptr 1 0, (I6 0), U6, .ptr 2 0, .ptr 3 0, (I6 (↑(low l s) : Int)), (B6 (decide (has l s)))] ++ UU 55, [⟨[.sl (fisc l) (List.length l) .any, (I6 room), (I6 0), (B6 dead)], 4, .fresh⟩, ⟨[.sl [] 0 .nil, (I6 0), (I6 0), (B6 false)], 4, .fresh⟩, ⟨[.sl (fisc l) (List.length l) .any, (I6 room), (I6 0), (B6 dead)], 4, .fresh⟩, ⟨[(S6 s), .sl [] 0 .nil, (I6 0)], 3, .fresh⟩]⟩ ?_)
  refine AWP.reg (RT 1 ?_)
  refine KL [12] ⟨[U6, (S6 s), .sl (u8s d) (List.length d) .any, .ptr 0 0, U6, U6, .ptr 1 0, (I6 0), U6, .ptr 2 0, .ptr 3 0, (I6 (↑(low l s) : Int))] ++ UU 20 ++ [(B6 (decide (has l s)))] ++ UU 35, [⟨[.sl (fisc l) (List.length l) .any, (I6 room), (I6 0), (B6 dead)], 4, .fresh⟩, ⟨[.sl [] 0 .nil, (I6 0), (I6 0), (B6 false)], 4, .fresh⟩, ⟨[.sl (fisc l) (List.length l) .any, (I6 room), (I6 0), (B6 dead)], 4, .fresh⟩, ⟨[(S6 s), .sl [] 0 .nil, (I6 0)], 3, .fresh⟩]⟩ ?_
  refine CN (decide (has l s)) (fun h1 => ?_) (fun h1 => ?_)
  · have h1' := of_decide_eq_true h1
    refine AWP.reg ?_
    refine DerQ.pre 8 (True ∧ True ∧ True ∧ True ∧ 0 < 4 ∧ True ∧ (((0 ≤ (↑(low l s) : Int)) ∧ ((↑(low l s) : Int) < (↑(List.length l) : Int))) ∧ (Int.toNat (↑(low l s) : Int) * 3 + 3 ≤ List.length (fisc l))) ∧ 3 ≤ 3 ∧ True) ⟨[U6, (S6 s), .sl (u8s d) (List.length d) .any, .ptr 0 0, U6, U6, .ptr 1 0, (I6 0), U6, .ptr 2 0, .ptr 3 0, (I6 (↑(low l s) : Int))] ++ UU 20 ++ [(B6 (decide (has l s))), .ptr 2 0, .ptr 2 0, .ptr 2 0, .ptr 2 0, .sl (fisc l) (List.length l) .any, (I6 (↑(low l s) : Int)), .dptr [List.getD (fisc l) (Int.toNat (↑(low l s) : Int) * 3 + 0) U6, List.getD (fisc l) (Int.toNat (↑(low l s) : Int) * 3 + 1) U6, List.getD (fisc l) (Int.toNat (↑(low l s) : Int) * 3 + 2) AVal.undef], .agg [List.getD (fisc l) (Int.toNat (↑(low l s) : Int) * 3 + 0) U6, List.getD (fisc l) (Int.toNat (↑(low l s) : Int) * 3 + 1) U6, List.getD (fisc l) (Int.toNat (↑(low l s) : Int) * 3 + 2) AVal.undef]] ++ UU 27, [⟨[.sl (fisc l) (List.length l) .any, (I6 room), (I6 0), (B6 dead)], 4, .fresh⟩, ⟨[.sl [] 0 .nil, (I6 0), (I6 0), (B6 false)], 4, .fresh⟩, ⟨[.sl (fisc l) (List.length l) .any, (I6 room), (I6 0), (B6 dead)], 4, .fresh⟩, ⟨[(S6 s), .sl [] 0 .nil, (I6 0)], 3, .fresh⟩]⟩ (by kernel_rfl) ⟨trivial, trivial, trivial, trivial, (by omega), trivial, ⟨⟨(by omega), (by omega)⟩, (by (simp [spliceA_length] <;> omega))⟩, (by omega), trivial⟩ ?_
    rw [Int.toNat_natCast (low l s)]
    rw [Nat.add_zero (low l s * 3)]
    rw [Go.Dk.fi_cells (l) (low l s) (by omega)]
    refine DerQ.run (3 ≤ 3 ∧ True) ⟨[U6, (S6 s), .sl (u8s d) (List.length d) .any, .ptr 0 0, U6, U6, .ptr 1 0, (I6 0), U6, .ptr 2 0, .ptr 3 0, (I6 (↑(low l s) : Int))] ++ UU 20 ++ [(B6 (decide (has l s))), .ptr 2 0, .ptr 2 0, .ptr 2 0, .ptr 2 0, .sl (fisc l) (List.length l) .any, (I6 (↑(low l s) : Int)), .dptr [(S6 ((List.getD l (low l s) fi0).nm)), .sl (u8s (List.getD l (low l s) fi0).d) (List.length (List.getD l (low l s) fi0).d) .any, (I6 ((List.getD l (low l s) fi0).sf))], .agg [(S6 ((List.getD l (low l s) fi0).nm)), .sl (u8s (List.getD l (low l s) fi0).d) (List.length (List.getD l (low l s) fi0).d) .any, (I6 ((List.getD l (low l s) fi0).sf))]] ++ UU 27, [⟨[.sl (fisc l) (List.length l) .any, (I6 room), (I6 0), (B6 dead)], 4, .fresh⟩, ⟨[.sl [] 0 .nil, (I6 0), (I6 0), (B6 false)], 4, .fresh⟩, ⟨[.sl (fisc l) (List.length l) .any, (I6 room), (I6 0), (B6 dead)], 4, .fresh⟩, ⟨[(S6 ((List.getD l (low l s) fi0).nm)), .sl (u8s (List.getD l (low l s) fi0).d) (List.length (List.getD l (low l s) fi0).d) .any, (I6 ((List.getD l (low l s) fi0).sf))], 3, .fresh⟩]⟩ (by kernel_rfl) ⟨(by omega), trivial⟩ ?_
    rw [Go.Dk.fi_nm (l) (s) (by omega)]
    refine AWP.seq (AWP.seq (KL ([11] ++ NN 32 9) ⟨[U6, (S6 s), .sl (u8s d) (List.length d) .any, .ptr 0 0, U6, U6, .ptr 1 0, (I6 0), U6, .ptr 2 0, .ptr 3 0] ++ UU 57, [⟨[.sl (fisc l) (List.length l) .any, (I6 room), (I6 0), (B6 dead)], 4, .fresh⟩, ⟨[.sl [] 0 .nil, (I6 0), (I6 0), (B6 false)], 4, .fresh⟩, ⟨[.sl (fisc l) (List.length l) .any, (I6 room), (I6 0), (B6 dead)], 4, .fresh⟩, ⟨[(S6 s), .sl (u8s (List.getD l (low l s) fi0).d) (List.length (List.getD l (low l s) fi0).d) .any, (I6 ((List.getD l (low l s) fi0).sf))], 3, .fresh⟩]⟩ ?_))
    refine AWP.reg ?_
    refine DerQ.pre 8 (True ∧ True ∧ True ∧ 1 < 3 ∧ True ∧ True ∧ True ∧ True ∧ True) ⟨[U6, (S6 s), .sl (u8s d) (List.length d) .any, .ptr 0 0, U6, U6, .ptr 1 0, (I6 0), U6, .ptr 2 0, .ptr 3 0] ++ UU 30 ++ [.ptr 2 0, (S6 s), .ptr 3 1, .sl (u8s (List.getD l (low l s) fi0).d) (List.length (List.getD l (low l s) fi0).d) .any, (I6 (↑(List.length (List.getD l (low l s) fi0).d) : Int)), .sl (u8s d) (List.length d) .any, (I6 (↑(List.length d) : Int)), (I6 (IntKind.wrap IntKind.i64 ((↑(List.length (List.getD l (low l s) fi0).d) : Int) + (↑(List.length d) : Int))))] ++ UU 19, [⟨[.sl (fisc l) (List.length l) .any, (I6 room), (I6 0), (B6 dead)], 4, .fresh⟩, ⟨[.sl [] 0 .nil, (I6 0), (I6 0), (B6 false)], 4, .fresh⟩, ⟨[.sl (fisc l) (List.length l) .any, (I6 room), (I6 0), (B6 dead)], 4, .fresh⟩, ⟨[(S6 s), .sl (u8s (List.getD l (low l s) fi0).d) (List.length (List.getD l (low l s) fi0).d) .any, (I6 ((List.getD l (low l s) fi0).sf))], 3, .fresh⟩]⟩ (by kernel_rfl) ⟨trivial, trivial, trivial, (by omega), trivial, trivial, trivial, trivial, trivial⟩ ?_
    rw [IntWalk.i64_in ((↑(List.length (List.getD l (low l s) fi0).d) : Int) + (↑(List.length d) : Int)) (by omega)]
    refine DerQ.callK (r1) 2 [.ptr 2 0, (S6 s), (I6 ((↑(List.length (List.getD l (low l s) fi0).d) : Int) + (↑(List.length d) : Int)))] ⟨[U6, (S6 s), .sl (u8s d) (List.length d) .any, .ptr 0 0, U6, U6, .ptr 1 0, (I6 0), U6, .ptr 2 0, .ptr 3 0] ++ UU 30 ++ [.ptr 2 0, (S6 s), .ptr 3 1, .sl (u8s (List.getD l (low l s) fi0).d) (List.length (List.getD l (low l s) fi0).d) .any, (I6 (↑(List.length (List.getD l (low l s) fi0).d) : Int)), .sl (u8s d) (List.length d) .any, (I6 (↑(List.length d) : Int)), (I6 ((↑(List.length (List.getD l (low l s) fi0).d) : Int) + (↑(List.length d) : Int))), (B6 true)] ++ UU 18, [⟨[.sl (fisc l) (List.length l) .any, (I6 room), (I6 0), (B6 dead)], 4, .fresh⟩, ⟨[.sl [] 0 .nil, (I6 0), (I6 0), (B6 false)], 4, .fresh⟩, ⟨[.sl (fisc l) (List.length l) .any, (I6 room), (I6 0), (B6 dead)], 4, .fresh⟩, ⟨[(S6 s), .sl (u8s (List.getD l (low l s) fi0).d) (List.length (List.getD l (low l s) fi0).d) .any, (I6 ((List.getD l (low l s) fi0).sf))], 3, .fresh⟩]⟩ ⟨by kernel_rfl, by kernel_rfl, by kernel_rfl, by kernel_rfl, by kernel_rfl⟩ ?_
    refine RT 1 ?_
    refine KL ([1] ++ NN 41 9) ⟨[U6, U6, .sl (u8s d) (List.length d) .any, .ptr 0 0, U6, U6, .ptr 1 0, (I6 0), U6, .ptr 2 0, .ptr 3 0] ++ UU 39 ++ [(B6 false)] ++ UU 17, [⟨[.sl (fisc l) (List.length l) .any, (I6 room), (I6 0), (B6 dead)], 4, .fresh⟩, ⟨[.sl [] 0 .nil, (I6 0), (I6 0), (B6 false)], 4, .fresh⟩, ⟨[.sl (fisc l) (List.length l) .any, (I6 room), (I6 0), (B6 dead)], 4, .fresh⟩, ⟨[(S6 s), .sl (u8s (List.getD l (low l s) fi0).d) (List.length (List.getD l (low l s) fi0).d) .any, (I6 ((List.getD l (low l s) fi0).sf))], 3, .fresh⟩]⟩ ?_
    refine CN false (fun h => nomatch h) (fun _ => ?_)
    refine AWP.skip (SQ (PI 4 (True ∧ 1 < 3 ∧ True ∧ True ∧ True) ⟨trivial, (by omega), trivial, trivial, trivial⟩ ?_))
    refine DerQ.callEI (q1) ⟨by kernel_rfl, by kernel_rfl⟩ ?_
    refine RI (True ∧ 2 ≤ 3 ∧ True) ⟨trivial, (by omega), trivial⟩ ?_
    refine AWP.seq (KL ([2, 3, 50] ++ NN 52 6) ⟨[.undef] ++ UU 5 ++ [.ptr 1 0, (I6 0), U6, .ptr 2 0, .ptr 3 0] ++ UU 57, [⟨[.sl (fisc l) (List.length l) .any, (I6 room), (I6 0), (B6 dead)], 4, .fresh⟩, ⟨[.sl [] 0 .nil, (I6 0), (I6 0), (B6 false)], 4, .fresh⟩, ⟨[.sl (fisc l) (List.length l) .any, (I6 room), (I6 0), (B6 dead)], 4, .fresh⟩, ⟨[(S6 s), .sl (u8s ((List.getD l (low l s) fi0).d ++ d)) (List.length ((List.getD l (low l s) fi0).d ++ d)) .any, (I6 ((List.getD l (low l s) fi0).sf))], 3, .fresh⟩]⟩ ?_)
    refine AWP.reg (PT 1 1 ?_)
    refine DerQ.callK (n1) 2 [.ptr 2 0, .fn 80 []] ⟨[.undef] ++ UU 5 ++ [.ptr 1 0, (I6 0), U6, .ptr 2 0, .ptr 3 0] ++ UU 47 ++ [.ptr 2 0, (I6 220)] ++ UU 8, [⟨[.sl (fisc l) (List.length l) .any, (I6 room), (I6 0), (B6 dead)], 4, .fresh⟩, ⟨[.sl [] 0 .nil, (I6 0), (I6 0), (B6 false)], 4, .fresh⟩, ⟨[.sl (fisc l) (List.length l) .any, (I6 room), (I6 0), (B6 true)], 4, .fresh⟩, ⟨[(S6 s), .sl (u8s ((List.getD l (low l s) fi0).d ++ d)) (List.length ((List.getD l (low l s) fi0).d ++ d)) .any, (I6 ((List.getD l (low l s) fi0).sf))], 3, .fresh⟩]⟩ ⟨by kernel_rfl, by kernel_rfl, by kernel_rfl, by kernel_rfl, by kernel_rfl⟩ ?_
    refine RT 1 ?_
    refine AWP.seq (KL [58, 59] ⟨[.undef] ++ UU 5 ++ [.ptr 1 0, (I6 0), U6, .ptr 2 0, .ptr 3 0, U6, U6, (I6 220)] ++ UU 54, [⟨[.sl (fisc l) (List.length l) .any, (I6 room), (I6 0), (B6 dead)], 4, .fresh⟩, ⟨[.sl [] 0 .nil, (I6 0), (I6 0), (B6 false)], 4, .fresh⟩, ⟨[.sl (fisc l) (List.length l) .any, (I6 room), (I6 0), (B6 true)], 4, .fresh⟩, ⟨[(S6 s), .sl (u8s ((List.getD l (low l s) fi0).d ++ d)) (List.length ((List.getD l (low l s) fi0).d ++ d)) .any, (I6 ((List.getD l (low l s) fi0).sf))], 3, .fresh⟩]⟩ ?_)
    refine AWP.reg (PI 2 (True ∧ 3 ≤ 3 ∧ True) ⟨trivial, (by omega), trivial⟩ ?_)
    refine DerQ.callK (s1) 2 [.ptr 2 0, .agg [(S6 s), .sl (u8s ((List.getD l (low l s) fi0).d ++ d)) (List.length ((List.getD l (low l s) fi0).d ++ d)) .any, (I6 ((List.getD l (low l s) fi0).sf))]] ⟨[.undef] ++ UU 5 ++ [.ptr 1 0, (I6 0), U6, .ptr 2 0, .ptr 3 0, U6, U6, (I6 220)] ++ UU 46 ++ [.ptr 2 0, .agg [(S6 s), .sl (u8s ((List.getD l (low l s) fi0).d ++ d)) (List.length ((List.getD l (low l s) fi0).d ++ d)) .any, (I6 ((List.getD l (low l s) fi0).sf))], .tup []] ++ UU 5, [⟨[.sl (fisc l) (List.length l) .any, (I6 room), (I6 0), (B6 dead)], 4, .fresh⟩, ⟨[.sl [] 0 .nil, (I6 0), (I6 0), (B6 false)], 4, .fresh⟩, ⟨[.sl (fisc (putL l { nm := s, d := (List.getD l (low l s) fi0).d ++ d, sf := (List.getD l (low l s) fi0).sf })) (List.length (putL l { nm := s, d := (List.getD l (low l s) fi0).d ++ d, sf := (List.getD l (low l s) fi0).sf })) .any, (I6 room), (I6 0), (B6 true)], 4, .fresh⟩, ⟨[(S6 s), .sl (u8s ((List.getD l (low l s) fi0).d ++ d)) (List.length ((List.getD l (low l s) fi0).d ++ d)) .any, (I6 ((List.getD l (low l s) fi0).sf))], 3, .fresh⟩]⟩ ⟨by kernel_rfl, by kernel_rfl, by kernel_rfl, by kernel_rfl, by kernel_rfl⟩ ?_
    refine DerQ.nil ?_
    refine AWP.seq (KL [10, 60, 61, 62] ⟨[.undef] ++ UU 5 ++ [.ptr 1 0, (I6 0), U6, .ptr 2 0, U6, U6, U6, (I6 220)] ++ UU 54, [⟨[.sl (fisc l) (List.length l) .any, (I6 room), (I6 0), (B6 dead)], 4, .fresh⟩, ⟨[.sl [] 0 .nil, (I6 0), (I6 0), (B6 false)], 4, .fresh⟩, ⟨[.sl (fisc (putL l { nm := s, d := (List.getD l (low l s) fi0).d ++ d, sf := (List.getD l (low l s) fi0).sf })) (List.length (putL l { nm := s, d := (List.getD l (low l s) fi0).d ++ d, sf := (List.getD l (low l s) fi0).sf })) .any, (I6 room), (I6 0), (B6 true)], 4, .fresh⟩, ⟨[(S6 s), .sl (u8s ((List.getD l (low l s) fi0).d ++ d)) (List.length ((List.getD l (low l s) fi0).d ++ d)) .any, (I6 ((List.getD l (low l s) fi0).sf))], 3, .fresh⟩]⟩ ?_)
    refine AWP.reg (RI (True ∧ True ∧ True ∧ 4 ≤ 4 ∧ True ∧ 4 ≤ 4 ∧ True ∧ True) ⟨trivial, trivial, trivial, (by omega), trivial, (by omega), trivial, trivial⟩ ?_)
    refine AWP.ret FA
  · have h1' := of_decide_eq_false h1
    (exfalso; exact absurd hh (by assumption); done)
theorem app_out_n (l : List FileD) (room : Int) (dead : Bool) (hx : l.length ≤ 1000000) (s : ByteArray) (d : List Int) (hd : d.length ≤ 900000) (ho : okD room 0 l) (he : askE room 0 dead l s = 0) (hh : ¬ has l s) (hp : roomP room l s ((d.length : Int))) : EvD Try.prog 62 [.agg [.sl (fisc l) l.length .any, .sc (.int .i64 room), .sc (.int .i64 0), .sc (.bool dead)], .sc (.string s), .sl (u8s d) d.length .any] (.tup [.agg [.sl (fisc (putL l ⟨s, d, 0⟩)) (putL l ⟨s, d, 0⟩).length .any, .sc (.int .i64 room), .sc (.int .i64 0), .sc (.bool true)], .sc (.int .i64 220)]) := by
  have a1 : EvD Try.prog 67 [.agg [.sl (fisc l) l.length .any, .sc (.int .i64 room), .sc (.int .i64 0), .sc (.bool dead)], .sc (.string s)] (.sc (.int .i64 0)) := by have := asked l room 0 dead hx s; rwa [he] at this
  have p1 := place l room 0 dead (okD_srt ho) (by have := ho.2.2.2.1; omega) s
  have r1 : EvK Try.prog 68 [.ptr 0 0, .sc (.string s), .sc (.int .i64 (0 + (d.length : Int)))] ⟨[.sl (fisc l) l.length .any, .sc (.int .i64 room), .sc (.int .i64 0), .sc (.bool dead)], 4, .fresh⟩ (.sc (.bool true)) ⟨[.sl (fisc l) l.length .any, .sc (.int .i64 room), .sc (.int .i64 0), .sc (.bool dead)], 4, .fresh⟩ := by
    rw [Int.zero_add]
    have := room_ l room 0 dead (okD_srt ho) (by have := ho.2.2.2.1; omega) (by have := okD_used ho; have := ho.2.1; omega) ⟨ho.1, ho.2.1⟩ s (((d.length : Int))) (by omega)
    rwa [decide_eq_true hp] at this
  have n1 := out80 l room dead
  have q1 : EvD Try.prog 79 [.sl [.sl [] 0 .nil, .sl (u8s d) d.length .any] 2 .any] (.sl (u8s d) d.length .any) := concat0 d (by omega)
  have s1 := set_ l room 0 true (okD_srt ho) (by have := ho.2.2.2.1; omega) ⟨s, d, 0⟩
  refine EvD.body Try.func62 rfl (by simp [dataAll, AVal.data]) (by simp [dataAll, AVal.data]) ?_
  refine AWP.seq ?_
  refine TO ⟨[.agg [.sl (fisc l) (List.length l) .any, (I6 room), (I6 0), (B6 dead)], (S6 s), .sl (u8s d) (List.length d) .any] ++ UU 65, []⟩ ?_
  refine AWP.reg (RT 3 ?_)
  refine AWP.seq (AWP.seq (KL [0] ⟨[U6, (S6 s), .sl (u8s d) (List.length d) .any, .ptr 0 0, U6, U6, .ptr 1 0, (I6 0)] ++ UU 60, [⟨[.sl (fisc l) (List.length l) .any, (I6 room), (I6 0), (B6 dead)], 4, .fresh⟩, ⟨[.sl [] 0 .nil, (I6 0), (I6 0), (B6 false)], 4, .fresh⟩]⟩ ?_))
  refine AWP.reg (PI 2 (4 ≤ 4 ∧ True ∧ True) ⟨(by omega), trivial, trivial⟩ ?_)
  refine CD (a1) ?_
  refine RT 1 ?_
  refine AWP.seq (KL [14, 15, 16] ⟨[U6, (S6 s), .sl (u8s d) (List.length d) .any, .ptr 0 0, U6, U6, .ptr 1 0, (I6 0), (I6 0)] ++ UU 59, [⟨[.sl (fisc l) (List.length l) .any, (I6 room), (I6 0), (B6 dead)], 4, .fresh⟩, ⟨[.sl [] 0 .nil, (I6 0), (I6 0), (B6 false)], 4, .fresh⟩]⟩ ?_)
  refine AWP.reg (RT 2 ?_)
  refine KL [17] ⟨[U6, (S6 s), .sl (u8s d) (List.length d) .any, .ptr 0 0, U6, U6, .ptr 1 0, (I6 0), (I6 0)] ++ UU 9 ++ [(B6 false)] ++ UU 49, [⟨[.sl (fisc l) (List.length l) .any, (I6 room), (I6 0), (B6 dead)], 4, .fresh⟩, ⟨[.sl [] 0 .nil, (I6 0), (I6 0), (B6 false)], 4, .fresh⟩]⟩ ?_
  refine CN false (fun h => nomatch h) (fun _ => ?_)
  refine AWP.skip (SQ (RI (4 ≤ 4 ∧ True ∧ True ∧ True ∧ True) ⟨(by omega), trivial, trivial, trivial, trivial⟩ ?_))
  refine AWP.seq (KL [8, 18, 21, 22, 23] ⟨[U6, (S6 s), .sl (u8s d) (List.length d) .any, .ptr 0 0, U6, U6, .ptr 1 0, (I6 0), U6, .ptr 2 0] ++ UU 58, [⟨[.sl (fisc l) (List.length l) .any, (I6 room), (I6 0), (B6 dead)], 4, .fresh⟩, ⟨[.sl [] 0 .nil, (I6 0), (I6 0), (B6 false)], 4, .fresh⟩, ⟨[.sl (fisc l) (List.length l) .any, (I6 room), (I6 0), (B6 dead)], 4, .fresh⟩]⟩ ?_)
  refine AWP.reg (RI (True ∧ True ∧ True ∧ 3 ≤ 3 ∧ True) ⟨trivial, trivial, trivial, (by omega), trivial⟩ ?_)
  refine AWP.seq (AWP.seq (KL [24, 25] ⟨[U6, (S6 s), .sl (u8s d) (List.length d) .any, .ptr 0 0, U6, U6, .ptr 1 0, (I6 0), U6, .ptr 2 0, .ptr 3 0] ++ UU 57, [⟨[.sl (fisc l) (List.length l) .any, (I6 room), (I6 0), (B6 dead)], 4, .fresh⟩, ⟨[.sl [] 0 .nil, (I6 0), (I6 0), (B6 false)], 4, .fresh⟩, ⟨[.sl (fisc l) (List.length l) .any, (I6 room), (I6 0), (B6 dead)], 4, .fresh⟩, ⟨[(S6 s), .sl [] 0 .nil, (I6 0)], 3, .fresh⟩]⟩ ?_))
  refine AWP.reg (PT 2 2 ?_)
  refine DerQ.callK (p1) 2 [.ptr 2 0, (S6 s)] ⟨[U6, (S6 s), .sl (u8s d) (List.length d) .any, .ptr 0 0, U6, U6, .ptr 1 0, (I6 0), U6, .ptr 2 0, .ptr 3 0] ++ UU 16 ++ [.ptr 2 0, (S6 s), .tup [(I6 (↑(low l s) : Int)), (B6 (decide (has l s)))]] ++ UU 38, [⟨[.sl (fisc l) (List.length l) .any, (I6 room), (I6 0), (B6 dead)], 4, .fresh⟩, ⟨[.sl [] 0 .nil, (I6 0), (I6 0), (B6 false)], 4, .fresh⟩, ⟨[.sl (fisc l) (List.length l) .any, (I6 room), (I6 0), (B6 dead)], 4, .fresh⟩, ⟨[(S6 s), .sl [] 0 .nil, (I6 0)], 3, .fresh⟩]⟩ ⟨by kernel_rfl, by kernel_rfl, by kernel_rfl, by kernel_rfl, by kernel_rfl⟩ ?_
  refine RT 5 ?_
  refine AWP.seq (KL (NN 26 6) ⟨[U6, (S6 s), .sl (u8s d) (List.length d) .any, .ptr 0 0, U6, U6, .ptr 1 0, (I6 0), U6, .ptr 2 0, .ptr 3 0, (I6 (↑(low l s) : Int)), (B6 (decide (has l s)))] ++ UU 55, [⟨[.sl (fisc l) (List.length l) .any, (I6 room), (I6 0), (B6 dead)], 4, .fresh⟩, ⟨[.sl [] 0 .nil, (I6 0), (I6 0), (B6 false)], 4, .fresh⟩, ⟨[.sl (fisc l) (List.length l) .any, (I6 room), (I6 0), (B6 dead)], 4, .fresh⟩, ⟨[(S6 s), .sl [] 0 .nil, (I6 0)], 3, .fresh⟩]⟩ ?_)
  refine AWP.reg (RT 1 ?_)
  refine KL [12] ⟨[U6, (S6 s), .sl (u8s d) (List.length d) .any, .ptr 0 0, U6, U6, .ptr 1 0, (I6 0), U6, .ptr 2 0, .ptr 3 0, (I6 (↑(low l s) : Int))] ++ UU 20 ++ [(B6 (decide (has l s)))] ++ UU 35, [⟨[.sl (fisc l) (List.length l) .any, (I6 room), (I6 0), (B6 dead)], 4, .fresh⟩, ⟨[.sl [] 0 .nil, (I6 0), (I6 0), (B6 false)], 4, .fresh⟩, ⟨[.sl (fisc l) (List.length l) .any, (I6 room), (I6 0), (B6 dead)], 4, .fresh⟩, ⟨[(S6 s), .sl [] 0 .nil, (I6 0)], 3, .fresh⟩]⟩ ?_
  refine CN (decide (has l s)) (fun h1 => ?_) (fun h1 => ?_)
  · have h1' := of_decide_eq_true h1
    (exfalso; exact absurd (by assumption) hh; done)
  · have h1' := of_decide_eq_false h1
    refine AWP.skip (AWP.seq (SQ ?_))
    refine DerQ.pre 8 (True ∧ True ∧ True ∧ 1 < 3 ∧ True ∧ True ∧ True ∧ True ∧ True) ⟨[U6, (S6 s), .sl (u8s d) (List.length d) .any, .ptr 0 0, U6, U6, .ptr 1 0, (I6 0), U6, .ptr 2 0, .ptr 3 0, (I6 (↑(low l s) : Int))] ++ UU 20 ++ [(B6 (decide (has l s)))] ++ UU 8 ++ [.ptr 2 0, (S6 s), .ptr 3 1, .sl [] 0 .nil, (I6 0), .sl (u8s d) (List.length d) .any, (I6 (↑(List.length d) : Int)), (I6 (IntKind.wrap IntKind.i64 (0 + (↑(List.length d) : Int))))] ++ UU 19, [⟨[.sl (fisc l) (List.length l) .any, (I6 room), (I6 0), (B6 dead)], 4, .fresh⟩, ⟨[.sl [] 0 .nil, (I6 0), (I6 0), (B6 false)], 4, .fresh⟩, ⟨[.sl (fisc l) (List.length l) .any, (I6 room), (I6 0), (B6 dead)], 4, .fresh⟩, ⟨[(S6 s), .sl [] 0 .nil, (I6 0)], 3, .fresh⟩]⟩ (by kernel_rfl) ⟨trivial, trivial, trivial, (by omega), trivial, trivial, trivial, trivial, trivial⟩ ?_
    rw [IntWalk.i64_in (0 + (↑(List.length d) : Int)) (by omega)]
    refine DerQ.callK (r1) 2 [.ptr 2 0, (S6 s), (I6 (0 + (↑(List.length d) : Int)))] ⟨[U6, (S6 s), .sl (u8s d) (List.length d) .any, .ptr 0 0, U6, U6, .ptr 1 0, (I6 0), U6, .ptr 2 0, .ptr 3 0, (I6 (↑(low l s) : Int))] ++ UU 20 ++ [(B6 (decide (has l s)))] ++ UU 8 ++ [.ptr 2 0, (S6 s), .ptr 3 1, .sl [] 0 .nil, (I6 0), .sl (u8s d) (List.length d) .any, (I6 (↑(List.length d) : Int)), (I6 (0 + (↑(List.length d) : Int))), (B6 true)] ++ UU 18, [⟨[.sl (fisc l) (List.length l) .any, (I6 room), (I6 0), (B6 dead)], 4, .fresh⟩, ⟨[.sl [] 0 .nil, (I6 0), (I6 0), (B6 false)], 4, .fresh⟩, ⟨[.sl (fisc l) (List.length l) .any, (I6 room), (I6 0), (B6 dead)], 4, .fresh⟩, ⟨[(S6 s), .sl [] 0 .nil, (I6 0)], 3, .fresh⟩]⟩ ⟨by kernel_rfl, by kernel_rfl, by kernel_rfl, by kernel_rfl, by kernel_rfl⟩ ?_
    refine RT 1 ?_
    refine KL ([1, 11, 32] ++ NN 41 9) ⟨[U6, U6, .sl (u8s d) (List.length d) .any, .ptr 0 0, U6, U6, .ptr 1 0, (I6 0), U6, .ptr 2 0, .ptr 3 0] ++ UU 39 ++ [(B6 false)] ++ UU 17, [⟨[.sl (fisc l) (List.length l) .any, (I6 room), (I6 0), (B6 dead)], 4, .fresh⟩, ⟨[.sl [] 0 .nil, (I6 0), (I6 0), (B6 false)], 4, .fresh⟩, ⟨[.sl (fisc l) (List.length l) .any, (I6 room), (I6 0), (B6 dead)], 4, .fresh⟩, ⟨[(S6 s), .sl [] 0 .nil, (I6 0)], 3, .fresh⟩]⟩ ?_
    refine CN false (fun h => nomatch h) (fun _ => ?_)
    refine AWP.skip (SQ (PI 4 (True ∧ 1 < 3 ∧ True ∧ True ∧ True) ⟨trivial, (by omega), trivial, trivial, trivial⟩ ?_))
    refine DerQ.callEI (q1) ⟨by kernel_rfl, by kernel_rfl⟩ ?_
    refine RI (True ∧ 2 ≤ 3 ∧ True) ⟨trivial, (by omega), trivial⟩ ?_
    refine AWP.seq (KL ([2, 3, 50] ++ NN 52 6) ⟨[.undef] ++ UU 5 ++ [.ptr 1 0, (I6 0), U6, .ptr 2 0, .ptr 3 0] ++ UU 57, [⟨[.sl (fisc l) (List.length l) .any, (I6 room), (I6 0), (B6 dead)], 4, .fresh⟩, ⟨[.sl [] 0 .nil, (I6 0), (I6 0), (B6 false)], 4, .fresh⟩, ⟨[.sl (fisc l) (List.length l) .any, (I6 room), (I6 0), (B6 dead)], 4, .fresh⟩, ⟨[(S6 s), .sl (u8s d) (List.length d) .any, (I6 0)], 3, .fresh⟩]⟩ ?_)
    refine AWP.reg (PT 1 1 ?_)
    refine DerQ.callK (n1) 2 [.ptr 2 0, .fn 80 []] ⟨[.undef] ++ UU 5 ++ [.ptr 1 0, (I6 0), U6, .ptr 2 0, .ptr 3 0] ++ UU 47 ++ [.ptr 2 0, (I6 220)] ++ UU 8, [⟨[.sl (fisc l) (List.length l) .any, (I6 room), (I6 0), (B6 dead)], 4, .fresh⟩, ⟨[.sl [] 0 .nil, (I6 0), (I6 0), (B6 false)], 4, .fresh⟩, ⟨[.sl (fisc l) (List.length l) .any, (I6 room), (I6 0), (B6 true)], 4, .fresh⟩, ⟨[(S6 s), .sl (u8s d) (List.length d) .any, (I6 0)], 3, .fresh⟩]⟩ ⟨by kernel_rfl, by kernel_rfl, by kernel_rfl, by kernel_rfl, by kernel_rfl⟩ ?_
    refine RT 1 ?_
    refine AWP.seq (KL [58, 59] ⟨[.undef] ++ UU 5 ++ [.ptr 1 0, (I6 0), U6, .ptr 2 0, .ptr 3 0, U6, U6, (I6 220)] ++ UU 54, [⟨[.sl (fisc l) (List.length l) .any, (I6 room), (I6 0), (B6 dead)], 4, .fresh⟩, ⟨[.sl [] 0 .nil, (I6 0), (I6 0), (B6 false)], 4, .fresh⟩, ⟨[.sl (fisc l) (List.length l) .any, (I6 room), (I6 0), (B6 true)], 4, .fresh⟩, ⟨[(S6 s), .sl (u8s d) (List.length d) .any, (I6 0)], 3, .fresh⟩]⟩ ?_)
    refine AWP.reg (PI 2 (True ∧ 3 ≤ 3 ∧ True) ⟨trivial, (by omega), trivial⟩ ?_)
    refine DerQ.callK (s1) 2 [.ptr 2 0, .agg [(S6 s), .sl (u8s d) (List.length d) .any, (I6 0)]] ⟨[.undef] ++ UU 5 ++ [.ptr 1 0, (I6 0), U6, .ptr 2 0, .ptr 3 0, U6, U6, (I6 220)] ++ UU 46 ++ [.ptr 2 0, .agg [(S6 s), .sl (u8s d) (List.length d) .any, (I6 0)], .tup []] ++ UU 5, [⟨[.sl (fisc l) (List.length l) .any, (I6 room), (I6 0), (B6 dead)], 4, .fresh⟩, ⟨[.sl [] 0 .nil, (I6 0), (I6 0), (B6 false)], 4, .fresh⟩, ⟨[.sl (fisc (putL l { nm := s, d := d, sf := 0 })) (List.length (putL l { nm := s, d := d, sf := 0 })) .any, (I6 room), (I6 0), (B6 true)], 4, .fresh⟩, ⟨[(S6 s), .sl (u8s d) (List.length d) .any, (I6 0)], 3, .fresh⟩]⟩ ⟨by kernel_rfl, by kernel_rfl, by kernel_rfl, by kernel_rfl, by kernel_rfl⟩ ?_
    refine DerQ.nil ?_
    refine AWP.seq (KL [10, 60, 61, 62] ⟨[.undef] ++ UU 5 ++ [.ptr 1 0, (I6 0), U6, .ptr 2 0, U6, U6, U6, (I6 220)] ++ UU 54, [⟨[.sl (fisc l) (List.length l) .any, (I6 room), (I6 0), (B6 dead)], 4, .fresh⟩, ⟨[.sl [] 0 .nil, (I6 0), (I6 0), (B6 false)], 4, .fresh⟩, ⟨[.sl (fisc (putL l { nm := s, d := d, sf := 0 })) (List.length (putL l { nm := s, d := d, sf := 0 })) .any, (I6 room), (I6 0), (B6 true)], 4, .fresh⟩, ⟨[(S6 s), .sl (u8s d) (List.length d) .any, (I6 0)], 3, .fresh⟩]⟩ ?_)
    refine AWP.reg (RI (True ∧ True ∧ True ∧ 4 ≤ 4 ∧ True ∧ 4 ≤ 4 ∧ True ∧ True) ⟨trivial, trivial, trivial, (by omega), trivial, (by omega), trivial, trivial⟩ ?_)
    refine AWP.ret FA
end Go.Dk
