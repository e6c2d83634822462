/- Walks and laws. -/
import Derived.Test.YtfkilkfaiiijbaaCnt5
import Derived.Test.YtfkilkfaiiijbaaCnt6
import Derived.Test.YtfkilkfaiiijbaaLibC
set_option maxRecDepth 100000
set_option maxHeartbeats 0
set_option linter.unusedSimpArgs false
set_option linter.unusedVariables false
namespace Go.Cnt
open Go Go.Abs Go.Proofs Go.Ops
def fewP (am : List AmtD) (w : List WrD) (m : List MeD) (e : List ElD) : Prop := am.length + w.length + m.length + e.length ≤ 60 ∧ (∀ i, i < w.length → (w.getD i wr0).t.size ≤ 100) ∧ (∀ i, i < m.length → (m.getD i me0).t.size ≤ 100 ∧ (m.getD i me0).ms.length ≤ 30) ∧ (∀ i, i < e.length → (e.getD i el0).t.size ≤ 100 ∧ (e.getD i el0).ms.length ≤ 30)
instance (am : List AmtD) (w : List WrD) (m : List MeD) (e : List ElD) : Decidable (fewP am w m e) := by unfold fewP; infer_instance
theorem r_few (kind base : Int) (am : List AmtD) (w : List WrD) (m : List MeD) (e : List ElD) (hx : am.length ≤ 1000000000000000 ∧ w.length ≤ 1000000000000000 ∧ m.length ≤ 1000000000000000 ∧ e.length ≤ 1000000000000000) :
    EvD Try.prog 30 [.agg [.sc (.int .i64 kind), .sc (.int .i64 base), .sl (amsc am) am.length .any, .sl (wrsc w) w.length .any, .sl (mesc m) m.length .any, .sl (elsc e) e.length .any]] (.sc (.bool (decide (fewP am w m e)))) := by
  refine EvD.body Try.func30 rfl (by simp [dataAll, AVal.data]) rfl ?_
  refine AWP.seq ?_
  refine TO ⟨[.agg (Go.Cnt.CB kind base am w m e)] ++ UU 86, []⟩ ?_
  refine AWP.reg (RT 2 ?_)
  refine AWP.seq (AWP.seq (KL [0] ⟨[U6, .ptr 0 0, (B6 false)] ++ UU 84, [⟨(Go.Cnt.CB kind base am w m e), 6, .fresh⟩]⟩ ?_))
  refine AWP.reg ?_
  refine DerQ.run (True ∧ 2 < 6 ∧ True ∧ True ∧ 3 < 6 ∧ True ∧ True ∧ True ∧ 4 < 6 ∧ True ∧ True ∧ True ∧ 5 < 6 ∧ True ∧ True ∧ True ∧ True) ⟨[U6, .ptr 0 0, (B6 false), U6, U6, U6, .ptr 0 2, .sl (amsc am) (List.length am) .any, (I6 (↑(List.length am) : Int)), .ptr 0 3, .sl (wrsc w) (List.length w) .any, (I6 (↑(List.length w) : Int)), (I6 (IntKind.wrap IntKind.i64 ((↑(List.length am) : Int) + (↑(List.length w) : Int)))), .ptr 0 4, .sl (mesc m) (List.length m) .any, (I6 (↑(List.length m) : Int)), (I6 (IntKind.wrap IntKind.i64 (IntKind.wrap IntKind.i64 ((↑(List.length am) : Int) + (↑(List.length w) : Int)) + (↑(List.length m) : Int)))), .ptr 0 5, .sl (elsc e) (List.length e) .any, (I6 (↑(List.length e) : Int)), (I6 (IntKind.wrap IntKind.i64 (IntKind.wrap IntKind.i64 (IntKind.wrap IntKind.i64 ((↑(List.length am) : Int) + (↑(List.length w) : Int)) + (↑(List.length m) : Int)) + (↑(List.length e) : Int)))), (B6 (decide (IntKind.wrap IntKind.i64 (IntKind.wrap IntKind.i64 (IntKind.wrap IntKind.i64 ((↑(List.length am) : Int) + (↑(List.length w) : Int)) + (↑(List.length m) : Int)) + (↑(List.length e) : Int)) > 60)))] ++ UU 65, [⟨(Go.Cnt.CB kind base am w m e), 6, .fresh⟩]⟩ (by kernel_rfl) ⟨trivial, (by omega), trivial, trivial, (by omega), trivial, trivial, trivial, (by omega), trivial, trivial, trivial, (by omega), trivial, trivial, trivial, trivial⟩ ?_
  rw [IntWalk.i64_in ((↑(List.length am) : Int) + (↑(List.length w) : Int)) (by omega)]
  rw [IntWalk.i64_in ((↑(List.length am) : Int) + (↑(List.length w) : Int) + (↑(List.length m) : Int)) (by omega)]
  refine KL (NN 6 15) ⟨[U6, .ptr 0 0, (B6 false)] ++ UU 18 ++ [(B6 (decide (IntKind.wrap IntKind.i64 ((↑(List.length am) : Int) + (↑(List.length w) : Int) + (↑(List.length m) : Int) + (↑(List.length e) : Int)) > 60)))] ++ UU 65, [⟨(Go.Cnt.CB kind base am w m e), 6, .fresh⟩]⟩ ?_
  refine CN (decide (IntKind.wrap IntKind.i64 ((↑(List.length am) : Int) + (↑(List.length w) : Int) + (↑(List.length m) : Int) + (↑(List.length e) : Int)) > 60)) (fun h1 => ?_) (fun h1 => ?_)
  · have h1' := of_decide_eq_true h1
    refine SQ ?_
    refine DerQ.run (True ∧ True) ⟨[U6, .ptr 0 0, (B6 false)] ++ UU 18 ++ [(B6 (decide (IntKind.wrap IntKind.i64 ((↑(List.length am) : Int) + (↑(List.length w) : Int) + (↑(List.length m) : Int) + (↑(List.length e) : Int)) > 60)))] ++ UU 65, [⟨(Go.Cnt.CB kind base am w m e), 6, .fresh⟩]⟩ (by kernel_rfl) ⟨trivial, trivial⟩ ?_
    rw [IntWalk.i64_in ((↑(List.length am) : Int) + (↑(List.length w) : Int) + (↑(List.length m) : Int) + (↑(List.length e) : Int)) (by omega)]
    refine AWP.ret ?_
    refine FI (B6 false) ?_
    refine Shrink.all ?_ rfl
    (exact dec_no (fun hc => by have := hc.1; simp only [IntKind.wrap_i64] at *; omega); done)
  · have h1' := of_decide_eq_false h1
    refine AWP.skip (AWP.seq (SQ ?_))
    refine DerQ.run (True ∧ True) ⟨[U6, .ptr 0 0, (B6 false), (I6 0)] ++ UU 17 ++ [(B6 (decide (IntKind.wrap IntKind.i64 ((↑(List.length am) : Int) + (↑(List.length w) : Int) + (↑(List.length m) : Int) + (↑(List.length e) : Int)) > 60)))] ++ UU 65, [⟨(Go.Cnt.CB kind base am w m e), 6, .fresh⟩]⟩ (by kernel_rfl) ⟨trivial, trivial⟩ ?_
    rw [IntWalk.i64_in ((↑(List.length am) : Int) + (↑(List.length w) : Int) + (↑(List.length m) : Int) + (↑(List.length e) : Int)) (by omega)]
    refine AWP.block ?_
    refine AWP.loopM [false, true, true, true, false, false, false, false, false, false, false, false, false, false, false, false, false, false, false, false, false, true, false, false, false, false, false, false, false, false, false, false, false, false, false, false, false, false, false, false, false, false, false, false, false, false, false, false, false, false, false, false, false, false, false, false, false, false, false, false, false, false, false, false, false, false, false, false, false, false, false, false, false, false, false, false, false, false, false, false, false, false, false, false, false, false, false] (fun kk st => ∃ (i : Nat), kk = w.length - i ∧ i ≤ w.length ∧ (∀ x, x < i → (w.getD x wr0).t.size ≤ 100) ∧ st = ⟨[U6, .ptr 0 0, (B6 false), (I6 (i : Int)), U6, U6, U6, U6, U6, U6, U6, U6, U6, U6, U6, U6, U6, U6, U6, U6, U6, (B6 (decide ((↑(List.length am) : Int) + (↑(List.length w) : Int) + (↑(List.length m) : Int) + (↑(List.length e) : Int) > 60))), U6, U6, U6, U6, U6, U6, U6, U6, U6, U6, U6, U6, U6, U6, U6, U6, U6, U6, U6, U6, U6, U6, U6, U6, U6, U6, U6, U6, U6, U6, U6, U6, U6, U6, U6, U6, U6, U6, U6, U6, U6, U6, U6, U6, U6, U6, U6, U6, U6, U6, U6, U6, U6, U6, U6, U6, U6, U6, U6, U6, U6, U6, U6, U6, .undef], [⟨(Go.Cnt.CB kind base am w m e), 6, .fresh⟩]⟩) _ ⟨0, rfl, by omega, fun x h => absurd h (by omega), by kernel_rfl⟩ ?_
    rintro kk s ⟨i, rfl, hi, hd, rfl⟩
    refine AWP.seq (SQ (RI (True ∧ True ∧ 3 < 6 ∧ True ∧ True ∧ True) ⟨trivial, trivial, (by omega), trivial, trivial, trivial⟩ ?_))
    refine KL [22, 23, 24, 25] ⟨[U6, .ptr 0 0, (B6 false), (I6 (↑i : Int))] ++ UU 17 ++ [(B6 (decide ((↑(List.length am) : Int) + (↑(List.length w) : Int) + (↑(List.length m) : Int) + (↑(List.length e) : Int) > 60))), U6, U6, U6, U6, (B6 (decide ((↑i : Int) < (↑(List.length w) : Int))))] ++ UU 60, [⟨(Go.Cnt.CB kind base am w m e), 6, .fresh⟩]⟩ ?_
    refine CN (decide ((↑i : Int) < (↑(List.length w) : Int))) (fun h2 => ?_) (fun h2 => ?_)
    · have h2' := of_decide_eq_true h2
      refine AWP.skip (AWP.seq (AWP.block (SQ ?_)))
      refine DerQ.pre 6 (True ∧ 3 < 6 ∧ True ∧ (((0 ≤ (↑i : Int)) ∧ ((↑i : Int) < (↑(List.length w) : Int))) ∧ (Int.toNat (↑i : Int) * 5 + 5 ≤ List.length (wrsc w))) ∧ 5 ≤ 5 ∧ 0 < 1 ∧ True) ⟨[U6, .ptr 0 0, (B6 false), (I6 (↑i : Int))] ++ UU 17 ++ [(B6 (decide ((↑(List.length am) : Int) + (↑(List.length w) : Int) + (↑(List.length m) : Int) + (↑(List.length e) : Int) > 60))), U6, U6, U6, U6, (B6 (decide ((↑i : Int) < (↑(List.length w) : Int)))), U6, U6, .ptr 0 3, .sl (wrsc w) (List.length w) .any, (I6 (↑i : Int)), .dptr [List.getD (wrsc w) (Int.toNat (↑i : Int) * 5 + 0) U6, List.getD (wrsc w) (Int.toNat (↑i : Int) * 5 + 1) U6, List.getD (wrsc w) (Int.toNat (↑i : Int) * 5 + 2) U6, List.getD (wrsc w) (Int.toNat (↑i : Int) * 5 + 3) U6, List.getD (wrsc w) (Int.toNat (↑i : Int) * 5 + 4) AVal.undef], .dptr [List.getD (wrsc w) (Int.toNat (↑i : Int) * 5 + 4) AVal.undef], List.getD [List.getD (wrsc w) (Int.toNat (↑i : Int) * 5 + 4) AVal.undef] 0 AVal.undef] ++ UU 52, [⟨(Go.Cnt.CB kind base am w m e), 6, .fresh⟩]⟩ (by kernel_rfl) ⟨trivial, (by omega), trivial, ⟨⟨(by omega), (by omega)⟩, (by (simp [spliceA_length] <;> omega))⟩, (by omega), (by omega), trivial⟩ ?_
      rw [Int.toNat_natCast (i)]
      rw [Nat.add_zero (i * 5)]
      rw [Go.Cnt.wr_4 (w) (i) (by omega)]
      refine DerQ.run (TT 2) ⟨[U6, .ptr 0 0, (B6 false), (I6 (↑i : Int))] ++ UU 17 ++ [(B6 (decide ((↑(List.length am) : Int) + (↑(List.length w) : Int) + (↑(List.length m) : Int) + (↑(List.length e) : Int) > 60))), U6, U6, U6, U6, (B6 (decide ((↑i : Int) < (↑(List.length w) : Int)))), U6, U6, .ptr 0 3, .sl (wrsc w) (List.length w) .any, (I6 (↑i : Int)), .dptr [List.getD (wrsc w) (i * 5) U6, List.getD (wrsc w) (i * 5 + 1) U6, List.getD (wrsc w) (i * 5 + 2) U6, List.getD (wrsc w) (i * 5 + 3) U6, (S6 ((List.getD w i wr0).t))], .dptr [(S6 ((List.getD w i wr0).t))], (S6 ((List.getD w i wr0).t)), (I6 (↑(ByteArray.size (List.getD w i wr0).t) : Int)), (B6 (decide ((↑(ByteArray.size (List.getD w i wr0).t) : Int) > 100)))] ++ UU 50, [⟨(Go.Cnt.CB kind base am w m e), 6, .fresh⟩]⟩ (by kernel_rfl) (tt 2) ?_
      refine KL ([26] ++ NN 29 7) ⟨[U6, .ptr 0 0, (B6 false), (I6 (↑i : Int))] ++ UU 17 ++ [(B6 (decide ((↑(List.length am) : Int) + (↑(List.length w) : Int) + (↑(List.length m) : Int) + (↑(List.length e) : Int) > 60)))] ++ UU 14 ++ [(B6 (decide ((↑(ByteArray.size (List.getD w i wr0).t) : Int) > 100)))] ++ UU 50, [⟨(Go.Cnt.CB kind base am w m e), 6, .fresh⟩]⟩ ?_
      refine CN (decide ((↑(ByteArray.size (List.getD w i wr0).t) : Int) > 100)) (fun h3 => ?_) (fun h3 => ?_)
      · have h3' := of_decide_eq_true h3
        refine SQ (RT 1 ?_)
        refine AWP.ret ?_
        refine FI (B6 false) ?_
        refine Shrink.all ?_ rfl
        (exact dec_no (fun hc => by have := hc.2.1 i (by omega); omega); done)
      · have h3' := of_decide_eq_false h3
        refine AWP.skip (AWP.reg ?_)
        refine DerQ.run (TT 3) ⟨[U6, .ptr 0 0, (B6 false), (I6 (IntKind.wrap IntKind.i64 ((↑i : Int) + 1)))] ++ UU 17 ++ [(B6 (decide ((↑(List.length am) : Int) + (↑(List.length w) : Int) + (↑(List.length m) : Int) + (↑(List.length e) : Int) > 60)))] ++ UU 5 ++ [(I6 (↑i : Int)), (I6 (IntKind.wrap IntKind.i64 ((↑i : Int) + 1)))] ++ UU 7 ++ [(B6 (decide ((↑(ByteArray.size (List.getD w i wr0).t) : Int) > 100)))] ++ UU 50, [⟨(Go.Cnt.CB kind base am w m e), 6, .fresh⟩]⟩ (by kernel_rfl) (tt 3) ?_
        rw [IntWalk.i64_in ((↑i : Int) + 1) (by omega)]
        (exact ⟨_, by omega, i + 1, rfl, by omega, succ_all hd (by omega), by kernel_rfl⟩; done)
    · have h2' := of_decide_eq_false h2
      refine AWP.exit ?_
      refine AWP.seq (SQ (RT 1 ?_))
      refine AWP.block (KL [3, 21, 26] ⟨[U6, .ptr 0 0, (B6 false), U6, (I6 0)] ++ UU 82, [⟨(Go.Cnt.CB kind base am w m e), 6, .fresh⟩]⟩ ?_)
      refine AWP.loopM [false, true, true, false, true, false, false, false, false, false, false, false, false, false, false, false, false, false, false, false, false, false, false, false, false, false, false, false, false, false, false, false, false, false, false, false, false, false, false, false, false, false, false, false, false, false, false, false, false, false, false, false, false, false, false, false, false, false, false, false, false, false, false, false, false, false, false, false, false, false, false, false, false, false, false, false, false, false, false, false, false, false, false, false, false, false, false] (fun kk st => ∃ (j : Nat), kk = m.length - j ∧ j ≤ m.length ∧ (∀ x, x < j → (m.getD x me0).t.size ≤ 100 ∧ (m.getD x me0).ms.length ≤ 30) ∧ st = ⟨[U6, .ptr 0 0, (B6 false), U6, (I6 (j : Int)), U6, U6, U6, U6, U6, U6, U6, U6, U6, U6, U6, U6, U6, U6, U6, U6, U6, U6, U6, U6, U6, U6, U6, U6, U6, U6, U6, U6, U6, U6, U6, U6, U6, U6, U6, U6, U6, U6, U6, U6, U6, U6, U6, U6, U6, U6, U6, U6, U6, U6, U6, U6, U6, U6, U6, U6, U6, U6, U6, U6, U6, U6, U6, U6, U6, U6, U6, U6, U6, U6, U6, U6, U6, U6, U6, U6, U6, U6, U6, U6, U6, .undef], [⟨(Go.Cnt.CB kind base am w m e), 6, .fresh⟩]⟩) _ ⟨0, rfl, by omega, fun x h => absurd h (by omega), by kernel_rfl⟩ ?_
      rintro kk s ⟨j, rfl, hj, hd2, rfl⟩
      refine AWP.seq (SQ (RI (True ∧ True ∧ 4 < 6 ∧ True ∧ True ∧ True) ⟨trivial, trivial, (by omega), trivial, trivial, trivial⟩ ?_))
      refine KL [37, 38, 39, 40] ⟨[U6, .ptr 0 0, (B6 false), U6, (I6 (↑j : Int))] ++ UU 36 ++ [(B6 (decide ((↑j : Int) < (↑(List.length m) : Int))))] ++ UU 45, [⟨(Go.Cnt.CB kind base am w m e), 6, .fresh⟩]⟩ ?_
      refine CN (decide ((↑j : Int) < (↑(List.length m) : Int))) (fun h3 => ?_) (fun h3 => ?_)
      · have h3' := of_decide_eq_true h3
        refine AWP.skip (AWP.seq (AWP.block (SQ ?_)))
        refine DerQ.pre 6 (True ∧ 4 < 6 ∧ True ∧ (((0 ≤ (↑j : Int)) ∧ ((↑j : Int) < (↑(List.length m) : Int))) ∧ (Int.toNat (↑j : Int) * 3 + 3 ≤ List.length (mesc m))) ∧ 1 ≤ 3 ∧ 0 < 1 ∧ True) ⟨[U6, .ptr 0 0, (B6 false), U6, (I6 (↑j : Int))] ++ UU 36 ++ [(B6 (decide ((↑j : Int) < (↑(List.length m) : Int)))), U6, U6, .ptr 0 4, .sl (mesc m) (List.length m) .any, (I6 (↑j : Int)), .dptr [List.getD (mesc m) (Int.toNat (↑j : Int) * 3 + 0) U6, List.getD (mesc m) (Int.toNat (↑j : Int) * 3 + 1) U6, List.getD (mesc m) (Int.toNat (↑j : Int) * 3 + 2) AVal.undef], .dptr [List.getD (mesc m) (Int.toNat (↑j : Int) * 3 + 0) AVal.undef], List.getD [List.getD (mesc m) (Int.toNat (↑j : Int) * 3 + 0) AVal.undef] 0 AVal.undef] ++ UU 37, [⟨(Go.Cnt.CB kind base am w m e), 6, .fresh⟩]⟩ (by kernel_rfl) ⟨trivial, (by omega), trivial, ⟨⟨(by omega), (by omega)⟩, (by (simp [spliceA_length] <;> omega))⟩, (by omega), (by omega), trivial⟩ ?_
        rw [Int.toNat_natCast (j)]
        rw [Nat.add_zero (j * 3)]
        rw [Go.Cnt.me_0 (m) (j) (by omega)]
        rw [Go.Cnt.me_2 (m) (j) (by omega)]
        refine DerQ.pre 3 (TT 3) ⟨[U6, .ptr 0 0, (B6 false), U6, (I6 (↑j : Int))] ++ UU 36 ++ [(B6 (decide ((↑j : Int) < (↑(List.length m) : Int)))), U6, U6, .ptr 0 4, .sl (mesc m) (List.length m) .any, (I6 (↑j : Int)), .dptr [(S6 ((List.getD m j me0).t)), List.getD (mesc m) (j * 3 + 1) U6, .sl (mksc (List.getD m j me0).ms) (List.length (List.getD m j me0).ms) .any], .dptr [(S6 ((List.getD m j me0).t))], (S6 ((List.getD m j me0).t)), (I6 (↑(ByteArray.size (List.getD m j me0).t) : Int)), (B6 (decide ((↑(ByteArray.size (List.getD m j me0).t) : Int) > 100))), (B6 (decide ((↑(ByteArray.size (List.getD m j me0).t) : Int) > 100)))] ++ UU 34, [⟨(Go.Cnt.CB kind base am w m e), 6, .fresh⟩]⟩ (by kernel_rfl) (tt 3) ?_
        cases h4 : (decide ((↑(ByteArray.size (List.getD m j me0).t) : Int) > 100))
        · have h4' := of_decide_eq_false h4
          refine DerQ.pre 6 (True ∧ 4 < 6 ∧ True ∧ (((0 ≤ (↑j : Int)) ∧ ((↑j : Int) < (↑(List.length m) : Int))) ∧ (Int.toNat (↑j : Int) * 3 + 3 ≤ List.length (mesc m))) ∧ 3 ≤ 3 ∧ 0 < 1 ∧ True) ⟨[U6, .ptr 0 0, (B6 false), U6, (I6 (↑j : Int))] ++ UU 36 ++ [(B6 (decide ((↑j : Int) < (↑(List.length m) : Int)))), U6, U6, .ptr 0 4, .sl (mesc m) (List.length m) .any, (I6 (↑j : Int)), .dptr [(S6 ((List.getD m j me0).t)), List.getD (mesc m) (j * 3 + 1) U6, .sl (mksc (List.getD m j me0).ms) (List.length (List.getD m j me0).ms) .any], .dptr [(S6 ((List.getD m j me0).t))], (S6 ((List.getD m j me0).t)), (I6 (↑(ByteArray.size (List.getD m j me0).t) : Int)), (B6 false), (B6 false), .ptr 0 4, .sl (mesc m) (List.length m) .any, (I6 (↑j : Int)), .dptr [List.getD (mesc m) (Int.toNat (↑j : Int) * 3 + 0) U6, List.getD (mesc m) (Int.toNat (↑j : Int) * 3 + 1) U6, List.getD (mesc m) (Int.toNat (↑j : Int) * 3 + 2) AVal.undef], .dptr [List.getD (mesc m) (Int.toNat (↑j : Int) * 3 + 2) AVal.undef], List.getD [List.getD (mesc m) (Int.toNat (↑j : Int) * 3 + 2) AVal.undef] 0 AVal.undef] ++ UU 28, [⟨(Go.Cnt.CB kind base am w m e), 6, .fresh⟩]⟩ (by kernel_rfl) ⟨trivial, (by omega), trivial, ⟨⟨(by omega), (by omega)⟩, (by (simp [spliceA_length] <;> omega))⟩, (by omega), (by omega), trivial⟩ ?_
          rw [Int.toNat_natCast (j)]
          rw [Nat.add_zero (j * 3)]
          rw [Go.Cnt.me_0 (m) (j) (by omega)]
          rw [Go.Cnt.me_2 (m) (j) (by omega)]
          refine DerQ.run (TT 3) ⟨[U6, .ptr 0 0, (B6 false), U6, (I6 (↑j : Int))] ++ UU 36 ++ [(B6 (decide ((↑j : Int) < (↑(List.length m) : Int)))), U6, U6, .ptr 0 4, .sl (mesc m) (List.length m) .any, (I6 (↑j : Int)), .dptr [(S6 ((List.getD m j me0).t)), List.getD (mesc m) (j * 3 + 1) U6, .sl (mksc (List.getD m j me0).ms) (List.length (List.getD m j me0).ms) .any], .dptr [(S6 ((List.getD m j me0).t))], (S6 ((List.getD m j me0).t)), (I6 (↑(ByteArray.size (List.getD m j me0).t) : Int)), (B6 false), (B6 false), .ptr 0 4, .sl (mesc m) (List.length m) .any, (I6 (↑j : Int)), .dptr [(S6 ((List.getD m j me0).t)), List.getD (mesc m) (j * 3 + 1) U6, .sl (mksc (List.getD m j me0).ms) (List.length (List.getD m j me0).ms) .any], .dptr [.sl (mksc (List.getD m j me0).ms) (List.length (List.getD m j me0).ms) .any], .sl (mksc (List.getD m j me0).ms) (List.length (List.getD m j me0).ms) .any, (I6 (↑(List.length (List.getD m j me0).ms) : Int)), (B6 (decide ((↑(List.length (List.getD m j me0).ms) : Int) > 30))), (B6 (decide ((↑(List.length (List.getD m j me0).ms) : Int) > 30)))] ++ UU 25, [⟨(Go.Cnt.CB kind base am w m e), 6, .fresh⟩]⟩ (by kernel_rfl) (tt 3) ?_
          refine KL ([41] ++ NN 44 17) ⟨[U6, .ptr 0 0, (B6 false), U6, (I6 (↑j : Int))] ++ UU 56 ++ [(B6 (decide ((↑(List.length (List.getD m j me0).ms) : Int) > 30)))] ++ UU 25, [⟨(Go.Cnt.CB kind base am w m e), 6, .fresh⟩]⟩ ?_
          refine CN (decide ((↑(List.length (List.getD m j me0).ms) : Int) > 30)) (fun h5 => ?_) (fun h5 => ?_)
          · have h5' := of_decide_eq_true h5
            refine SQ (RT 1 ?_)
            refine AWP.ret ?_
            refine FI (B6 false) ?_
            refine Shrink.all ?_ rfl
            (exact dec_no (fun hc => by have := hc.2.2.1 j (by omega); omega); done)
          · have h5' := of_decide_eq_false h5
            refine AWP.skip (AWP.reg ?_)
            refine DerQ.run (TT 3) ⟨[U6, .ptr 0 0, (B6 false), U6, (I6 (IntKind.wrap IntKind.i64 ((↑j : Int) + 1)))] ++ UU 37 ++ [(I6 (↑j : Int)), (I6 (IntKind.wrap IntKind.i64 ((↑j : Int) + 1)))] ++ UU 17 ++ [(B6 (decide ((↑(List.length (List.getD m j me0).ms) : Int) > 30)))] ++ UU 25, [⟨(Go.Cnt.CB kind base am w m e), 6, .fresh⟩]⟩ (by kernel_rfl) (tt 3) ?_
            rw [IntWalk.i64_in ((↑j : Int) + 1) (by omega)]
            (exact ⟨_, by omega, j + 1, rfl, by omega, succ_all hd2 (by omega), by kernel_rfl⟩; done)
        · have h4' := of_decide_eq_true h4
          refine DerQ.run (True ∧ True) ⟨[U6, .ptr 0 0, (B6 false), U6, (I6 (↑j : Int))] ++ UU 36 ++ [(B6 (decide ((↑j : Int) < (↑(List.length m) : Int)))), U6, U6, .ptr 0 4, .sl (mesc m) (List.length m) .any, (I6 (↑j : Int)), .dptr [(S6 ((List.getD m j me0).t)), List.getD (mesc m) (j * 3 + 1) U6, .sl (mksc (List.getD m j me0).ms) (List.length (List.getD m j me0).ms) .any], .dptr [(S6 ((List.getD m j me0).t))], (S6 ((List.getD m j me0).t)), (I6 (↑(ByteArray.size (List.getD m j me0).t) : Int)), (B6 true), (B6 true), .tup [], .tup [], .tup [], .tup [], .tup [], .tup [], .tup [], .tup [], (B6 true)] ++ UU 25, [⟨(Go.Cnt.CB kind base am w m e), 6, .fresh⟩]⟩ (by kernel_rfl) ⟨trivial, trivial⟩ ?_
          refine KL ([41] ++ NN 44 17) ⟨[U6, .ptr 0 0, (B6 false), U6, (I6 (↑j : Int))] ++ UU 56 ++ [(B6 true)] ++ UU 25, [⟨(Go.Cnt.CB kind base am w m e), 6, .fresh⟩]⟩ ?_
          refine CN true (fun _ => ?_) (fun h => nomatch h)
          refine SQ (RT 1 ?_)
          refine AWP.ret ?_
          refine FI (B6 false) ?_
          refine Shrink.all ?_ rfl
          (exact dec_no (fun hc => by have := hc.2.2.1 j (by omega); omega); done)
      · have h3' := of_decide_eq_false h3
        refine AWP.exit ?_
        refine AWP.seq (SQ (RT 1 ?_))
        refine AWP.block (KL [4, 41] ⟨[U6, .ptr 0 0, (B6 false), U6, U6, (I6 0)] ++ UU 81, [⟨(Go.Cnt.CB kind base am w m e), 6, .fresh⟩]⟩ ?_)
        refine AWP.loopM [false, true, true, false, false, true, false, false, false, false, false, false, false, false, false, false, false, false, false, false, false, false, false, false, false, false, false, false, false, false, false, false, false, false, false, false, false, false, false, false, false, false, false, false, false, false, false, false, false, false, false, false, false, false, false, false, false, false, false, false, false, false, false, false, false, false, false, false, false, false, false, false, false, false, false, false, false, false, false, false, false, false, false, false, false, false, false] (fun kk st => ∃ (q : Nat), kk = e.length - q ∧ q ≤ e.length ∧ (∀ x, x < q → (e.getD x el0).t.size ≤ 100 ∧ (e.getD x el0).ms.length ≤ 30) ∧ st = ⟨[U6, .ptr 0 0, (B6 false), U6, U6, (I6 (q : Int)), U6, U6, U6, U6, U6, U6, U6, U6, U6, U6, U6, U6, U6, U6, U6, U6, U6, U6, U6, U6, U6, U6, U6, U6, U6, U6, U6, U6, U6, U6, U6, U6, U6, U6, U6, U6, U6, U6, U6, U6, U6, U6, U6, U6, U6, U6, U6, U6, U6, U6, U6, U6, U6, U6, U6, U6, U6, U6, U6, U6, U6, U6, U6, U6, U6, U6, U6, U6, U6, U6, U6, U6, U6, U6, U6, U6, U6, U6, U6, U6, .undef], [⟨(Go.Cnt.CB kind base am w m e), 6, .fresh⟩]⟩) _ ⟨0, rfl, by omega, fun x h => absurd h (by omega), by kernel_rfl⟩ ?_
        rintro kk s ⟨q, rfl, hq, hd3, rfl⟩
        refine AWP.seq (SQ (RI (True ∧ True ∧ 5 < 6 ∧ True ∧ True ∧ True) ⟨trivial, trivial, (by omega), trivial, trivial, trivial⟩ ?_))
        refine KL [62, 63, 64, 65] ⟨[U6, .ptr 0 0, (B6 false), U6, U6, (I6 (↑q : Int))] ++ UU 60 ++ [(B6 (decide ((↑q : Int) < (↑(List.length e) : Int))))] ++ UU 20, [⟨(Go.Cnt.CB kind base am w m e), 6, .fresh⟩]⟩ ?_
        refine CN (decide ((↑q : Int) < (↑(List.length e) : Int))) (fun h4 => ?_) (fun h4 => ?_)
        · have h4' := of_decide_eq_true h4
          refine AWP.skip (AWP.seq (AWP.block (SQ ?_)))
          refine DerQ.pre 6 (True ∧ 5 < 6 ∧ True ∧ (((0 ≤ (↑q : Int)) ∧ ((↑q : Int) < (↑(List.length e) : Int))) ∧ (Int.toNat (↑q : Int) * 9 + 9 ≤ List.length (elsc e))) ∧ 8 ≤ 9 ∧ 0 < 1 ∧ True) ⟨[U6, .ptr 0 0, (B6 false), U6, U6, (I6 (↑q : Int))] ++ UU 60 ++ [(B6 (decide ((↑q : Int) < (↑(List.length e) : Int)))), U6, U6, .ptr 0 5, .sl (elsc e) (List.length e) .any, (I6 (↑q : Int)), .dptr [List.getD (elsc e) (Int.toNat (↑q : Int) * 9 + 0) U6, List.getD (elsc e) (Int.toNat (↑q : Int) * 9 + 1) U6, List.getD (elsc e) (Int.toNat (↑q : Int) * 9 + 2) U6, List.getD (elsc e) (Int.toNat (↑q : Int) * 9 + 3) U6, List.getD (elsc e) (Int.toNat (↑q : Int) * 9 + 4) U6, List.getD (elsc e) (Int.toNat (↑q : Int) * 9 + 5) U6, List.getD (elsc e) (Int.toNat (↑q : Int) * 9 + 6) U6, List.getD (elsc e) (Int.toNat (↑q : Int) * 9 + 7) U6, List.getD (elsc e) (Int.toNat (↑q : Int) * 9 + 8) AVal.undef], .dptr [List.getD (elsc e) (Int.toNat (↑q : Int) * 9 + 7) AVal.undef], List.getD [List.getD (elsc e) (Int.toNat (↑q : Int) * 9 + 7) AVal.undef] 0 AVal.undef] ++ UU 12, [⟨(Go.Cnt.CB kind base am w m e), 6, .fresh⟩]⟩ (by kernel_rfl) ⟨trivial, (by omega), trivial, ⟨⟨(by omega), (by omega)⟩, (by (simp [spliceA_length] <;> omega))⟩, (by omega), (by omega), trivial⟩ ?_
          rw [Int.toNat_natCast (q)]
          rw [Nat.add_zero (q * 9)]
          rw [Go.Cnt.el_7 (e) (q) (by omega)]
          rw [Go.Cnt.el_8 (e) (q) (by omega)]
          refine DerQ.pre 3 (TT 3) ⟨[U6, .ptr 0 0, (B6 false), U6, U6, (I6 (↑q : Int))] ++ UU 60 ++ [(B6 (decide ((↑q : Int) < (↑(List.length e) : Int)))), U6, U6, .ptr 0 5, .sl (elsc e) (List.length e) .any, (I6 (↑q : Int)), .dptr [List.getD (elsc e) (q * 9) U6, List.getD (elsc e) (q * 9 + 1) U6, List.getD (elsc e) (q * 9 + 2) U6, List.getD (elsc e) (q * 9 + 3) U6, List.getD (elsc e) (q * 9 + 4) U6, List.getD (elsc e) (q * 9 + 5) U6, List.getD (elsc e) (q * 9 + 6) U6, (S6 ((List.getD e q el0).t)), .sl (mksc (List.getD e q el0).ms) (List.length (List.getD e q el0).ms) .any], .dptr [(S6 ((List.getD e q el0).t))], (S6 ((List.getD e q el0).t)), (I6 (↑(ByteArray.size (List.getD e q el0).t) : Int)), (B6 (decide ((↑(ByteArray.size (List.getD e q el0).t) : Int) > 100))), (B6 (decide ((↑(ByteArray.size (List.getD e q el0).t) : Int) > 100)))] ++ UU 9, [⟨(Go.Cnt.CB kind base am w m e), 6, .fresh⟩]⟩ (by kernel_rfl) (tt 3) ?_
          cases h5 : (decide ((↑(ByteArray.size (List.getD e q el0).t) : Int) > 100))
          · have h5' := of_decide_eq_false h5
            refine DerQ.pre 6 (True ∧ 5 < 6 ∧ True ∧ (((0 ≤ (↑q : Int)) ∧ ((↑q : Int) < (↑(List.length e) : Int))) ∧ (Int.toNat (↑q : Int) * 9 + 9 ≤ List.length (elsc e))) ∧ 9 ≤ 9 ∧ 0 < 1 ∧ True) ⟨[U6, .ptr 0 0, (B6 false), U6, U6, (I6 (↑q : Int))] ++ UU 60 ++ [(B6 (decide ((↑q : Int) < (↑(List.length e) : Int)))), U6, U6, .ptr 0 5, .sl (elsc e) (List.length e) .any, (I6 (↑q : Int)), .dptr [List.getD (elsc e) (q * 9) U6, List.getD (elsc e) (q * 9 + 1) U6, List.getD (elsc e) (q * 9 + 2) U6, List.getD (elsc e) (q * 9 + 3) U6, List.getD (elsc e) (q * 9 + 4) U6, List.getD (elsc e) (q * 9 + 5) U6, List.getD (elsc e) (q * 9 + 6) U6, (S6 ((List.getD e q el0).t)), .sl (mksc (List.getD e q el0).ms) (List.length (List.getD e q el0).ms) .any], .dptr [(S6 ((List.getD e q el0).t))], (S6 ((List.getD e q el0).t)), (I6 (↑(ByteArray.size (List.getD e q el0).t) : Int)), (B6 false), (B6 false), .ptr 0 5, .sl (elsc e) (List.length e) .any, (I6 (↑q : Int)), .dptr [List.getD (elsc e) (Int.toNat (↑q : Int) * 9 + 0) U6, List.getD (elsc e) (Int.toNat (↑q : Int) * 9 + 1) U6, List.getD (elsc e) (Int.toNat (↑q : Int) * 9 + 2) U6, List.getD (elsc e) (Int.toNat (↑q : Int) * 9 + 3) U6, List.getD (elsc e) (Int.toNat (↑q : Int) * 9 + 4) U6, List.getD (elsc e) (Int.toNat (↑q : Int) * 9 + 5) U6, List.getD (elsc e) (Int.toNat (↑q : Int) * 9 + 6) U6, List.getD (elsc e) (Int.toNat (↑q : Int) * 9 + 7) U6, List.getD (elsc e) (Int.toNat (↑q : Int) * 9 + 8) AVal.undef], .dptr [List.getD (elsc e) (Int.toNat (↑q : Int) * 9 + 8) AVal.undef], List.getD [List.getD (elsc e) (Int.toNat (↑q : Int) * 9 + 8) AVal.undef] 0 U6, U6, U6, .undef], [⟨(Go.Cnt.CB kind base am w m e), 6, .fresh⟩]⟩ (by kernel_rfl) ⟨trivial, (by omega), trivial, ⟨⟨(by omega), (by omega)⟩, (by (simp [spliceA_length] <;> omega))⟩, (by omega), (by omega), trivial⟩ ?_
            rw [Int.toNat_natCast (q)]
            rw [Nat.add_zero (q * 9)]
            rw [Go.Cnt.el_7 (e) (q) (by omega)]
            rw [Go.Cnt.el_8 (e) (q) (by omega)]
            refine DerQ.run (TT 3) ⟨[U6, .ptr 0 0, (B6 false), U6, U6, (I6 (↑q : Int))] ++ UU 60 ++ [(B6 (decide ((↑q : Int) < (↑(List.length e) : Int)))), U6, U6, .ptr 0 5, .sl (elsc e) (List.length e) .any, (I6 (↑q : Int)), .dptr [List.getD (elsc e) (q * 9) U6, List.getD (elsc e) (q * 9 + 1) U6, List.getD (elsc e) (q * 9 + 2) U6, List.getD (elsc e) (q * 9 + 3) U6, List.getD (elsc e) (q * 9 + 4) U6, List.getD (elsc e) (q * 9 + 5) U6, List.getD (elsc e) (q * 9 + 6) U6, (S6 ((List.getD e q el0).t)), .sl (mksc (List.getD e q el0).ms) (List.length (List.getD e q el0).ms) .any], .dptr [(S6 ((List.getD e q el0).t))], (S6 ((List.getD e q el0).t)), (I6 (↑(ByteArray.size (List.getD e q el0).t) : Int)), (B6 false), (B6 false), .ptr 0 5, .sl (elsc e) (List.length e) .any, (I6 (↑q : Int)), .dptr [List.getD (elsc e) (q * 9) U6, List.getD (elsc e) (q * 9 + 1) U6, List.getD (elsc e) (q * 9 + 2) U6, List.getD (elsc e) (q * 9 + 3) U6, List.getD (elsc e) (q * 9 + 4) U6, List.getD (elsc e) (q * 9 + 5) U6, List.getD (elsc e) (q * 9 + 6) U6, (S6 ((List.getD e q el0).t)), .sl (mksc (List.getD e q el0).ms) (List.length (List.getD e q el0).ms) .any], .dptr [.sl (mksc (List.getD e q el0).ms) (List.length (List.getD e q el0).ms) .any], .sl (mksc (List.getD e q el0).ms) (List.length (List.getD e q el0).ms) .any, (I6 (↑(List.length (List.getD e q el0).ms) : Int)), (B6 (decide ((↑(List.length (List.getD e q el0).ms) : Int) > 30))), (B6 (decide ((↑(List.length (List.getD e q el0).ms) : Int) > 30)))], [⟨(Go.Cnt.CB kind base am w m e), 6, .fresh⟩]⟩ (by kernel_rfl) (tt 3) ?_
            refine KL ([66] ++ NN 69 17) ⟨[U6, .ptr 0 0, (B6 false), U6, U6, (I6 (↑q : Int))] ++ UU 80 ++ [(B6 (decide ((↑(List.length (List.getD e q el0).ms) : Int) > 30)))], [⟨(Go.Cnt.CB kind base am w m e), 6, .fresh⟩]⟩ ?_
            refine CN (decide ((↑(List.length (List.getD e q el0).ms) : Int) > 30)) (fun h6 => ?_) (fun h6 => ?_)
            · have h6' := of_decide_eq_true h6
              refine SQ (RT 1 ?_)
              refine AWP.ret ?_
              refine FI (B6 false) ?_
              refine Shrink.all ?_ rfl
              (exact dec_no (fun hc => by have := hc.2.2.2 q (by omega); omega); done)
            · have h6' := of_decide_eq_false h6
              refine AWP.skip (AWP.reg ?_)
              refine DerQ.run (TT 3) ⟨[U6, .ptr 0 0, (B6 false), U6, U6, (I6 (IntKind.wrap IntKind.i64 ((↑q : Int) + 1)))] ++ UU 61 ++ [(I6 (↑q : Int)), (I6 (IntKind.wrap IntKind.i64 ((↑q : Int) + 1)))] ++ UU 17 ++ [(B6 (decide ((↑(List.length (List.getD e q el0).ms) : Int) > 30)))], [⟨(Go.Cnt.CB kind base am w m e), 6, .fresh⟩]⟩ (by kernel_rfl) (tt 3) ?_
              rw [IntWalk.i64_in ((↑q : Int) + 1) (by omega)]
              (exact ⟨_, by omega, q + 1, rfl, by omega, succ_all hd3 (by omega), by kernel_rfl⟩; done)
          · have h5' := of_decide_eq_true h5
            refine DerQ.run (True ∧ True) ⟨[U6, .ptr 0 0, (B6 false), U6, U6, (I6 (↑q : Int))] ++ UU 60 ++ [(B6 (decide ((↑q : Int) < (↑(List.length e) : Int)))), U6, U6, .ptr 0 5, .sl (elsc e) (List.length e) .any, (I6 (↑q : Int)), .dptr [List.getD (elsc e) (q * 9) U6, List.getD (elsc e) (q * 9 + 1) U6, List.getD (elsc e) (q * 9 + 2) U6, List.getD (elsc e) (q * 9 + 3) U6, List.getD (elsc e) (q * 9 + 4) U6, List.getD (elsc e) (q * 9 + 5) U6, List.getD (elsc e) (q * 9 + 6) U6, (S6 ((List.getD e q el0).t)), .sl (mksc (List.getD e q el0).ms) (List.length (List.getD e q el0).ms) .any], .dptr [(S6 ((List.getD e q el0).t))], (S6 ((List.getD e q el0).t)), (I6 (↑(ByteArray.size (List.getD e q el0).t) : Int)), (B6 true), (B6 true), .tup [], .tup [], .tup [], .tup [], .tup [], .tup [], .tup [], .tup [], (B6 true)], [⟨(Go.Cnt.CB kind base am w m e), 6, .fresh⟩]⟩ (by kernel_rfl) ⟨trivial, trivial⟩ ?_
            refine KL ([66] ++ NN 69 17) ⟨[U6, .ptr 0 0, (B6 false), U6, U6, (I6 (↑q : Int))] ++ UU 80 ++ [(B6 true)], [⟨(Go.Cnt.CB kind base am w m e), 6, .fresh⟩]⟩ ?_
            refine CN true (fun _ => ?_) (fun h => nomatch h)
            refine SQ (RT 1 ?_)
            refine AWP.ret ?_
            refine FI (B6 false) ?_
            refine Shrink.all ?_ rfl
            (exact dec_no (fun hc => by have := hc.2.2.2 q (by omega); omega); done)
        · have h4' := of_decide_eq_false h4
          refine AWP.exit ?_
          refine SQ (RT 1 ?_)
          refine AWP.ret ?_
          refine FI (B6 true) ?_
          refine Shrink.all ?_ rfl
          (exact dec_yes ⟨by simp only [IntKind.wrap_i64] at *; omega, fun x hx => hd x (by omega), fun x hx => hd2 x (by omega), fun x hx => hd3 x (by omega)⟩; done)
end Go.Cnt
