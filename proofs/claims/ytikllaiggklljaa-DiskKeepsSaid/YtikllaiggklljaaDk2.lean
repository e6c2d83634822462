/- Walks and laws. -/
import Derived.Test.YtikllaiggklljaaDk1
import Derived.Test.YtikllaiggklljaaLibC
set_option maxRecDepth 100000
set_option maxHeartbeats 0
set_option linter.unusedSimpArgs false
set_option linter.unusedVariables false
namespace Go.Dk
open Go Go.Abs Go.Proofs
theorem shr_cut {N : Nat} {rows rows' : List Row} {x x' : AVal} (k : Nat) (h1 : rows.take k = rows') (h2 : x = x') (hN : N ≤ rows'.length) (hw : WfRows rows'.length rows') (hr : x'.refLt rows'.length = true) : Shrink N rows x rows' x' := by
  subst h2
  have e : rows = rows' ++ rows.drop k := by rw [← h1, List.take_append_drop]
  rw [e]
  exact Shrink.drop hN hw hr
theorem half (i j : Nat) (hj : i + j ≤ 1000000) : IntKind.wrap IntKind.i64 (Int.fdiv ((i : Int) + (j : Int)) 2) = (((i + j) / 2 : Nat) : Int) := by
  rw [Int.fdiv_eq_ediv_of_nonneg _ (by omega), IntKind.wrap_i64]; omega
theorem cmpB_lt {a b : ByteArray} : cmpB a b < 0 ↔ ltB a b := by
  unfold cmpB
  by_cases h : ltB a b
  · simp [h]
  · rw [if_neg h]
    by_cases h2 : ltB b a <;> simp [h, h2]
theorem cmpB_eq {a b : ByteArray} (h : ¬ ltB a b) : cmpB a b = 0 ↔ a = b := by
  unfold cmpB
  rw [if_neg h]
  by_cases h2 : ltB b a
  · simp only [h2, if_true]
    exact ⟨fun e => by omega, fun e => by subst e; exact absurd h2 h⟩
  · simp only [h2, if_false, true_iff]
    by_cases e : a = b
    · exact e
    · exact absurd (ltB_tri (fun h3 => h3.elim h e)) h2
def sumU (l : List FileD) : Nat → Int
  | 0 => 0
  | i + 1 => sumU l i + ((l.getD i fi0).d.length : Int)
theorem sumU_eq (l : List FileD) (i : Nat) (h : i ≤ l.length) : sumU l i = usedL (l.take i) := by
  induction i with
  | zero => simp [sumU, usedL]
  | succ i ih => rw [sumU, ih (by omega), usedL_succ l i (by omega)]
theorem sumU_all (l : List FileD) : sumU l l.length = usedL l := by rw [sumU_eq l _ (Nat.le_refl _), List.take_length]
theorem sumU_bd (l : List FileD) (i : Nat) (h : i ≤ l.length) : 0 ≤ sumU l i ∧ (i < l.length → sumU l i + ((l.getD i fi0).d.length : Int) ≤ usedL l) := by
  constructor
  · rw [sumU_eq l i h]; exact usedL_nn _
  · intro h2
    have h3 := usedL_take_le l (i + 1)
    rw [← sumU_eq l (i + 1) h2] at h3
    exact h3
theorem has_dec {l : List FileD} (hs : Srt l) {s : ByteArray} (h : low l s < l.length) : (cmpB (l.getD (low l s) fi0).nm s == 0) = decide (has l s) := by
  have h1 : ¬ ltB (l.getD (low l s) fi0).nm s := fun e => Nat.lt_irrefl _ ((low_spec hs s _ h).1 e)
  rw [Bool.eq_iff_iff, beq_iff_eq, cmpB_eq h1, decide_eq_true_iff]
  exact ⟨fun e => ⟨h, e⟩, fun e => e.2⟩
theorem search (l : List FileD) (hs : Srt l) (hx : l.length ≤ 100000) (s : ByteArray) : EvD Try.prog 88 [.sl (fisc l) l.length .any, .sc (.string s), .fn 89 []] (.tup [.sc (.int .i64 (low l s : Nat)), .sc (.bool (decide (has l s)))]) := by
  have hll := low_le l s
  refine EvD.body Try.func88 rfl (by simp [dataAll, AVal.data, *]) (by simp [dataAll, AVal.data, *]) ?_
  refine AWP.seq ?_
  refine TO ⟨[.sl (fisc l) (List.length l) .any, (S6 s), .fn 89 []] ++ UU 46, []⟩ ?_
  refine AWP.reg (RT 2 ?_)
  refine AWP.seq ?_
  refine TO ⟨[.sl (fisc l) (List.length l) .any, (S6 s), .fn 89 [], U6, U6, U6, (I6 0), (B6 false)] ++ UU 41, []⟩ ?_
  refine AWP.reg (RT 3 ?_)
  refine AWP.seq (KL [12, 13] ⟨[.sl (fisc l) (List.length l) .any, (S6 s), .fn 89 [], U6, U6, U6, (I6 0), (B6 false), (I6 (↑(List.length l) : Int))] ++ UU 40, []⟩ ?_)
  refine AWP.reg (RT 3 ?_)
  refine AWP.seq (AWP.block (KL [14] ⟨[.sl (fisc l) (List.length l) .any, (S6 s), .fn 89 [], U6, U6, U6, (I6 0), (B6 false), (I6 (↑(List.length l) : Int)), (I6 0), (I6 (↑(List.length l) : Int))] ++ UU 38, []⟩ ?_))
  refine AWP.loopM [true, true, true, false, false, false, true, true, true, true, true, false, false, false, false, false, false, false, false, false, false, false, false, false, false, false, false, false, false, false, false, false, false, false, false, false, false, false, false, false, false, false, false, false, false, false, false, false, false] (fun kk st => ∃ (i j : Nat), kk = j - i ∧ i ≤ low l s ∧ low l s ≤ j ∧ j ≤ l.length ∧ st = ⟨[.sl (fisc l) (List.length l) .any, (S6 s), .fn 89 [], U6, U6, U6, (I6 0), (B6 false), (I6 (↑(List.length l) : Int)), (I6 (i : Int)), (I6 (j : Int)), U6, U6, U6, U6, U6, U6, U6, U6, U6, U6, U6, U6, U6, U6, U6, U6, U6, U6, U6, U6, U6, U6, U6, U6, U6, U6, U6, U6, U6, U6, U6, U6, U6, U6, U6, U6, U6, .undef], []⟩) _ ⟨0, l.length, rfl, by omega, by omega, by omega, by kernel_rfl⟩ ?_
  rintro kk s ⟨i, j, rfl, hi, hj, hjl, rfl⟩
  have hls := low_spec hs s ((i + j) / 2)
  refine AWP.seq (SQ (RT 3 ?_))
  refine KL [15, 16] ⟨[.sl (fisc l) (List.length l) .any, (S6 s), .fn 89 [], U6, U6, U6, (I6 0), (B6 false), (I6 (↑(List.length l) : Int)), (I6 (↑i : Int)), (I6 (↑j : Int))] ++ UU 6 ++ [(B6 (decide ((↑i : Int) < (↑j : Int))))] ++ UU 31, []⟩ ?_
  refine CN (decide ((↑i : Int) < (↑j : Int))) (fun h1 => ?_) (fun h1 => ?_)
  · have h1' := of_decide_eq_true h1
    refine AWP.skip (AWP.block (SQ ?_))
    refine DerQ.run (True ∧ True ∧ True ∧ True ∧ ((0 : Int) ≤ (1 : Int)) ∧ True ∧ True ∧ True) ⟨[.sl (fisc l) (List.length l) .any, (S6 s), .fn 89 [], U6, U6, U6, (I6 0), (B6 false), (I6 (↑(List.length l) : Int)), (I6 (↑i : Int)), (I6 (↑j : Int)), (I6 (IntKind.wrap IntKind.i64 (Int.fdiv (IntKind.wrap IntKind.u64 (IntKind.wrap IntKind.i64 ((↑i : Int) + (↑j : Int)))) 2)))] ++ UU 5 ++ [(B6 (decide ((↑i : Int) < (↑j : Int)))), (I6 (↑i : Int)), (I6 (↑j : Int)), (I6 (IntKind.wrap IntKind.i64 ((↑i : Int) + (↑j : Int)))), .sc (.int .u64 (IntKind.wrap IntKind.u64 (IntKind.wrap IntKind.i64 ((↑i : Int) + (↑j : Int))))), .sc (.int .u64 (Int.fdiv (IntKind.wrap IntKind.u64 (IntKind.wrap IntKind.i64 ((↑i : Int) + (↑j : Int)))) 2)), (I6 (IntKind.wrap IntKind.i64 (Int.fdiv (IntKind.wrap IntKind.u64 (IntKind.wrap IntKind.i64 ((↑i : Int) + (↑j : Int)))) 2)))] ++ UU 25, []⟩ (by kernel_rfl) ⟨trivial, trivial, trivial, trivial, (by omega), trivial, trivial, trivial⟩ ?_
    rw [IntWalk.i64_in ((↑i : Int) + (↑j : Int)) (by omega)]
    rw [IntWalk.u64_in ((↑i : Int) + (↑j : Int)) (by omega)]
    rw [Go.Dk.half (i) (j) (by omega)]
    refine AWP.seq (KL (NN 17 7) ⟨[.sl (fisc l) (List.length l) .any, (S6 s), .fn 89 [], U6, U6, U6, (I6 0), (B6 false), (I6 (↑(List.length l) : Int)), (I6 (↑i : Int)), (I6 (↑j : Int)), (I6 (↑((i + j) / 2) : Int))] ++ UU 37, []⟩ ?_)
    refine AWP.reg ?_
    refine DerQ.pre 6 (True ∧ True ∧ True ∧ (((0 ≤ (↑((i + j) / 2) : Int)) ∧ ((↑((i + j) / 2) : Int) < (↑(List.length l) : Int))) ∧ (Int.toNat (↑((i + j) / 2) : Int) * 3 + 3 ≤ List.length (fisc l))) ∧ 3 ≤ 3 ∧ True ∧ True) ⟨[.sl (fisc l) (List.length l) .any, (S6 s), .fn 89 [], U6, U6, U6, (I6 0), (B6 false), (I6 (↑(List.length l) : Int)), (I6 (↑i : Int)), (I6 (↑j : Int)), (I6 (↑((i + j) / 2) : Int))] ++ UU 12 ++ [.fn 89 [], .sl (fisc l) (List.length l) .any, (I6 (↑((i + j) / 2) : Int)), .dptr [List.getD (fisc l) (Int.toNat (↑((i + j) / 2) : Int) * 3 + 0) U6, List.getD (fisc l) (Int.toNat (↑((i + j) / 2) : Int) * 3 + 1) U6, List.getD (fisc l) (Int.toNat (↑((i + j) / 2) : Int) * 3 + 2) AVal.undef], .agg [List.getD (fisc l) (Int.toNat (↑((i + j) / 2) : Int) * 3 + 0) U6, List.getD (fisc l) (Int.toNat (↑((i + j) / 2) : Int) * 3 + 1) U6, List.getD (fisc l) (Int.toNat (↑((i + j) / 2) : Int) * 3 + 2) AVal.undef], (S6 s)] ++ UU 19, []⟩ (by kernel_rfl) ⟨trivial, trivial, trivial, ⟨⟨(by omega), (by omega)⟩, (by (simp [spliceA_length] <;> omega))⟩, (by omega), trivial, trivial⟩ ?_
    rw [Int.toNat_natCast ((i + j) / 2)]
    rw [Nat.add_zero ((i + j) / 2 * 3)]
    rw [Go.Dk.fi_cells (l) ((i + j) / 2) (by omega)]
    refine DerQ.callD (place1 (List.getD l ((i + j) / 2) fi0) s) ⟨[.sl (fisc l) (List.length l) .any, (S6 s), .fn 89 [], U6, U6, U6, (I6 0), (B6 false), (I6 (↑(List.length l) : Int)), (I6 (↑i : Int)), (I6 (↑j : Int)), (I6 (↑((i + j) / 2) : Int))] ++ UU 12 ++ [.fn 89 [], .sl (fisc l) (List.length l) .any, (I6 (↑((i + j) / 2) : Int)), .dptr [(S6 ((List.getD l ((i + j) / 2) fi0).nm)), .sl (u8s (List.getD l ((i + j) / 2) fi0).d) (List.length (List.getD l ((i + j) / 2) fi0).d) .any, (I6 ((List.getD l ((i + j) / 2) fi0).sf))], .agg [(S6 ((List.getD l ((i + j) / 2) fi0).nm)), .sl (u8s (List.getD l ((i + j) / 2) fi0).d) (List.length (List.getD l ((i + j) / 2) fi0).d) .any, (I6 ((List.getD l ((i + j) / 2) fi0).sf))], (S6 s), (I6 (cmpB (List.getD l ((i + j) / 2) fi0).nm s))] ++ UU 18, []⟩ ⟨by kernel_rfl, by kernel_rfl, by kernel_rfl⟩ ?_
    refine DerQ.run (True ∧ True) ⟨[.sl (fisc l) (List.length l) .any, (S6 s), .fn 89 [], U6, U6, U6, (I6 0), (B6 false), (I6 (↑(List.length l) : Int)), (I6 (↑i : Int)), (I6 (↑j : Int)), (I6 (↑((i + j) / 2) : Int))] ++ UU 12 ++ [.fn 89 [], .sl (fisc l) (List.length l) .any, (I6 (↑((i + j) / 2) : Int)), .dptr [(S6 ((List.getD l ((i + j) / 2) fi0).nm)), .sl (u8s (List.getD l ((i + j) / 2) fi0).d) (List.length (List.getD l ((i + j) / 2) fi0).d) .any, (I6 ((List.getD l ((i + j) / 2) fi0).sf))], .agg [(S6 ((List.getD l ((i + j) / 2) fi0).nm)), .sl (u8s (List.getD l ((i + j) / 2) fi0).d) (List.length (List.getD l ((i + j) / 2) fi0).d) .any, (I6 ((List.getD l ((i + j) / 2) fi0).sf))], (S6 s), (I6 (cmpB (List.getD l ((i + j) / 2) fi0).nm s)), (B6 (decide (cmpB (List.getD l ((i + j) / 2) fi0).nm s < 0)))] ++ UU 17, []⟩ (by kernel_rfl) ⟨trivial, trivial⟩ ?_
    refine KL (NN 24 7) ⟨[.sl (fisc l) (List.length l) .any, (S6 s), .fn 89 [], U6, U6, U6, (I6 0), (B6 false), (I6 (↑(List.length l) : Int)), (I6 (↑i : Int)), (I6 (↑j : Int)), (I6 (↑((i + j) / 2) : Int))] ++ UU 19 ++ [(B6 (decide (cmpB (List.getD l ((i + j) / 2) fi0).nm s < 0)))] ++ UU 17, []⟩ ?_
    refine CN (decide (cmpB (List.getD l ((i + j) / 2) fi0).nm s < 0)) (fun h2 => ?_) (fun h2 => ?_)
    · have h2' := of_decide_eq_true h2
      refine AWP.reg ?_
      refine DerQ.run (TT 3) ⟨[.sl (fisc l) (List.length l) .any, (S6 s), .fn 89 [], U6, U6, U6, (I6 0), (B6 false), (I6 (↑(List.length l) : Int)), (I6 (IntKind.wrap IntKind.i64 ((↑((i + j) / 2) : Int) + 1))), (I6 (↑j : Int)), (I6 (↑((i + j) / 2) : Int))] ++ UU 19 ++ [(B6 (decide (cmpB (List.getD l ((i + j) / 2) fi0).nm s < 0))), (I6 (↑((i + j) / 2) : Int)), (I6 (IntKind.wrap IntKind.i64 ((↑((i + j) / 2) : Int) + 1)))] ++ UU 15, []⟩ (by kernel_rfl) (tt 3) ?_
      rw [IntWalk.i64_in ((↑((i + j) / 2) : Int) + 1) (by omega)]
      ((have g9 := (hls (by omega)).1 (cmpB_lt.1 (by assumption)); exact ⟨_, by omega, (i + j) / 2 + 1, j, rfl, by omega, by omega, by omega, by kernel_rfl⟩); done)
    · have h2' := of_decide_eq_false h2
      refine AWP.reg ?_
      refine DerQ.run (TT 2) ⟨[.sl (fisc l) (List.length l) .any, (S6 s), .fn 89 [], U6, U6, U6, (I6 0), (B6 false), (I6 (↑(List.length l) : Int)), (I6 (↑i : Int)), (I6 (↑((i + j) / 2) : Int)), (I6 (↑((i + j) / 2) : Int))] ++ UU 19 ++ [(B6 (decide (cmpB (List.getD l ((i + j) / 2) fi0).nm s < 0))), U6, U6, (I6 (↑((i + j) / 2) : Int))] ++ UU 14, []⟩ (by kernel_rfl) (tt 2) ?_
      ((have g9 : ¬ ((i + j) / 2 < low l s) := fun e => absurd (cmpB_lt.2 ((hls (by omega)).2 e)) (by assumption); exact ⟨_, by omega, i, (i + j) / 2, rfl, by omega, by omega, by omega, by kernel_rfl⟩); done)
  · have h1' := of_decide_eq_false h1
    refine AWP.exit ?_
    refine SQ (PT 5 5 ?_)
    refine DerQ.to ⟨[.sl (fisc l) (List.length l) .any, (S6 s), .fn 89 [], U6, U6, U6, (I6 0), (B6 false), (I6 (↑(List.length l) : Int)), (I6 (↑i : Int)), (I6 (↑j : Int))] ++ UU 6 ++ [(B6 (decide ((↑i : Int) < (↑j : Int))))] ++ UU 17 ++ [(I6 (↑i : Int)), (I6 (↑i : Int)), (I6 (↑(List.length l) : Int)), (B6 (decide ((↑i : Int) < (↑(List.length l) : Int)))), (B6 (decide ((↑i : Int) < (↑(List.length l) : Int))))] ++ UU 9, []⟩ (by kernel_rfl) ?_
    cases h2 : (decide ((↑i : Int) < (↑(List.length l) : Int)))
    · have h2' := of_decide_eq_false h2
      refine RT 3 ?_
      refine AWP.ret ?_
      refine FI (.tup [(I6 (↑i : Int)), (B6 false)]) ?_
      refine Shrink.all ?_ rfl
      (((obtain rfl : i = low l s := by omega); rw [decide_eq_false (fun e => by have := e.1; omega)]); done)
    · have h2' := of_decide_eq_true h2
      refine DerQ.pre 6 (True ∧ True ∧ True ∧ (((0 ≤ (↑i : Int)) ∧ ((↑i : Int) < (↑(List.length l) : Int))) ∧ (Int.toNat (↑i : Int) * 3 + 3 ≤ List.length (fisc l))) ∧ 3 ≤ 3 ∧ True ∧ True) ⟨[.sl (fisc l) (List.length l) .any, (S6 s), .fn 89 [], U6, U6, U6, (I6 0), (B6 false), (I6 (↑(List.length l) : Int)), (I6 (↑i : Int)), (I6 (↑j : Int))] ++ UU 6 ++ [(B6 (decide ((↑i : Int) < (↑j : Int))))] ++ UU 17 ++ [(I6 (↑i : Int)), (I6 (↑i : Int)), (I6 (↑(List.length l) : Int)), (B6 true), (B6 true), .fn 89 [], .sl (fisc l) (List.length l) .any, (I6 (↑i : Int)), .dptr [List.getD (fisc l) (Int.toNat (↑i : Int) * 3 + 0) U6, List.getD (fisc l) (Int.toNat (↑i : Int) * 3 + 1) U6, List.getD (fisc l) (Int.toNat (↑i : Int) * 3 + 2) AVal.undef], .agg [List.getD (fisc l) (Int.toNat (↑i : Int) * 3 + 0) U6, List.getD (fisc l) (Int.toNat (↑i : Int) * 3 + 1) U6, List.getD (fisc l) (Int.toNat (↑i : Int) * 3 + 2) AVal.undef], (S6 s), U6, U6, .undef], []⟩ (by kernel_rfl) ⟨trivial, trivial, trivial, ⟨⟨(by omega), (by omega)⟩, (by (simp [spliceA_length] <;> omega))⟩, (by omega), trivial, trivial⟩ ?_
      rw [Int.toNat_natCast (i)]
      rw [Nat.add_zero (i * 3)]
      rw [Go.Dk.fi_cells (l) (i) (by omega)]
      refine CD (place1 (List.getD l i fi0) s) ?_
      refine RT 4 ?_
      refine AWP.ret ?_
      refine FI (.tup [(I6 (↑i : Int)), (B6 (cmpB (List.getD l i fi0).nm s == 0))]) ?_
      refine Shrink.all ?_ rfl
      (((obtain rfl : i = low l s := by omega); rw [has_dec hs (by omega)]); done)
theorem used (l : List FileD) (room arm : Int) (dead : Bool) (hx : l.length ≤ 1000) (hu : usedL l ≤ 1048576) : EvK Try.prog 85 [.ptr 0 0] ⟨[.sl (fisc l) l.length .any, .sc (.int .i64 room), .sc (.int .i64 arm), .sc (.bool dead)], 4, .fresh⟩ (.sc (.int .i64 (usedL l))) ⟨[.sl (fisc l) l.length .any, .sc (.int .i64 room), .sc (.int .i64 arm), .sc (.bool dead)], 4, .fresh⟩ := by
  refine EvK.ofF ?_ ⟨rfl, rfl, by rfl, by rfl, rfl, rfl, by show 0 < 4; omega, by show 4 ≤ 4; omega, by simp [fic, ltAll, AVal.refLt], rfl⟩
  rw [← sumU_all l]
  refine EvF.body Try.func85 rfl (fun _ => ?_)
  refine AWP.seq ?_
  refine TO ⟨[.ptr 0 0] ++ UU 22, [⟨[.sl (fisc l) (List.length l) .any, (I6 room), (I6 arm), (B6 dead)], 4, .fresh⟩]⟩ ?_
  refine AWP.reg (RT 1 ?_)
  refine AWP.seq ?_
  refine TO ⟨[.ptr 0 0, U6, (I6 0)] ++ UU 20, [⟨[.sl (fisc l) (List.length l) .any, (I6 room), (I6 arm), (B6 dead)], 4, .fresh⟩]⟩ ?_
  refine AWP.reg (RT 1 ?_)
  refine AWP.seq (AWP.seq ?_)
  refine TO ⟨[.ptr 0 0, U6, (I6 0), (I6 0)] ++ UU 19, [⟨[.sl (fisc l) (List.length l) .any, (I6 room), (I6 arm), (B6 dead)], 4, .fresh⟩]⟩ ?_
  refine AWP.reg (RI (True ∧ True ∧ True ∧ True ∧ 0 < 4 ∧ True ∧ True ∧ True) ⟨trivial, trivial, trivial, trivial, (by omega), trivial, trivial, trivial⟩ ?_)
  refine AWP.block (KL [0, 6, 7, 8, 9] ⟨[U6, U6, (I6 0), (I6 0)] ++ UU 6 ++ [.sl (fisc l) (List.length l) .any, (I6 (↑(List.length l) : Int)), (I6 0)] ++ UU 10, [⟨[.sl (fisc l) (List.length l) .any, (I6 room), (I6 arm), (B6 dead)], 4, .fresh⟩]⟩ ?_)
  refine AWP.loopW [false, false, true, true, false, false, false, false, false, false, true, true, true, false, false, false, false, false, false, false, false, false, false] (fun kk st => ∃ (i : Nat), kk = l.length - i ∧ i ≤ l.length ∧ st = ⟨[U6, U6, (I6 0), (I6 (sumU l i)), U6, U6, U6, U6, U6, U6, .sl (fisc l) (List.length l) .any, (I6 (↑(List.length l) : Int)), (I6 (i : Int)), U6, U6, U6, U6, U6, U6, U6, U6, U6, .undef], [⟨[.sl (fisc l) (List.length l) .any, (I6 room), (I6 arm), (B6 dead)], 4, .fresh⟩]⟩) _ ⟨0, rfl, by omega, by kernel_rfl⟩ ?_
  rintro kk s ⟨i, rfl, hi, rfl⟩
  have hsu := sumU_bd l i hi
  refine SQ (RT 1 ?_)
  refine AWP.seq ?_
  refine TO ⟨[U6, U6, (I6 0), (I6 (sumU l i))] ++ UU 6 ++ [.sl (fisc l) (List.length l) .any, (I6 (↑(List.length l) : Int)), (I6 (↑i : Int)), (B6 (decide ((↑i : Int) < (↑(List.length l) : Int))))] ++ UU 9, [⟨[.sl (fisc l) (List.length l) .any, (I6 room), (I6 arm), (B6 dead)], 4, .fresh⟩]⟩ ?_
  refine CN (decide ((↑i : Int) < (↑(List.length l) : Int))) (fun h1 => ?_) (fun h1 => ?_)
  · have h1' := of_decide_eq_true h1
    refine AWP.skip (AWP.seq (AWP.block (SQ ?_)))
    refine DerQ.pre 3 ((((0 ≤ (↑i : Int)) ∧ ((↑i : Int) < (↑(List.length l) : Int))) ∧ (Int.toNat (↑i : Int) * 3 + 3 ≤ List.length (fisc l))) ∧ 3 ≤ 3 ∧ True ∧ True) ⟨[U6, U6, (I6 0), (I6 (sumU l i)), U6, .ptr 1 0, U6, U6, U6, U6, .sl (fisc l) (List.length l) .any, (I6 (↑(List.length l) : Int)), (I6 (↑i : Int)), (B6 (decide ((↑i : Int) < (↑(List.length l) : Int)))), .dptr [List.getD (fisc l) (Int.toNat (↑i : Int) * 3 + 0) U6, List.getD (fisc l) (Int.toNat (↑i : Int) * 3 + 1) U6, List.getD (fisc l) (Int.toNat (↑i : Int) * 3 + 2) AVal.undef], .agg [List.getD (fisc l) (Int.toNat (↑i : Int) * 3 + 0) U6, List.getD (fisc l) (Int.toNat (↑i : Int) * 3 + 1) U6, List.getD (fisc l) (Int.toNat (↑i : Int) * 3 + 2) AVal.undef]] ++ UU 7, [⟨[.sl (fisc l) (List.length l) .any, (I6 room), (I6 arm), (B6 dead)], 4, .fresh⟩, ⟨[(S6 ({ data := #[] })), .sl [] 0 .nil, (I6 0)], 3, .fresh⟩]⟩ (by kernel_rfl) ⟨⟨⟨(by omega), (by omega)⟩, (by (simp [spliceA_length] <;> omega))⟩, (by omega), trivial, trivial⟩ ?_
    rw [Int.toNat_natCast (i)]
    rw [Nat.add_zero (i * 3)]
    rw [Go.Dk.fi_cells (l) (i) (by omega)]
    refine RI (3 ≤ 3 ∧ True) ⟨(by omega), trivial⟩ ?_
    refine KL [13, 14, 15] ⟨[U6, U6, (I6 0), (I6 (sumU l i)), U6, .ptr 1 0, U6, U6, U6, U6, .sl (fisc l) (List.length l) .any, (I6 (↑(List.length l) : Int)), (I6 (↑i : Int))] ++ UU 10, [⟨[.sl (fisc l) (List.length l) .any, (I6 room), (I6 arm), (B6 dead)], 4, .fresh⟩, ⟨[(S6 ((List.getD l i fi0).nm)), .sl (u8s (List.getD l i fi0).d) (List.length (List.getD l i fi0).d) .any, (I6 ((List.getD l i fi0).sf))], 3, .fresh⟩]⟩ ?_
    refine AWP.reg ?_
    refine DerQ.run (True ∧ True ∧ 1 < 3 ∧ True ∧ True ∧ True ∧ True) ⟨[U6, U6, (I6 0), (I6 (IntKind.wrap IntKind.i64 (sumU l i + (↑(List.length (List.getD l i fi0).d) : Int)))), U6, .ptr 1 0, U6, U6, U6, U6, .sl (fisc l) (List.length l) .any, (I6 (↑(List.length l) : Int)), (I6 (↑i : Int)), U6, U6, U6, (I6 (sumU l i)), .ptr 1 1, .sl (u8s (List.getD l i fi0).d) (List.length (List.getD l i fi0).d) .any, (I6 (↑(List.length (List.getD l i fi0).d) : Int)), (I6 (IntKind.wrap IntKind.i64 (sumU l i + (↑(List.length (List.getD l i fi0).d) : Int)))), U6, .undef], [⟨[.sl (fisc l) (List.length l) .any, (I6 room), (I6 arm), (B6 dead)], 4, .fresh⟩, ⟨[(S6 ((List.getD l i fi0).nm)), .sl (u8s (List.getD l i fi0).d) (List.length (List.getD l i fi0).d) .any, (I6 ((List.getD l i fi0).sf))], 3, .fresh⟩]⟩ (by kernel_rfl) ⟨trivial, trivial, (by omega), trivial, trivial, trivial, trivial⟩ ?_
    rw [IntWalk.i64_in (sumU l i + (↑(List.length (List.getD l i fi0).d) : Int)) (by omega)]
    refine KL ([5] ++ NN 16 5) ⟨[U6, U6, (I6 0), (I6 (sumU l i + (↑(List.length (List.getD l i fi0).d) : Int)))] ++ UU 6 ++ [.sl (fisc l) (List.length l) .any, (I6 (↑(List.length l) : Int)), (I6 (↑i : Int))] ++ UU 10, [⟨[.sl (fisc l) (List.length l) .any, (I6 room), (I6 arm), (B6 dead)], 4, .fresh⟩, ⟨[(S6 ((List.getD l i fi0).nm)), .sl (u8s (List.getD l i fi0).d) (List.length (List.getD l i fi0).d) .any, (I6 ((List.getD l i fi0).sf))], 3, .fresh⟩]⟩ ?_
    refine AWP.reg ?_
    refine DerQ.run (TT 2) ⟨[U6, U6, (I6 0), (I6 (sumU l i + (↑(List.length (List.getD l i fi0).d) : Int)))] ++ UU 6 ++ [.sl (fisc l) (List.length l) .any, (I6 (↑(List.length l) : Int)), (I6 (IntKind.wrap IntKind.i64 ((↑i : Int) + 1)))] ++ UU 8 ++ [(I6 (IntKind.wrap IntKind.i64 ((↑i : Int) + 1))), .undef], [⟨[.sl (fisc l) (List.length l) .any, (I6 room), (I6 arm), (B6 dead)], 4, .fresh⟩, ⟨[(S6 ((List.getD l i fi0).nm)), .sl (u8s (List.getD l i fi0).d) (List.length (List.getD l i fi0).d) .any, (I6 ((List.getD l i fi0).sf))], 3, .fresh⟩]⟩ (by kernel_rfl) (tt 2) ?_
    rw [IntWalk.i64_in ((↑i : Int) + 1) (by omega)]
    (exact ⟨_, by omega, _, Weak.cut 1 (by kernel_rfl) (by kernel_rfl) (by simp) (by simp [ltAll, AVal.refLt]) (by simp [dataAll, AVal.data]), i + 1, rfl, by omega, rfl⟩; done)
  · have h1' := of_decide_eq_false h1
    refine AWP.exit ?_
    refine AWP.seq (KL [10, 11, 12, 13] ⟨[U6, U6, (I6 0), (I6 (sumU l i))] ++ UU 19, [⟨[.sl (fisc l) (List.length l) .any, (I6 room), (I6 arm), (B6 dead)], 4, .fresh⟩]⟩ ?_)
    refine AWP.reg (RT 2 ?_)
    refine AWP.ret ?_
    refine FI (I6 (sumU l i)) ?_
    (((obtain rfl : i = l.length := by omega); exact shr_cut 1 (by kernel_rfl) (by kernel_rfl) (by simp) (WfRows.of (by intro r hr; rw [List.mem_singleton] at hr; subst hr; rfl)) (by kernel_rfl)); done)
end Go.Dk
