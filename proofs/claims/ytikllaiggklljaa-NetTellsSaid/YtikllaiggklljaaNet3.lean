/- Walks and laws. -/
import Derived.Test.YtikllaiggklljaaNet2
import Derived.Test.YtikllaiggklljaaLibC
set_option maxRecDepth 100000
set_option maxHeartbeats 0
set_option linter.unusedSimpArgs false
set_option linter.unusedVariables false
namespace Go.Net
open Go Go.Abs Go.Proofs
/-- The places of the numbers. -/
def idx (l : List FlD) : Nat → List (Int × Int)
  | 0 => []
  | i + 1 => idx l i ++ [((l.getD i fl0).num, (i : Int))]
theorem tk_fl1 (l : List FlD) (x : FlD) : List.take ((List.length l + 1) * 4) (flsc (l ++ [x])) = flsc (l ++ [x]) := List.take_of_length_le (by simp)
theorem mpc_app (a : List (Int × Int)) (x y : Int) : mpc a ++ [.sc (.int .i64 x), .sc (.int .i64 y)] = mpc (a ++ [(x, y)]) := by simp [mpc]
theorem findL_app (a b : List (Int × Int)) (x : Int) : findL (a ++ b) x = (findL a x).or (findL b x) := by
  induction a with
  | nil => rfl
  | cons p a ih =>
    simp only [List.cons_append, findL]
    split
    · rfl
    · exact ih
theorem idx_none {l : List FlD} {x : Int} : ∀ {i : Nat}, (∀ j, j < i → (l.getD j fl0).num ≠ x) → findL (idx l i) x = none
  | 0, _ => rfl
  | i + 1, h => by
    rw [idx, findL_app, idx_none (fun j hj => h j (by omega))]
    simp only [findL]
    rw [if_neg (fun e => h i (by omega) e.symm)]; rfl
theorem idx_some {l : List FlD} {x : Int} {k : Nat} (hk : (l.getD k fl0).num = x) : ∀ {i : Nat}, k < i → (∀ j, j < k → (l.getD j fl0).num ≠ x) → findL (idx l i) x = some (k : Int)
  | 0, h, _ => absurd h (by omega)
  | i + 1, h, hb => by
    rw [idx, findL_app]
    by_cases hki : k < i
    · rw [idx_some hk hki hb]; rfl
    · have : k = i := by omega
      subst this
      rw [idx_none hb]
      simp only [findL]
      rw [if_pos hk.symm]; rfl
theorem nums_lt {l : List FlD} {next : Int} (h : okN next l) : ∀ (i j : Nat), i < j → j < l.length → (l.getD i fl0).num < (l.getD j fl0).num := by
  intro i j hij hj
  induction j with
  | zero => omega
  | succ j ih =>
    have h1 := (h.2.2.2 (j + 1) hj).2.2.1 (by omega)
    rw [show j + 1 - 1 = j by omega] at h1
    by_cases e : i = j
    · subst e; exact h1
    · exact Int.lt_trans (ih (by omega) (by omega)) h1
theorem idx_new {l : List FlD} {next : Int} (h : okN next l) {i : Nat} (hi : i < l.length) : findL (idx l i) (l.getD i fl0).num = none :=
  idx_none (fun j hj e => by have := nums_lt h j i hj hi; omega)
theorem idx_new' {l : List FlD} {next : Int} (h : okN next l) {i : Nat} (hi : i < l.length) : findI (mpc (idx l i)) (List.getD l i fl0).num = none := by rw [findI_mpc]; exact idx_new h hi
theorem mpc_data : ∀ (l : List (Int × Int)), dataAll (mpc l) = true
  | [] => rfl
  | p :: l => by show dataAll (.sc _ :: .sc _ :: mpc l) = true; simp [dataAll, AVal.data, mpc_data l]
theorem opened_bad (l : List FlD) (next : Int) (hx : l.length ≤ 1000) (hn : -9223372036854775808 ≤ next ∧ next ≤ 9223372036854775807) (h : ¬ okN next l) : EvD Try.prog 59 [.agg [.sl (flsc l) l.length .any, .sc (.int .i64 next)]] (.tup [.sc (.pointer none), .sc (.int .i64 3)]) := by
  refine EvD.body Try.func59 rfl (by simp [flc, dataAll, AVal.data, *]) (by simp [flc, dataAll, AVal.data, *]) ?_
  refine AWP.seq ?_
  refine TO ⟨[.agg [.sl (flsc l) (List.length l) .any, (I6 next)]] ++ UU 30, []⟩ ?_
  refine AWP.reg (RT 3 ?_)
  refine AWP.seq (AWP.seq (KL [0] ⟨[U6, .ptr 0 0, .sc (Value.pointer none), (I6 0)] ++ UU 27, [⟨[.sl (flsc l) (List.length l) .any, (I6 next)], 2, .fresh⟩]⟩ ?_))
  refine AWP.reg (PI 1 (2 ≤ 2 ∧ True) ⟨(by omega), trivial⟩ ?_)
  refine CD (check l next (by omega)) ?_
  refine RT 1 ?_
  refine KL [7, 8] ⟨[U6, .ptr 0 0, .sc (Value.pointer none), (I6 0)] ++ UU 5 ++ [(B6 (!decide (okN next l)))] ++ UU 21, [⟨[.sl (flsc l) (List.length l) .any, (I6 next)], 2, .fresh⟩]⟩ ?_
  refine CN (!decide (okN next l)) (fun h1 => ?_) (fun h1 => ?_)
  · have h1' := h1
    simp only [Bool.and_eq_true, Bool.and_eq_false_iff, Bool.or_eq_true, Bool.or_eq_false_iff, Bool.not_eq_true', Bool.not_eq_false', beq_iff_eq, beq_eq_false_iff_ne, decide_eq_true_eq, decide_eq_false_iff_not, ne_eq] at h1'
    refine SQ (RT 2 ?_)
    refine AWP.ret FA
  · have h1' := h1
    simp only [Bool.and_eq_true, Bool.and_eq_false_iff, Bool.or_eq_true, Bool.or_eq_false_iff, Bool.not_eq_true', Bool.not_eq_false', beq_iff_eq, beq_eq_false_iff_ne, decide_eq_true_eq, decide_eq_false_iff_not, ne_eq] at h1'
    (exfalso; (exfalso; simp_all; done); done)
theorem opened_ok (l : List FlD) (next : Int) (hx : l.length ≤ 1000) (hn : -9223372036854775808 ≤ next ∧ next ≤ 9223372036854775807) (h : okN next l) : EvA Try.prog 59 [.agg [.sl (flsc l) l.length .any, .sc (.int .i64 next)]] (fun k => .tup [.ptr (k + 2) 0, .sc (.int .i64 0)]) (fun k => [⟨[.sl (flsc l) l.length .any, .sc (.int .i64 next)], 2, .fresh⟩, ⟨mpc (idx l l.length), 0, .map⟩, ⟨[.sl (flsc l) l.length .any, .sc (.int .i64 next), .mp (k + 1)], 3, .fresh⟩]) := by
  refine EvA.body Try.func59 rfl (by simp [dataAll, AVal.data]) (by intro k; simp [AVal.ren, renAll, Nat.add_comm]) (by intro k; simp [Row.ren, renAll, AVal.ren, renAll_of_data (mpc_data _), Nat.add_comm]) ?_
  refine AWP.seq ?_
  refine TO ⟨[.agg [.sl (flsc l) (List.length l) .any, (I6 next)]] ++ UU 30, []⟩ ?_
  refine AWP.reg (RT 3 ?_)
  refine AWP.seq (AWP.seq (KL [0] ⟨[U6, .ptr 0 0, .sc (Value.pointer none), (I6 0)] ++ UU 27, [⟨[.sl (flsc l) (List.length l) .any, (I6 next)], 2, .fresh⟩]⟩ ?_))
  refine AWP.reg (PI 1 (2 ≤ 2 ∧ True) ⟨(by omega), trivial⟩ ?_)
  refine CD (check l next (by omega)) ?_
  refine RT 1 ?_
  refine KL [7, 8] ⟨[U6, .ptr 0 0, .sc (Value.pointer none), (I6 0)] ++ UU 5 ++ [(B6 (!decide (okN next l)))] ++ UU 21, [⟨[.sl (flsc l) (List.length l) .any, (I6 next)], 2, .fresh⟩]⟩ ?_
  refine CN (!decide (okN next l)) (fun h1 => ?_) (fun h1 => ?_)
  · have h1' := h1
    simp only [Bool.and_eq_true, Bool.and_eq_false_iff, Bool.or_eq_true, Bool.or_eq_false_iff, Bool.not_eq_true', Bool.not_eq_false', beq_iff_eq, beq_eq_false_iff_ne, decide_eq_true_eq, decide_eq_false_iff_not, ne_eq] at h1'
    (exfalso; (exfalso; simp_all; done); done)
  · have h1' := h1
    simp only [Bool.and_eq_true, Bool.and_eq_false_iff, Bool.or_eq_true, Bool.or_eq_false_iff, Bool.not_eq_true', Bool.not_eq_false', beq_iff_eq, beq_eq_false_iff_ne, decide_eq_true_eq, decide_eq_false_iff_not, ne_eq] at h1'
    refine AWP.skip (SQ (RI (2 ≤ 2 ∧ True ∧ True ∧ True ∧ True ∧ True) ⟨(by omega), trivial, trivial, trivial, trivial, trivial⟩ ?_))
    refine AWP.seq (AWP.seq (KL (NN 9 5) ⟨[U6, .ptr 0 0, .sc (Value.pointer none), (I6 0), .ptr 2 0] ++ UU 26, [⟨[.sl (flsc l) (List.length l) .any, (I6 next)], 2, .fresh⟩, ⟨[], 0, .map⟩, ⟨[.sl (flsc l) (List.length l) .any, (I6 next), .mp 1], 3, .fresh⟩]⟩ ?_))
    refine AWP.reg (RI (True ∧ 0 < 2 ∧ True ∧ True ∧ True) ⟨trivial, (by omega), trivial, trivial, trivial⟩ ?_)
    refine AWP.block (KL [1, 14] ⟨[U6, U6, .sc (Value.pointer none), (I6 0), .ptr 2 0] ++ UU 10 ++ [.sl (flsc l) (List.length l) .any, (I6 (↑(List.length l) : Int)), (I6 0)] ++ UU 13, [⟨[.sl (flsc l) (List.length l) .any, (I6 next)], 2, .fresh⟩, ⟨[], 0, .map⟩, ⟨[.sl (flsc l) (List.length l) .any, (I6 next), .mp 1], 3, .fresh⟩]⟩ ?_)
    refine AWP.loopW [false, false, true, true, true, false, false, false, false, false, false, false, false, false, false, true, true, true, false, false, false, false, false, false, false, false, false, false, false, false, false] (fun kk st => ∃ (i : Nat), kk = l.length - i ∧ i ≤ l.length ∧ st = ⟨[U6, U6, .sc (Value.pointer none), (I6 0), .ptr 2 0, U6, U6, U6, U6, U6, U6, U6, U6, U6, U6, .sl (flsc l) (List.length l) .any, (I6 (↑(List.length l) : Int)), (I6 (i : Int)), U6, U6, U6, U6, U6, U6, U6, U6, U6, U6, U6, U6, .undef], [⟨[.sl (flsc l) (List.length l) .any, (I6 next)], 2, .fresh⟩, ⟨mpc (idx l i), 0, .map⟩, ⟨[.sl (flsc l) (List.length l) .any, (I6 next), .mp 1], 3, .fresh⟩]⟩) _ ⟨0, rfl, by omega, by kernel_rfl⟩ ?_
    rintro kk s ⟨i, rfl, hi, rfl⟩
    refine SQ (RT 1 ?_)
    refine AWP.seq ?_
    refine TO ⟨[U6, U6, .sc (Value.pointer none), (I6 0), .ptr 2 0] ++ UU 10 ++ [.sl (flsc l) (List.length l) .any, (I6 (↑(List.length l) : Int)), (I6 (↑i : Int)), (B6 (decide ((↑i : Int) < (↑(List.length l) : Int))))] ++ UU 12, [⟨[.sl (flsc l) (List.length l) .any, (I6 next)], 2, .fresh⟩, ⟨mpc (idx l i), 0, .map⟩, ⟨[.sl (flsc l) (List.length l) .any, (I6 next), .mp 1], 3, .fresh⟩]⟩ ?_
    refine CN (decide ((↑i : Int) < (↑(List.length l) : Int))) (fun h2 => ?_) (fun h2 => ?_)
    · have h2' := of_decide_eq_true h2
      refine AWP.skip (AWP.seq (AWP.block (SQ ?_)))
      refine DerQ.pre 5 (True ∧ (((0 ≤ (↑i : Int)) ∧ ((↑i : Int) < (↑(List.length l) : Int))) ∧ (Int.toNat (↑i : Int) * 4 + 4 ≤ List.length (flsc l))) ∧ 4 ≤ 4 ∧ True ∧ True ∧ True) ⟨[U6, U6, .sc (Value.pointer none), (I6 0), .ptr 2 0, (I6 (↑i : Int)), .ptr 3 0] ++ UU 8 ++ [.sl (flsc l) (List.length l) .any, (I6 (↑(List.length l) : Int)), (I6 (↑i : Int)), (B6 (decide ((↑i : Int) < (↑(List.length l) : Int)))), (I6 (↑i : Int)), .dptr [List.getD (flsc l) (Int.toNat (↑i : Int) * 4 + 0) U6, List.getD (flsc l) (Int.toNat (↑i : Int) * 4 + 1) U6, List.getD (flsc l) (Int.toNat (↑i : Int) * 4 + 2) U6, List.getD (flsc l) (Int.toNat (↑i : Int) * 4 + 3) AVal.undef], .agg [List.getD (flsc l) (Int.toNat (↑i : Int) * 4 + 0) U6, List.getD (flsc l) (Int.toNat (↑i : Int) * 4 + 1) U6, List.getD (flsc l) (Int.toNat (↑i : Int) * 4 + 2) U6, List.getD (flsc l) (Int.toNat (↑i : Int) * 4 + 3) AVal.undef]] ++ UU 9, [⟨[.sl (flsc l) (List.length l) .any, (I6 next)], 2, .fresh⟩, ⟨mpc (idx l i), 0, .map⟩, ⟨[.sl (flsc l) (List.length l) .any, (I6 next), .mp 1], 3, .fresh⟩, ⟨[(I6 0), (I6 0), .sl [] 0 .nil, (B6 false)], 4, .fresh⟩]⟩ (by kernel_rfl) ⟨trivial, ⟨⟨(by omega), (by omega)⟩, (by (simp [spliceA_length] <;> omega))⟩, (by omega), trivial, trivial, trivial⟩ ?_
      rw [Int.toNat_natCast (i)]
      rw [Nat.add_zero (i * 4)]
      rw [Go.Net.fl_cells (l) (i) (by omega)]
      refine RI (4 ≤ 4 ∧ True) ⟨(by omega), trivial⟩ ?_
      refine KL [18, 19, 20, 21] ⟨[U6, U6, .sc (Value.pointer none), (I6 0), .ptr 2 0, (I6 (↑i : Int)), .ptr 3 0] ++ UU 8 ++ [.sl (flsc l) (List.length l) .any, (I6 (↑(List.length l) : Int)), (I6 (↑i : Int))] ++ UU 13, [⟨[.sl (flsc l) (List.length l) .any, (I6 next)], 2, .fresh⟩, ⟨mpc (idx l i), 0, .map⟩, ⟨[.sl (flsc l) (List.length l) .any, (I6 next), .mp 1], 3, .fresh⟩, ⟨[(I6 ((List.getD l i fl0).num)), (I6 ((List.getD l i fl0).to)), .sl (u8s (List.getD l i fl0).d) (List.length (List.getD l i fl0).d) .any, (B6 ((List.getD l i fl0).sp))], 4, .fresh⟩]⟩ ?_
      refine AWP.drawB mixed (fun o => if [].contains (o.dst.getD 0) then 1 else if [].contains (o.dst.getD 0) then 2 else if [0].contains (o.dst.getD 0) then 3 else 0) 0 4 (fun x => [⟨[.sl (flsc l) (List.length l) .any, (I6 next)], 2, .fresh⟩, ⟨x 1, 0, .map⟩, ⟨[.sl (flsc l) (List.length l) .any, (I6 next), .mp 1], 3, .fresh⟩, ⟨[(I6 ((List.getD l i fl0).num)), (I6 ((List.getD l i fl0).to)), .sl (u8s (List.getD l i fl0).d) (List.length (List.getD l i fl0).d) .any, (B6 ((List.getD l i fl0).sp))], 4, .fresh⟩]) ⟨[U6, U6, .sc (Value.pointer none), (I6 0), .ptr 2 0, (I6 (↑i : Int)), .ptr 3 0] ++ UU 8 ++ [.sl (flsc l) (List.length l) .any, (I6 (↑(List.length l) : Int)), (I6 (↑i : Int))] ++ UU 13, [⟨[.sl (flsc l) (List.length l) .any, (I6 next)], 2, .fresh⟩, ⟨mpc (idx l i), 0, .map⟩, ⟨[.sl (flsc l) (List.length l) .any, (I6 next), .mp 1], 3, .fresh⟩, ⟨[(I6 ((List.getD l i fl0).num)), (I6 ((List.getD l i fl0).to)), .sl (u8s (List.getD l i fl0).d) (List.length (List.getD l i fl0).d) .any, (B6 ((List.getD l i fl0).sp))], 4, .fresh⟩]⟩ (by kernel_rfl) ⟨by kernel_rfl, by kernel_rfl⟩ (by kernel_rfl) ?_
      refine DerZ.preI 7 ((True) ∧ ((True) ∧ ((True) ∧ (((2 : Nat) < (3 : Nat)) ∧ ((True) ∧ (((0 : Nat) < (4 : Nat)) ∧ ((True) ∧ (True)))))))) (by intro x ext; kernel_rfl) ⟨trivial, ⟨trivial, ⟨trivial, ⟨(by omega), ⟨trivial, ⟨(by omega), ⟨trivial, trivial⟩⟩⟩⟩⟩⟩⟩ ?_
      refine DerZ.eff 4 ((∃ (l_1 : List (Int × Int)), mpc (idx l i) = mpc l_1) ∧ (findI (mpc (idx l i)) (List.getD l i fl0).num = none)) (.tup []) [⟨[.sl (flsc l) (List.length l) .any, (I6 next)], 2, .fresh⟩, ⟨mpc (idx l i) ++ [AVal.sc (Value.int IntKind.i64 (List.getD l i fl0).num), (I6 (↑i : Int))], 0, .map⟩, ⟨[.sl (flsc l) (List.length l) .any, (I6 next), .mp 1], 3, .fresh⟩, ⟨[(I6 ((List.getD l i fl0).num)), (I6 ((List.getD l i fl0).to)), .sl (u8s (List.getD l i fl0).d) (List.length (List.getD l i fl0).d) .any, (B6 ((List.getD l i fl0).sp))], 4, .fresh⟩] ⟨[U6, U6, .sc (Value.pointer none), (I6 0), .ptr 2 0, (I6 (↑i : Int)), .ptr 3 0] ++ UU 8 ++ [.sl (flsc l) (List.length l) .any, (I6 (↑(List.length l) : Int)), (I6 (↑i : Int)), U6, U6, U6, U6, .ptr 2 0, .ptr 2 0, .ptr 2 2, .mp 1, .ptr 3 0, (I6 ((List.getD l i fl0).num)), (I6 (↑i : Int)), U6, .undef], [⟨[.sl (flsc l) (List.length l) .any, (I6 next)], 2, .fresh⟩, ⟨mpc (idx l i) ++ [AVal.sc (Value.int IntKind.i64 (List.getD l i fl0).num), (I6 (↑i : Int))], 0, .map⟩, ⟨[.sl (flsc l) (List.length l) .any, (I6 next), .mp 1], 3, .fresh⟩, ⟨[(I6 ((List.getD l i fl0).num)), (I6 ((List.getD l i fl0).to)), .sl (u8s (List.getD l i fl0).d) (List.length (List.getD l i fl0).d) .any, (B6 ((List.getD l i fl0).sp))], 4, .fresh⟩]⟩ (by kernel_rfl) ⟨⟨by kernel_rfl, by kernel_rfl⟩, by kernel_rfl, by kernel_rfl⟩ ⟨(by (exact ⟨_, rfl⟩)), (by (exact idx_new' h (by omega)))⟩ ?_
      rw [Go.Net.mpc_app (idx l i) ((List.getD l i fl0).num) ((↑i : Int))]
      refine DerZ.nil ?_
      refine KL ([5, 6] ++ NN 22 7) ⟨[U6, U6, .sc (Value.pointer none), (I6 0), .ptr 2 0] ++ UU 10 ++ [.sl (flsc l) (List.length l) .any, (I6 (↑(List.length l) : Int)), (I6 (↑i : Int))] ++ UU 13, [⟨[.sl (flsc l) (List.length l) .any, (I6 next)], 2, .fresh⟩, ⟨mpc (idx l i ++ [((List.getD l i fl0).num, (↑i : Int))]), 0, .map⟩, ⟨[.sl (flsc l) (List.length l) .any, (I6 next), .mp 1], 3, .fresh⟩, ⟨[(I6 ((List.getD l i fl0).num)), (I6 ((List.getD l i fl0).to)), .sl (u8s (List.getD l i fl0).d) (List.length (List.getD l i fl0).d) .any, (B6 ((List.getD l i fl0).sp))], 4, .fresh⟩]⟩ ?_
      refine AWP.reg ?_
      refine DerQ.run (TT 2) ⟨[U6, U6, .sc (Value.pointer none), (I6 0), .ptr 2 0] ++ UU 10 ++ [.sl (flsc l) (List.length l) .any, (I6 (↑(List.length l) : Int)), (I6 (IntKind.wrap IntKind.i64 ((↑i : Int) + 1)))] ++ UU 11 ++ [(I6 (IntKind.wrap IntKind.i64 ((↑i : Int) + 1))), .undef], [⟨[.sl (flsc l) (List.length l) .any, (I6 next)], 2, .fresh⟩, ⟨mpc (idx l i ++ [((List.getD l i fl0).num, (↑i : Int))]), 0, .map⟩, ⟨[.sl (flsc l) (List.length l) .any, (I6 next), .mp 1], 3, .fresh⟩, ⟨[(I6 ((List.getD l i fl0).num)), (I6 ((List.getD l i fl0).to)), .sl (u8s (List.getD l i fl0).d) (List.length (List.getD l i fl0).d) .any, (B6 ((List.getD l i fl0).sp))], 4, .fresh⟩]⟩ (by kernel_rfl) (tt 2) ?_
      rw [IntWalk.i64_in ((↑i : Int) + 1) (by omega)]
      (exact ⟨_, by omega, _, Weak.cutW 3 (by kernel_rfl) (by simp) (by kernel_rfl) (WfRows.of (by intro r hr; simp at hr; rcases hr with rfl | rfl | rfl <;> simp [ltAll, AVal.refLt, ltAll_of_data, mpc_data])), i + 1, rfl, by omega, rfl⟩; done)
    · have h2' := of_decide_eq_false h2
      refine AWP.exit ?_
      refine AWP.seq (KL [15, 16, 17, 18] ⟨[U6, U6, .sc (Value.pointer none), (I6 0), .ptr 2 0] ++ UU 26, [⟨[.sl (flsc l) (List.length l) .any, (I6 next)], 2, .fresh⟩, ⟨mpc (idx l i), 0, .map⟩, ⟨[.sl (flsc l) (List.length l) .any, (I6 next), .mp 1], 3, .fresh⟩]⟩ ?_)
      refine AWP.reg (RT 3 ?_)
      refine AWP.ret ?_
      refine FI (.tup [.ptr 2 0, (I6 0)]) ?_
      ((obtain rfl : i = l.length := by omega); exact Shrink.refl _ _ _; done)
theorem found_bad (l : List FlD) (next : Int) (hx : l.length ≤ 1000) (hn : -9223372036854775808 ≤ next ∧ next ≤ 9223372036854775807) (x : Int) (h : ¬ okN next l) : EvD Try.prog 54 [.agg [.sl (flsc l) l.length .any, .sc (.int .i64 next)], .sc (.int .i64 x)] (.tup [.sc (.pointer none), .agg [.sc (.int .i64 0), .sc (.int .i64 0), .sl [] 0 .any, .sc (.bool false)], .sc (.int .i64 3)]) := by
  refine EvD.body Try.func54 rfl (by simp [flc, dataAll, AVal.data, *]) (by simp [flc, dataAll, AVal.data, *]) ?_
  refine AWP.seq ?_
  refine TO ⟨[.agg [.sl (flsc l) (List.length l) .any, (I6 next)], (I6 x)] ++ UU 39, []⟩ ?_
  refine AWP.reg (RT 4 ?_)
  refine AWP.seq (KL [0] ⟨[U6, (I6 x), .ptr 0 0, U6, .sc (Value.pointer none), .ptr 1 0, (I6 0)] ++ UU 34, [⟨[.sl (flsc l) (List.length l) .any, (I6 next)], 2, .fresh⟩, ⟨[(I6 0), (I6 0), .sl [] 0 .nil, (B6 false)], 4, .fresh⟩]⟩ ?_)
  refine AWP.reg (PI 1 (2 ≤ 2 ∧ True) ⟨(by omega), trivial⟩ ?_)
  refine CD (opened_bad l next hx hn h) ?_
  refine RT 5 ?_
  refine AWP.seq (AWP.seq (KL ([2] ++ NN 11 5) ⟨[U6, (I6 x), U6, U6, .sc (Value.pointer none), .ptr 1 0, (I6 0), .sc (Value.pointer none), (I6 3)] ++ UU 32, [⟨[.sl (flsc l) (List.length l) .any, (I6 next)], 2, .fresh⟩, ⟨[(I6 0), (I6 0), .sl [] 0 .nil, (B6 false)], 4, .fresh⟩]⟩ ?_))
  refine AWP.reg (RT 2 ?_)
  refine KL [16] ⟨[U6, (I6 x), U6, U6, .sc (Value.pointer none), .ptr 1 0, (I6 0), .sc (Value.pointer none), (I6 3)] ++ UU 8 ++ [(B6 true)] ++ UU 23, [⟨[.sl (flsc l) (List.length l) .any, (I6 next)], 2, .fresh⟩, ⟨[(I6 0), (I6 0), .sl [] 0 .nil, (B6 false)], 4, .fresh⟩]⟩ ?_
  refine CN true (fun _ => ?_) (fun h => nomatch h)
  refine SQ (RI (True ∧ True ∧ True ∧ 4 ≤ 4 ∧ True ∧ True) ⟨trivial, trivial, trivial, (by omega), trivial, trivial⟩ ?_)
  refine AWP.ret ?_
  refine FI (.tup [.sc (Value.pointer none), .agg [(I6 0), (I6 0), .sl [] 0 .nil, (B6 false)], (I6 3)]) ?_
  refine Shrink.dataK [] (True) (.tup [.sc (Value.pointer none), .agg [(I6 0), (I6 0), .sl [] 0 .nil, (B6 false)], (I6 3)]) (by kernel_rfl) trivial ?_ rfl
  kernel_rfl
theorem idx_fin {l : List FlD} {next x : Int} (h : okN next l) {k : Nat} (hk : k < l.length) (hkx : (l.getD k fl0).num = x) : findI (mpc (idx l l.length)) x = some (k : Int) := by
  rw [findI_mpc]
  exact idx_some hkx hk (fun j hj e => by have := nums_lt h j k hj hk; omega)
theorem idx_nil {l : List FlD} {x : Int} (hn : ∀ j, j < l.length → (l.getD j fl0).num ≠ x) : findI (mpc (idx l l.length)) x = none := by
  rw [findI_mpc]
  exact idx_none hn
theorem found_none (l : List FlD) (next : Int) (hx : l.length ≤ 1000) (hn : -9223372036854775808 ≤ next ∧ next ≤ 9223372036854775807) (x : Int) (h : okN next l) (hno : ∀ j, j < l.length → (l.getD j fl0).num ≠ x) : EvD Try.prog 54 [.agg [.sl (flsc l) l.length .any, .sc (.int .i64 next)], .sc (.int .i64 x)] (.tup [.sc (.pointer none), .agg [.sc (.int .i64 0), .sc (.int .i64 0), .sl [] 0 .any, .sc (.bool false)], .sc (.int .i64 7)]) := by
  have hv : lookV (mpc (idx l l.length)) x = 0 := by unfold lookV; rw [idx_nil hno]; rfl
  have hb : lookB (mpc (idx l l.length)) x = false := by unfold lookB; rw [idx_nil hno]; rfl
  refine EvD.body Try.func54 rfl (by simp [flc, dataAll, AVal.data, *]) (by simp [flc, dataAll, AVal.data, *]) ?_
  refine AWP.seq ?_
  refine TO ⟨[.agg [.sl (flsc l) (List.length l) .any, (I6 next)], (I6 x)] ++ UU 39, []⟩ ?_
  refine AWP.reg (RT 4 ?_)
  refine AWP.seq (KL [0] ⟨[U6, (I6 x), .ptr 0 0, U6, .sc (Value.pointer none), .ptr 1 0, (I6 0)] ++ UU 34, [⟨[.sl (flsc l) (List.length l) .any, (I6 next)], 2, .fresh⟩, ⟨[(I6 0), (I6 0), .sl [] 0 .nil, (B6 false)], 4, .fresh⟩]⟩ ?_)
  refine AWP.reg (PI 1 (2 ≤ 2 ∧ True) ⟨(by omega), trivial⟩ ?_)
  refine DerQ.callAI (opened_ok l next hx hn h) ⟨by kernel_rfl, by kernel_rfl⟩ ?_
  refine RT 5 ?_
  refine AWP.seq (AWP.seq (KL ([2] ++ NN 11 5) ⟨[U6, (I6 x), U6, U6, .sc (Value.pointer none), .ptr 1 0, (I6 0), .ptr 4 0, (I6 0)] ++ UU 32, [⟨[.sl (flsc l) (List.length l) .any, (I6 next)], 2, .fresh⟩, ⟨[(I6 0), (I6 0), .sl [] 0 .nil, (B6 false)], 4, .fresh⟩, ⟨[.sl (flsc l) (List.length l) .any, (I6 next)], 2, .fresh⟩, ⟨mpc (idx l (List.length l)), 0, .map⟩, ⟨[.sl (flsc l) (List.length l) .any, (I6 next), .mp 3], 3, .fresh⟩]⟩ ?_))
  refine AWP.reg (RT 2 ?_)
  refine KL [16] ⟨[U6, (I6 x), U6, U6, .sc (Value.pointer none), .ptr 1 0, (I6 0), .ptr 4 0, (I6 0)] ++ UU 8 ++ [(B6 false)] ++ UU 23, [⟨[.sl (flsc l) (List.length l) .any, (I6 next)], 2, .fresh⟩, ⟨[(I6 0), (I6 0), .sl [] 0 .nil, (B6 false)], 4, .fresh⟩, ⟨[.sl (flsc l) (List.length l) .any, (I6 next)], 2, .fresh⟩, ⟨mpc (idx l (List.length l)), 0, .map⟩, ⟨[.sl (flsc l) (List.length l) .any, (I6 next), .mp 3], 3, .fresh⟩]⟩ ?_
  refine CN false (fun h => nomatch h) (fun _ => ?_)
  refine AWP.skip (SQ (RI (True ∧ True ∧ True ∧ 2 < 3 ∧ True ∧ (∃ (l_1 : List (Int × Int)), mpc (idx l (List.length l)) = mpc l_1) ∧ True ∧ True ∧ True ∧ True ∧ True ∧ True) ⟨trivial, trivial, trivial, (by omega), trivial, (by (exact ⟨_, rfl⟩)), trivial, trivial, trivial, trivial, trivial, trivial⟩ ?_))
  refine AWP.seq (AWP.seq (KL ([1, 8, 17] ++ NN 20 9) ⟨[U6, U6, U6, U6, .sc (Value.pointer none), .ptr 1 0, (I6 0), .ptr 4 0, U6, (I6 (lookV (mpc (idx l (List.length l))) x)), (B6 (lookB (mpc (idx l (List.length l))) x))] ++ UU 30, [⟨[.sl (flsc l) (List.length l) .any, (I6 next)], 2, .fresh⟩, ⟨[(I6 0), (I6 0), .sl [] 0 .nil, (B6 false)], 4, .fresh⟩, ⟨[.sl (flsc l) (List.length l) .any, (I6 next)], 2, .fresh⟩, ⟨mpc (idx l (List.length l)), 0, .map⟩, ⟨[.sl (flsc l) (List.length l) .any, (I6 next), .mp 3], 3, .fresh⟩]⟩ ?_))
  refine AWP.reg (RT 2 ?_)
  refine KL [10, 29] ⟨[U6, U6, U6, U6, .sc (Value.pointer none), .ptr 1 0, (I6 0), .ptr 4 0, U6, (I6 (lookV (mpc (idx l (List.length l))) x))] ++ UU 20 ++ [(B6 (!lookB (mpc (idx l (List.length l))) x))] ++ UU 10, [⟨[.sl (flsc l) (List.length l) .any, (I6 next)], 2, .fresh⟩, ⟨[(I6 0), (I6 0), .sl [] 0 .nil, (B6 false)], 4, .fresh⟩, ⟨[.sl (flsc l) (List.length l) .any, (I6 next)], 2, .fresh⟩, ⟨mpc (idx l (List.length l)), 0, .map⟩, ⟨[.sl (flsc l) (List.length l) .any, (I6 next), .mp 3], 3, .fresh⟩]⟩ ?_
  refine CN (!lookB (mpc (idx l (List.length l))) x) (fun h1 => ?_) (fun h1 => ?_)
  · have h1' := h1
    simp only [Bool.and_eq_true, Bool.and_eq_false_iff, Bool.or_eq_true, Bool.or_eq_false_iff, Bool.not_eq_true', Bool.not_eq_false', beq_iff_eq, beq_eq_false_iff_ne, decide_eq_true_eq, decide_eq_false_iff_not, ne_eq] at h1'
    refine SQ (RI (True ∧ True ∧ 4 ≤ 4 ∧ True ∧ True) ⟨trivial, trivial, (by omega), trivial, trivial⟩ ?_)
    refine AWP.ret ?_
    refine FI (.tup [.sc (Value.pointer none), .agg [(I6 0), (I6 0), .sl [] 0 .nil, (B6 false)], (I6 7)]) ?_
    refine Shrink.dataK [] (True) (.tup [.sc (Value.pointer none), .agg [(I6 0), (I6 0), .sl [] 0 .nil, (B6 false)], (I6 7)]) (by kernel_rfl) trivial ?_ rfl
    kernel_rfl
  · have h1' := h1
    simp only [Bool.and_eq_true, Bool.and_eq_false_iff, Bool.or_eq_true, Bool.or_eq_false_iff, Bool.not_eq_true', Bool.not_eq_false', beq_iff_eq, beq_eq_false_iff_ne, decide_eq_true_eq, decide_eq_false_iff_not, ne_eq] at h1'
    (exfalso; exact absurd (hb.symm.trans (by assumption)) (by simp); done)
theorem shr_cut {N : Nat} {rows rows' : List Row} {x x' : AVal} (k : Nat) (h1 : rows.take k = rows') (h2 : x = x') (hN : N ≤ rows'.length) (hw : WfRows rows'.length rows') (hr : x'.refLt rows'.length = true) : Shrink N rows x rows' x' := by
  subst h2
  have e : rows = rows' ++ rows.drop k := by rw [← h1, List.take_append_drop]
  rw [e]
  exact Shrink.drop hN hw hr
theorem found_ok0 (l : List FlD) (next : Int) (hx : l.length ≤ 1000) (hn : -9223372036854775808 ≤ next ∧ next ≤ 9223372036854775807) (x : Int) (h : okN next l) (k : Nat) (hk : k < l.length) (hkx : (l.getD k fl0).num = x) : EvA Try.prog 54 [.agg [.sl (flsc l) l.length .any, .sc (.int .i64 next)], .sc (.int .i64 x)] (fun k0 => .tup [.ptr (k0 + 4) 0, .agg (flc (l.getD (Int.toNat (lookV (mpc (idx l l.length)) x)) fl0)), .sc (.int .i64 0)]) (fun k0 => [⟨[.sl (flsc l) l.length .any, .sc (.int .i64 next)], 2, .fresh⟩, ⟨flc (l.getD (Int.toNat (lookV (mpc (idx l l.length)) x)) fl0), 4, .fresh⟩, ⟨[.sl (flsc l) l.length .any, .sc (.int .i64 next)], 2, .fresh⟩, ⟨mpc (idx l l.length), 0, .map⟩, ⟨[.sl (flsc l) l.length .any, .sc (.int .i64 next), .mp (k0 + 3)], 3, .fresh⟩]) := by
  have hv : lookV (mpc (idx l l.length)) x = (k : Int) := by unfold lookV; rw [idx_fin h hk hkx]; rfl
  have hb : lookB (mpc (idx l l.length)) x = true := by unfold lookB; rw [idx_fin h hk hkx]; rfl
  refine EvA.body Try.func54 rfl (by simp [dataAll, AVal.data]) (by intro k; simp [flc, AVal.ren, renAll, Nat.add_comm]) (by intro k; simp [flc, Row.ren, renAll, AVal.ren, renAll_of_data (mpc_data _), Nat.add_comm]) ?_
  refine AWP.seq ?_
  refine TO ⟨[.agg [.sl (flsc l) (List.length l) .any, (I6 next)], (I6 x)] ++ UU 39, []⟩ ?_
  refine AWP.reg (RT 4 ?_)
  refine AWP.seq (KL [0] ⟨[U6, (I6 x), .ptr 0 0, U6, .sc (Value.pointer none), .ptr 1 0, (I6 0)] ++ UU 34, [⟨[.sl (flsc l) (List.length l) .any, (I6 next)], 2, .fresh⟩, ⟨[(I6 0), (I6 0), .sl [] 0 .nil, (B6 false)], 4, .fresh⟩]⟩ ?_)
  refine AWP.reg (PI 1 (2 ≤ 2 ∧ True) ⟨(by omega), trivial⟩ ?_)
  refine DerQ.callAI (opened_ok l next hx hn h) ⟨by kernel_rfl, by kernel_rfl⟩ ?_
  refine RT 5 ?_
  refine AWP.seq (AWP.seq (KL ([2] ++ NN 11 5) ⟨[U6, (I6 x), U6, U6, .sc (Value.pointer none), .ptr 1 0, (I6 0), .ptr 4 0, (I6 0)] ++ UU 32, [⟨[.sl (flsc l) (List.length l) .any, (I6 next)], 2, .fresh⟩, ⟨[(I6 0), (I6 0), .sl [] 0 .nil, (B6 false)], 4, .fresh⟩, ⟨[.sl (flsc l) (List.length l) .any, (I6 next)], 2, .fresh⟩, ⟨mpc (idx l (List.length l)), 0, .map⟩, ⟨[.sl (flsc l) (List.length l) .any, (I6 next), .mp 3], 3, .fresh⟩]⟩ ?_))
  refine AWP.reg (RT 2 ?_)
  refine KL [16] ⟨[U6, (I6 x), U6, U6, .sc (Value.pointer none), .ptr 1 0, (I6 0), .ptr 4 0, (I6 0)] ++ UU 8 ++ [(B6 false)] ++ UU 23, [⟨[.sl (flsc l) (List.length l) .any, (I6 next)], 2, .fresh⟩, ⟨[(I6 0), (I6 0), .sl [] 0 .nil, (B6 false)], 4, .fresh⟩, ⟨[.sl (flsc l) (List.length l) .any, (I6 next)], 2, .fresh⟩, ⟨mpc (idx l (List.length l)), 0, .map⟩, ⟨[.sl (flsc l) (List.length l) .any, (I6 next), .mp 3], 3, .fresh⟩]⟩ ?_
  refine CN false (fun h => nomatch h) (fun _ => ?_)
  refine AWP.skip (SQ (RI (True ∧ True ∧ True ∧ 2 < 3 ∧ True ∧ (∃ (l_1 : List (Int × Int)), mpc (idx l (List.length l)) = mpc l_1) ∧ True ∧ True ∧ True ∧ True ∧ True ∧ True) ⟨trivial, trivial, trivial, (by omega), trivial, (by (exact ⟨_, rfl⟩)), trivial, trivial, trivial, trivial, trivial, trivial⟩ ?_))
  refine AWP.seq (AWP.seq (KL ([1, 8, 17] ++ NN 20 9) ⟨[U6, U6, U6, U6, .sc (Value.pointer none), .ptr 1 0, (I6 0), .ptr 4 0, U6, (I6 (lookV (mpc (idx l (List.length l))) x)), (B6 (lookB (mpc (idx l (List.length l))) x))] ++ UU 30, [⟨[.sl (flsc l) (List.length l) .any, (I6 next)], 2, .fresh⟩, ⟨[(I6 0), (I6 0), .sl [] 0 .nil, (B6 false)], 4, .fresh⟩, ⟨[.sl (flsc l) (List.length l) .any, (I6 next)], 2, .fresh⟩, ⟨mpc (idx l (List.length l)), 0, .map⟩, ⟨[.sl (flsc l) (List.length l) .any, (I6 next), .mp 3], 3, .fresh⟩]⟩ ?_))
  refine AWP.reg (RT 2 ?_)
  refine KL [10, 29] ⟨[U6, U6, U6, U6, .sc (Value.pointer none), .ptr 1 0, (I6 0), .ptr 4 0, U6, (I6 (lookV (mpc (idx l (List.length l))) x))] ++ UU 20 ++ [(B6 (!lookB (mpc (idx l (List.length l))) x))] ++ UU 10, [⟨[.sl (flsc l) (List.length l) .any, (I6 next)], 2, .fresh⟩, ⟨[(I6 0), (I6 0), .sl [] 0 .nil, (B6 false)], 4, .fresh⟩, ⟨[.sl (flsc l) (List.length l) .any, (I6 next)], 2, .fresh⟩, ⟨mpc (idx l (List.length l)), 0, .map⟩, ⟨[.sl (flsc l) (List.length l) .any, (I6 next), .mp 3], 3, .fresh⟩]⟩ ?_
  refine CN (!lookB (mpc (idx l (List.length l))) x) (fun h1 => ?_) (fun h1 => ?_)
  · have h1' := h1
    simp only [Bool.and_eq_true, Bool.and_eq_false_iff, Bool.or_eq_true, Bool.or_eq_false_iff, Bool.not_eq_true', Bool.not_eq_false', beq_iff_eq, beq_eq_false_iff_ne, decide_eq_true_eq, decide_eq_false_iff_not, ne_eq] at h1'
    (exfalso; exact absurd (hb.symm.trans (by assumption)) (by simp); done)
  · have h1' := h1
    simp only [Bool.and_eq_true, Bool.and_eq_false_iff, Bool.or_eq_true, Bool.or_eq_false_iff, Bool.not_eq_true', Bool.not_eq_false', beq_iff_eq, beq_eq_false_iff_ne, decide_eq_true_eq, decide_eq_false_iff_not, ne_eq] at h1'
    refine AWP.skip (AWP.seq ?_)
    refine AWP.drawB mixed (fun o => if [].contains (o.dst.getD 0) then 1 else if [].contains (o.dst.getD 0) then 2 else if [0].contains (o.dst.getD 0) then 3 else 0) 0 5 (fun x => [⟨[.sl (flsc l) (List.length l) .any, (I6 next)], 2, .fresh⟩, ⟨x 1, 4, .fresh⟩, ⟨[.sl (flsc l) (List.length l) .any, (I6 next)], 2, .fresh⟩, ⟨mpc (idx l (List.length l)), 0, .map⟩, ⟨[.sl (flsc l) (List.length l) .any, (I6 next), .mp 3], 3, .fresh⟩]) ⟨[U6, U6, U6, U6, .sc (Value.pointer none), .ptr 1 0, (I6 0), .ptr 4 0, U6, (I6 (lookV (mpc (idx l (List.length l))) x))] ++ UU 20 ++ [(B6 (!lookB (mpc (idx l (List.length l))) x))] ++ UU 10, [⟨[.sl (flsc l) (List.length l) .any, (I6 next)], 2, .fresh⟩, ⟨[(I6 0), (I6 0), .sl [] 0 .nil, (B6 false)], 4, .fresh⟩, ⟨[.sl (flsc l) (List.length l) .any, (I6 next)], 2, .fresh⟩, ⟨mpc (idx l (List.length l)), 0, .map⟩, ⟨[.sl (flsc l) (List.length l) .any, (I6 next), .mp 3], 3, .fresh⟩]⟩ (by kernel_rfl) ⟨by kernel_rfl, by kernel_rfl⟩ (by kernel_rfl) ?_
    refine DerZ.pre 10 ((True) ∧ ((True) ∧ ((True) ∧ ((True) ∧ ((True) ∧ (((0 : Nat) < (3 : Nat)) ∧ ((True) ∧ ((((0 ≤ lookV (mpc (idx l (List.length l))) x) ∧ (lookV (mpc (idx l (List.length l))) x < (↑(List.length l) : Int))) ∧ (Int.toNat (lookV (mpc (idx l (List.length l))) x) * 4 + 4 ≤ List.length (flsc l))) ∧ (((4 : Nat) ≤ (4 : Nat)) ∧ ((True) ∧ (True))))))))))) [.ptr 4 0, .ptr 4 0, .ptr 4 0, .ptr 4 0, .ptr 4 0, .sl (flsc l) (List.length l) .any, (I6 (lookV (mpc (idx l (List.length l))) x)), .dptr [List.getD (flsc l) (Int.toNat (lookV (mpc (idx l (List.length l))) x) * 4 + 0) U6, List.getD (flsc l) (Int.toNat (lookV (mpc (idx l (List.length l))) x) * 4 + 1) U6, List.getD (flsc l) (Int.toNat (lookV (mpc (idx l (List.length l))) x) * 4 + 2) U6, List.getD (flsc l) (Int.toNat (lookV (mpc (idx l (List.length l))) x) * 4 + 3) AVal.undef], .agg [List.getD (flsc l) (Int.toNat (lookV (mpc (idx l (List.length l))) x) * 4 + 0) U6, List.getD (flsc l) (Int.toNat (lookV (mpc (idx l (List.length l))) x) * 4 + 1) U6, List.getD (flsc l) (Int.toNat (lookV (mpc (idx l (List.length l))) x) * 4 + 2) U6, List.getD (flsc l) (Int.toNat (lookV (mpc (idx l (List.length l))) x) * 4 + 3) AVal.undef], .ptr 4 0] ⟨[U6, U6, U6, U6, .ptr 4 0, .ptr 1 0, (I6 0), .ptr 4 0, U6, (I6 (lookV (mpc (idx l (List.length l))) x))] ++ UU 20 ++ [(B6 (!lookB (mpc (idx l (List.length l))) x)), U6, .ptr 4 0, .ptr 4 0, .ptr 4 0, .ptr 4 0, .ptr 4 0, .sl (flsc l) (List.length l) .any, (I6 (lookV (mpc (idx l (List.length l))) x)), .dptr [List.getD (flsc l) (Int.toNat (lookV (mpc (idx l (List.length l))) x) * 4 + 0) U6, List.getD (flsc l) (Int.toNat (lookV (mpc (idx l (List.length l))) x) * 4 + 1) U6, List.getD (flsc l) (Int.toNat (lookV (mpc (idx l (List.length l))) x) * 4 + 2) U6, List.getD (flsc l) (Int.toNat (lookV (mpc (idx l (List.length l))) x) * 4 + 3) AVal.undef], .agg [List.getD (flsc l) (Int.toNat (lookV (mpc (idx l (List.length l))) x) * 4 + 0) U6, List.getD (flsc l) (Int.toNat (lookV (mpc (idx l (List.length l))) x) * 4 + 1) U6, List.getD (flsc l) (Int.toNat (lookV (mpc (idx l (List.length l))) x) * 4 + 2) U6, List.getD (flsc l) (Int.toNat (lookV (mpc (idx l (List.length l))) x) * 4 + 3) AVal.undef]], [⟨[.sl (flsc l) (List.length l) .any, (I6 next)], 2, .fresh⟩, ⟨[(I6 0), (I6 0), .sl [] 0 .nil, (B6 false)], 4, .fresh⟩, ⟨[.sl (flsc l) (List.length l) .any, (I6 next)], 2, .fresh⟩, ⟨mpc (idx l (List.length l)), 0, .map⟩, ⟨[.sl (flsc l) (List.length l) .any, (I6 next), .mp 3], 3, .fresh⟩]⟩ (by intro x ext; kernel_rfl) (by kernel_rfl) ⟨trivial, ⟨trivial, ⟨trivial, ⟨trivial, ⟨trivial, ⟨(by omega), ⟨trivial, ⟨⟨⟨(by omega), (by omega)⟩, (by (simp [spliceA_length] <;> omega))⟩, ⟨(by omega), ⟨trivial, trivial⟩⟩⟩⟩⟩⟩⟩⟩⟩⟩ ?_
    rw [Nat.add_zero (Int.toNat (lookV (mpc (idx l (List.length l))) x) * 4)]
    rw [Go.Net.fl_cells (l) (Int.toNat (lookV (mpc (idx l (List.length l))) x)) (by omega)]
    refine DerZ.effI 5 ((4 : Nat) ≤ (4 : Nat)) (by kernel_rfl) ⟨⟨by kernel_rfl, by kernel_rfl⟩, by kernel_rfl⟩ (by omega) ?_
    refine DerZ.quietI (True) (by intro x ext; kernel_rfl) (by kernel_rfl) trivial ?_
    refine DerZ.nil ?_
    refine AWP.ret ?_
    refine FI (.tup [.ptr 4 0, .agg [(I6 ((List.getD l (Int.toNat (lookV (mpc (idx l (List.length l))) x)) fl0).num)), (I6 ((List.getD l (Int.toNat (lookV (mpc (idx l (List.length l))) x)) fl0).to)), .sl (u8s (List.getD l (Int.toNat (lookV (mpc (idx l (List.length l))) x)) fl0).d) (List.length (List.getD l (Int.toNat (lookV (mpc (idx l (List.length l))) x)) fl0).d) .any, (B6 ((List.getD l (Int.toNat (lookV (mpc (idx l (List.length l))) x)) fl0).sp))], (I6 0)]) ?_
    exact Shrink.refl _ _ _
theorem found_ok (l : List FlD) (next : Int) (hx : l.length ≤ 1000) (hn : -9223372036854775808 ≤ next ∧ next ≤ 9223372036854775807) (x : Int) (h : okN next l) (k : Nat) (hk : k < l.length) (hkx : (l.getD k fl0).num = x) : EvA Try.prog 54 [.agg [.sl (flsc l) l.length .any, .sc (.int .i64 next)], .sc (.int .i64 x)] (fun k0 => .tup [.ptr (k0 + 4) 0, .agg (flc (l.getD k fl0)), .sc (.int .i64 0)]) (fun k0 => [⟨[.sl (flsc l) l.length .any, .sc (.int .i64 next)], 2, .fresh⟩, ⟨flc (l.getD k fl0), 4, .fresh⟩, ⟨[.sl (flsc l) l.length .any, .sc (.int .i64 next)], 2, .fresh⟩, ⟨mpc (idx l l.length), 0, .map⟩, ⟨[.sl (flsc l) l.length .any, .sc (.int .i64 next), .mp (k0 + 3)], 3, .fresh⟩]) := by
  have hv : lookV (mpc (idx l l.length)) x = (k : Int) := by unfold lookV; rw [idx_fin h hk hkx]; rfl
  have := found_ok0 l next hx hn x h k hk hkx
  rwa [hv, Int.toNat_natCast] at this
theorem add_ok (l : List FlD) (next : Int) (hx : l.length ≤ 1000) (hn : -9223372036854775808 ≤ next ∧ next ≤ 9223372036854775807) (f : FlD) (hf : f.d.length ≤ 1000000) (h : next < 1073741824) : EvK Try.prog 60 [.ptr 0 0, .agg (flc f)] ⟨[.sl (flsc l) l.length .any, .sc (.int .i64 next), .undef], 3, .fresh⟩ (.tup [.sc (.int .i64 next), .sc (.int .i64 0)]) ⟨[.sl (flsc (addL l next f)) (l.length + 1) .any, .sc (.int .i64 (next + 1)), .undef], 3, .fresh⟩ := by
  refine EvK.ofF ?_ ⟨rfl, rfl, by rfl, by rfl, rfl, rfl, by show 0 < 3; omega, by show 3 ≤ 3; omega, by simp [flc, ltAll, AVal.refLt], rfl⟩
  unfold addL
  refine EvF.body Try.func60 rfl (fun _ => ?_)
  refine AWP.seq ?_
  refine TO ⟨[.ptr 0 0, .agg [(I6 (f.num)), (I6 (f.to)), .sl (u8s f.d) (List.length f.d) .any, (B6 f.sp)]] ++ UU 53, [⟨[.sl (flsc l) (List.length l) .any, (I6 next), .undef], 3, .fresh⟩]⟩ ?_
  refine AWP.reg (RT 3 ?_)
  refine AWP.seq (AWP.seq (KL [1] ⟨[.ptr 0 0, U6, U6, .ptr 1 0, (I6 0), (I6 0)] ++ UU 49, [⟨[.sl (flsc l) (List.length l) .any, (I6 next), .undef], 3, .fresh⟩, ⟨[(I6 (f.num)), (I6 (f.to)), .sl (u8s f.d) (List.length f.d) .any, (B6 f.sp)], 4, .fresh⟩]⟩ ?_))
  refine AWP.reg (PI 8 (True ∧ True ∧ True ∧ True ∧ 0 < 3 ∧ True ∧ True ∧ True ∧ True) ⟨trivial, trivial, trivial, trivial, (by omega), trivial, trivial, trivial, trivial⟩ ?_)
  refine DerQ.to ⟨[.ptr 0 0, U6, U6, .ptr 1 0, (I6 0), (I6 0), .ptr 0 0, .ptr 0 0, .ptr 0 0, .ptr 0 0, .sl (flsc l) (List.length l) .any, (I6 (↑(List.length l) : Int)), (B6 (decide ((↑(List.length l) : Int) ≥ 4096))), (B6 (decide ((↑(List.length l) : Int) ≥ 4096)))] ++ UU 41, [⟨[.sl (flsc l) (List.length l) .any, (I6 next), .undef], 3, .fresh⟩, ⟨[(I6 (f.num)), (I6 (f.to)), .sl (u8s f.d) (List.length f.d) .any, (B6 f.sp)], 4, .fresh⟩]⟩ (by kernel_rfl) ?_
  cases h1 : (decide ((↑(List.length l) : Int) ≥ 4096))
  · have h1' := of_decide_eq_false h1
    refine RI (True ∧ True ∧ True ∧ True ∧ 1 < 3 ∧ True ∧ True ∧ True) ⟨trivial, trivial, trivial, trivial, (by omega), trivial, trivial, trivial⟩ ?_
    refine KL (NN 6 14) ⟨[.ptr 0 0, U6, U6, .ptr 1 0, (I6 0), (I6 0)] ++ UU 14 ++ [(B6 (decide (next ≥ 1073741824)))] ++ UU 34, [⟨[.sl (flsc l) (List.length l) .any, (I6 next), .undef], 3, .fresh⟩, ⟨[(I6 (f.num)), (I6 (f.to)), .sl (u8s f.d) (List.length f.d) .any, (B6 f.sp)], 4, .fresh⟩]⟩ ?_
    refine CN (decide (next ≥ 1073741824)) (fun h2 => ?_) (fun h2 => ?_)
    · have h2' := of_decide_eq_true h2
      exfalso; omega
    · have h2' := of_decide_eq_false h2
      refine AWP.skip (AWP.seq ?_)
      refine AWP.drawB mixed (fun o => if [].contains (o.dst.getD 0) then 1 else if [].contains (o.dst.getD 0) then 2 else if [0, 0, 27, 28].contains (o.dst.getD 0) then 3 else 0) 0 2 (fun x => [⟨[.sl (flsc l) (List.length l) .any, (I6 next), .undef], 3, .fresh⟩, ⟨x 1, 4, .fresh⟩]) ⟨[.ptr 0 0, U6, U6, .ptr 1 0, (I6 0), (I6 0)] ++ UU 14 ++ [(B6 (decide (next ≥ 1073741824)))] ++ UU 34, [⟨[.sl (flsc l) (List.length l) .any, (I6 next), .undef], 3, .fresh⟩, ⟨[(I6 (f.num)), (I6 (f.to)), .sl (u8s f.d) (List.length f.d) .any, (B6 f.sp)], 4, .fresh⟩]⟩ (by kernel_rfl) ⟨by kernel_rfl, by kernel_rfl⟩ (by kernel_rfl) ?_
      refine DerZ.preI 6 ((True) ∧ ((True) ∧ ((True) ∧ ((True) ∧ (((1 : Nat) < (3 : Nat)) ∧ ((True) ∧ (True))))))) (by intro x ext; kernel_rfl) ⟨trivial, ⟨trivial, ⟨trivial, ⟨trivial, ⟨(by omega), ⟨trivial, trivial⟩⟩⟩⟩⟩⟩ ?_
      refine DerZ.effI 2 ((2 : Nat) < (4 : Nat)) (by kernel_rfl) ⟨⟨by kernel_rfl, by kernel_rfl⟩, by kernel_rfl⟩ (by omega) ?_
      refine DerZ.callDI (bclone f.d hf) ⟨by kernel_rfl, by kernel_rfl⟩ ?_
      refine DerZ.quietI (True) (by intro x ext; kernel_rfl) (by kernel_rfl) trivial ?_
      refine DerZ.effI 2 ((1 : Nat) ≤ (4 : Nat)) (by kernel_rfl) ⟨⟨by kernel_rfl, by kernel_rfl⟩, by kernel_rfl⟩ (by omega) ?_
      refine DerZ.quietI (True) (by intro x ext; kernel_rfl) (by kernel_rfl) trivial ?_
      refine DerZ.effI 2 ((3 : Nat) ≤ (4 : Nat)) (by kernel_rfl) ⟨⟨by kernel_rfl, by kernel_rfl⟩, by kernel_rfl⟩ (by omega) ?_
      refine DerZ.nil ?_
      refine AWP.seq (KL (NN 20 11) ⟨[.ptr 0 0, U6, U6, .ptr 1 0, (I6 0), (I6 0)] ++ UU 49, [⟨[.sl (flsc l) (List.length l) .any, (I6 next), .undef], 3, .fresh⟩, ⟨[(I6 next), (I6 (f.to)), .sl (u8s f.d) (List.length f.d) .any, (B6 f.sp)], 4, .fresh⟩]⟩ ?_)
      refine AWP.drawB mixed (fun o => if [].contains (o.dst.getD 0) then 1 else if [37].contains (o.dst.getD 0) then 2 else if [40, 0, 36].contains (o.dst.getD 0) then 3 else 0) 0 2 (fun x => [⟨x 0, 3, .fresh⟩, ⟨[(I6 next), (I6 (f.to)), .sl (u8s f.d) (List.length f.d) .any, (B6 f.sp)], 4, .fresh⟩]) ⟨[.ptr 0 0, U6, U6, .ptr 1 0, (I6 0), (I6 0)] ++ UU 49, [⟨[.sl (flsc l) (List.length l) .any, (I6 next), .undef], 3, .fresh⟩, ⟨[(I6 next), (I6 (f.to)), .sl (u8s f.d) (List.length f.d) .any, (B6 f.sp)], 4, .fresh⟩]⟩ (by kernel_rfl) ⟨by kernel_rfl, by kernel_rfl⟩ (by kernel_rfl) ?_
      refine DerZ.preI 5 ((True) ∧ ((True) ∧ ((True) ∧ ((True) ∧ ((True) ∧ (True)))))) (by intro x ext; kernel_rfl) ⟨trivial, ⟨trivial, ⟨trivial, ⟨trivial, ⟨trivial, trivial⟩⟩⟩⟩⟩ ?_
      refine DerZ.effI 2 ((0 : Nat) < (3 : Nat)) (by kernel_rfl) ⟨⟨by kernel_rfl, by kernel_rfl⟩, by kernel_rfl⟩ (by omega) ?_
      refine DerZ.callA (fclone l (by omega)) [.sl (flsc l) (List.length l) .any] ⟨[.ptr 0 0, U6, U6, .ptr 1 0, (I6 0), (I6 0)] ++ UU 25 ++ [.ptr 0 0, .ptr 0 0, .ptr 0 0, .ptr 0 0, .ptr 0 0, .sl (flsc l) (List.length l) .any, .row 2 0 (List.length l)] ++ UU 17, [⟨[.sl (flsc l) (List.length l) .any, (I6 next), .undef], 3, .fresh⟩, ⟨[(I6 next), (I6 (f.to)), .sl (u8s f.d) (List.length f.d) .any, (B6 f.sp)], 4, .fresh⟩, ⟨flsc l, 4, .fresh⟩]⟩ ⟨by kernel_rfl, by kernel_rfl, by kernel_rfl, by kernel_rfl, by kernel_rfl⟩ ?_
      refine DerZ.preI 2 (((4 : Nat) ≤ (4 : Nat)) ∧ ((True) ∧ (True))) (by intro x ext; kernel_rfl) ⟨(by omega), ⟨trivial, trivial⟩⟩ ?_
      refine DerZ.eff 2 (((4 : Nat) = (4 : Nat)) ∧ (((4 : Nat) = (4 : Nat)) ∧ ((List.length l * 4 = List.length (flsc l)) ∧ ((List.length l + 1 ≤ 1073741824) ∧ ((dataAll (flsc l ++ [(I6 next), (I6 f.to), AVal.sl (u8s f.d) (List.length f.d) SlK.any, (B6 f.sp)]) = true) ∧ (∀ (i : Nat), i < 4 → AVal.one (List.getD [(I6 next), (I6 f.to), AVal.sl (u8s f.d) (List.length f.d) SlK.any, (B6 f.sp)] i AVal.undef) = true)))))) (.row 2 0 (List.length l + 1)) [⟨[.sl (flsc l) (List.length l) .any, (I6 next), .undef], 3, .fresh⟩, ⟨[(I6 next), (I6 (f.to)), .sl (u8s f.d) (List.length f.d) .any, (B6 f.sp)], 4, .fresh⟩, ⟨flsc l ++ [(I6 next), (I6 f.to), AVal.sl (u8s f.d) (List.length f.d) SlK.any, (B6 f.sp)], 4, .grown⟩] ⟨[.ptr 0 0, U6, U6, .ptr 1 0, (I6 0), (I6 0)] ++ UU 25 ++ [.ptr 0 0, .ptr 0 0, .ptr 0 0, .ptr 0 0, .ptr 0 0, .sl (flsc l) (List.length l) .any, .row 2 0 (List.length l), .agg [(I6 next), (I6 (f.to)), .sl (u8s f.d) (List.length f.d) .any, (B6 f.sp)], .sl [(I6 next), (I6 (f.to)), .sl (u8s f.d) (List.length f.d) .any, (B6 f.sp)] 1 .nn, .row 2 0 (List.length l + 1)] ++ UU 14, [⟨[.sl (flsc l) (List.length l) .any, (I6 next), .undef], 3, .fresh⟩, ⟨[(I6 next), (I6 (f.to)), .sl (u8s f.d) (List.length f.d) .any, (B6 f.sp)], 4, .fresh⟩, ⟨flsc l ++ [(I6 next), (I6 f.to), AVal.sl (u8s f.d) (List.length f.d) SlK.any, (B6 f.sp)], 4, .grown⟩]⟩ (by kernel_rfl) ⟨⟨by kernel_rfl, by kernel_rfl⟩, by kernel_rfl, by kernel_rfl⟩ ⟨(by omega), ⟨(by omega), ⟨(by simp), ⟨(by omega), ⟨(by (exact fl_dat _ _ _ _ _)), (by (exact fl_ones _ _ _ _))⟩⟩⟩⟩⟩ ?_
      rw [Go.Net.fl_app (l) (next) (f.to) (f.d) (f.sp)]
      refine DerZ.pre 3 ((True) ∧ ((True) ∧ ((True) ∧ (True)))) [.ptr 0 0, .ptr 0 0, .ptr 0 0] ⟨[.ptr 0 0, U6, U6, .ptr 1 0, (I6 0), (I6 0)] ++ UU 25 ++ [.ptr 0 0, .ptr 0 0, .ptr 0 0, .ptr 0 0, .ptr 0 0, .sl (flsc l) (List.length l) .any, .row 2 0 (List.length l), .agg [(I6 next), (I6 (f.to)), .sl (u8s f.d) (List.length f.d) .any, (B6 f.sp)], .sl [(I6 next), (I6 (f.to)), .sl (u8s f.d) (List.length f.d) .any, (B6 f.sp)] 1 .nn, .row 2 0 (List.length l + 1), .ptr 0 0, .ptr 0 0, .ptr 0 0] ++ UU 11, [⟨[.sl (flsc l) (List.length l) .any, (I6 next), .undef], 3, .fresh⟩, ⟨[(I6 next), (I6 (f.to)), .sl (u8s f.d) (List.length f.d) .any, (B6 f.sp)], 4, .fresh⟩, ⟨flsc (l ++ [{ num := next, to := f.to, d := f.d, sp := f.sp }]), 4, .grown⟩]⟩ (by intro x ext; kernel_rfl) (by kernel_rfl) ⟨trivial, ⟨trivial, ⟨trivial, trivial⟩⟩⟩ ?_
      refine DerZ.eff 2 ((1 : Nat) ≤ (3 : Nat)) (.tup []) [⟨[.row 2 0 (List.length l + 1), (I6 next), .undef], 3, .fresh⟩, ⟨[(I6 next), (I6 (f.to)), .sl (u8s f.d) (List.length f.d) .any, (B6 f.sp)], 4, .fresh⟩, ⟨flsc (l ++ [{ num := next, to := f.to, d := f.d, sp := f.sp }]), 4, .grown⟩] ⟨[.ptr 0 0, U6, U6, .ptr 1 0, (I6 0), (I6 0)] ++ UU 25 ++ [.ptr 0 0, .ptr 0 0, .ptr 0 0, .ptr 0 0, .ptr 0 0, .sl (flsc l) (List.length l) .any, .row 2 0 (List.length l), .agg [(I6 next), (I6 (f.to)), .sl (u8s f.d) (List.length f.d) .any, (B6 f.sp)], .sl [(I6 next), (I6 (f.to)), .sl (u8s f.d) (List.length f.d) .any, (B6 f.sp)] 1 .nn, .row 2 0 (List.length l + 1), .ptr 0 0, .ptr 0 0, .ptr 0 0] ++ UU 11, [⟨[.row 2 0 (List.length l + 1), (I6 next), .undef], 3, .fresh⟩, ⟨[(I6 next), (I6 (f.to)), .sl (u8s f.d) (List.length f.d) .any, (B6 f.sp)], 4, .fresh⟩, ⟨flsc (l ++ [{ num := next, to := f.to, d := f.d, sp := f.sp }]), 4, .grown⟩]⟩ (by kernel_rfl) ⟨⟨by kernel_rfl, by kernel_rfl⟩, by kernel_rfl, by kernel_rfl⟩ (by omega) ?_
      refine DerZ.nil ?_
      refine AWP.seq ?_
      refine AWP.fro [2] ((dataAll (flsc (l ++ [{ num := next, to := f.to, d := f.d, sp := f.sp }])) = true) ∧ (True)) ⟨[.ptr 0 0, U6, U6, .ptr 1 0, (I6 0), (I6 0)] ++ UU 25 ++ [.ptr 0 0, .ptr 0 0, .ptr 0 0, .ptr 0 0, .ptr 0 0, .sl (flsc l) (List.length l) .any, .sl (List.take (List.length l * 4) (List.drop 0 (flsc (l ++ [{ num := next, to := f.to, d := f.d, sp := f.sp }])))) (List.length l) .any, .agg [(I6 next), (I6 (f.to)), .sl (u8s f.d) (List.length f.d) .any, (B6 f.sp)], .sl [(I6 next), (I6 (f.to)), .sl (u8s f.d) (List.length f.d) .any, (B6 f.sp)] 1 .nn, .sl (List.take ((List.length l + 1) * 4) (List.drop 0 (flsc (l ++ [{ num := next, to := f.to, d := f.d, sp := f.sp }])))) (List.length l + 1) .any, .ptr 0 0, .ptr 0 0, .ptr 0 0] ++ UU 11, [⟨[.sl (List.take ((List.length l + 1) * 4) (List.drop 0 (flsc (l ++ [{ num := next, to := f.to, d := f.d, sp := f.sp }])))) (List.length l + 1) .any, (I6 next), .undef], 3, .fresh⟩, ⟨[(I6 next), (I6 (f.to)), .sl (u8s f.d) (List.length f.d) .any, (B6 f.sp)], 4, .fresh⟩, ⟨flsc (l ++ [{ num := next, to := f.to, d := f.d, sp := f.sp }]), 4, .frozen⟩]⟩ (by kernel_rfl) ⟨(by simp), trivial⟩ ?_
      refine KL (NN 31 13) ⟨[.ptr 0 0, U6, U6, .ptr 1 0, (I6 0), (I6 0)] ++ UU 49, [⟨[.sl (List.take ((List.length l + 1) * 4) (List.drop 0 (flsc (l ++ [{ num := next, to := f.to, d := f.d, sp := f.sp }])))) (List.length l + 1) .any, (I6 next), .undef], 3, .fresh⟩, ⟨[(I6 next), (I6 (f.to)), .sl (u8s f.d) (List.length f.d) .any, (B6 f.sp)], 4, .fresh⟩, ⟨flsc (l ++ [{ num := next, to := f.to, d := f.d, sp := f.sp }]), 4, .frozen⟩]⟩ ?_
      refine AWP.reg ?_
      refine DerQ.run (True ∧ True ∧ True ∧ True ∧ 1 < 3 ∧ True ∧ True ∧ True ∧ True ∧ 2 ≤ 3 ∧ True) ⟨[.ptr 0 0, U6, U6, .ptr 1 0, (I6 0), (I6 0)] ++ UU 38 ++ [.ptr 0 0, .ptr 0 0, .ptr 0 0, .ptr 0 1, (I6 next), (I6 (IntKind.wrap IntKind.i64 (next + 1))), .ptr 0 0, .ptr 0 0, .ptr 0 1, U6, .undef], [⟨[.sl (List.take ((List.length l + 1) * 4) (List.drop 0 (flsc (l ++ [{ num := next, to := f.to, d := f.d, sp := f.sp }])))) (List.length l + 1) .any, (I6 (IntKind.wrap IntKind.i64 (next + 1))), .undef], 3, .fresh⟩, ⟨[(I6 next), (I6 (f.to)), .sl (u8s f.d) (List.length f.d) .any, (B6 f.sp)], 4, .fresh⟩, ⟨flsc (l ++ [{ num := next, to := f.to, d := f.d, sp := f.sp }]), 4, .frozen⟩]⟩ (by kernel_rfl) ⟨trivial, trivial, trivial, trivial, (by omega), trivial, trivial, trivial, trivial, (by omega), trivial⟩ ?_
      rw [IntWalk.i64_in (next + 1) (by omega)]
      rw [List.drop_zero]
      rw [Go.Net.tk_fl1 (l) ({ num := next, to := f.to, d := f.d, sp := f.sp })]
      refine AWP.seq (KL ([0] ++ NN 44 9) ⟨[U6, U6, U6, .ptr 1 0, (I6 0), (I6 0)] ++ UU 49, [⟨[.sl (flsc (l ++ [{ num := next, to := f.to, d := f.d, sp := f.sp }])) (List.length l + 1) .any, (I6 (next + 1)), .undef], 3, .fresh⟩, ⟨[(I6 next), (I6 (f.to)), .sl (u8s f.d) (List.length f.d) .any, (B6 f.sp)], 4, .fresh⟩, ⟨flsc (l ++ [{ num := next, to := f.to, d := f.d, sp := f.sp }]), 4, .frozen⟩]⟩ ?_)
      refine AWP.reg ?_
      refine DerQ.run (True ∧ 0 < 4 ∧ True ∧ True ∧ True) ⟨[U6, U6, U6, .ptr 1 0, (I6 next), (I6 0)] ++ UU 47 ++ [.ptr 1 0, (I6 next)], [⟨[.sl (flsc (l ++ [{ num := next, to := f.to, d := f.d, sp := f.sp }])) (List.length l + 1) .any, (I6 (next + 1)), .undef], 3, .fresh⟩, ⟨[(I6 next), (I6 (f.to)), .sl (u8s f.d) (List.length f.d) .any, (B6 f.sp)], 4, .fresh⟩, ⟨flsc (l ++ [{ num := next, to := f.to, d := f.d, sp := f.sp }]), 4, .frozen⟩]⟩ (by kernel_rfl) ⟨trivial, (by omega), trivial, trivial, trivial⟩ ?_
      refine AWP.ret ?_
      refine FI (.tup [(I6 next), (I6 0)]) ?_
      (exact shr_cut 1 (by kernel_rfl) (by kernel_rfl) (by simp) (WfRows.of (by intro r hr; rw [List.mem_singleton] at hr; subst hr; rfl)) (by kernel_rfl); done)
  · have h1' := of_decide_eq_true h1
    exfalso; omega
theorem add_full (l : List FlD) (next : Int) (hx : l.length ≤ 1000) (hn : -9223372036854775808 ≤ next ∧ next ≤ 9223372036854775807) (f : FlD) (h : 1073741824 ≤ next) : EvK Try.prog 60 [.ptr 0 0, .agg (flc f)] ⟨[.sl (flsc l) l.length .any, .sc (.int .i64 next), .undef], 3, .fresh⟩ (.tup [.sc (.int .i64 0), .sc (.int .i64 4)]) ⟨[.sl (flsc l) l.length .any, .sc (.int .i64 next), .undef], 3, .fresh⟩ := by
  refine EvK.ofF ?_ ⟨rfl, rfl, by rfl, by rfl, rfl, rfl, by show 0 < 3; omega, by show 3 ≤ 3; omega, by simp [flc, ltAll, AVal.refLt], rfl⟩
  refine EvF.body Try.func60 rfl (fun _ => ?_)
  refine AWP.seq ?_
  refine TO ⟨[.ptr 0 0, .agg [(I6 (f.num)), (I6 (f.to)), .sl (u8s f.d) (List.length f.d) .any, (B6 f.sp)]] ++ UU 53, [⟨[.sl (flsc l) (List.length l) .any, (I6 next), .undef], 3, .fresh⟩]⟩ ?_
  refine AWP.reg (RT 3 ?_)
  refine AWP.seq (AWP.seq (KL [1] ⟨[.ptr 0 0, U6, U6, .ptr 1 0, (I6 0), (I6 0)] ++ UU 49, [⟨[.sl (flsc l) (List.length l) .any, (I6 next), .undef], 3, .fresh⟩, ⟨[(I6 (f.num)), (I6 (f.to)), .sl (u8s f.d) (List.length f.d) .any, (B6 f.sp)], 4, .fresh⟩]⟩ ?_))
  refine AWP.reg (PI 8 (True ∧ True ∧ True ∧ True ∧ 0 < 3 ∧ True ∧ True ∧ True ∧ True) ⟨trivial, trivial, trivial, trivial, (by omega), trivial, trivial, trivial, trivial⟩ ?_)
  refine DerQ.to ⟨[.ptr 0 0, U6, U6, .ptr 1 0, (I6 0), (I6 0), .ptr 0 0, .ptr 0 0, .ptr 0 0, .ptr 0 0, .sl (flsc l) (List.length l) .any, (I6 (↑(List.length l) : Int)), (B6 (decide ((↑(List.length l) : Int) ≥ 4096))), (B6 (decide ((↑(List.length l) : Int) ≥ 4096)))] ++ UU 41, [⟨[.sl (flsc l) (List.length l) .any, (I6 next), .undef], 3, .fresh⟩, ⟨[(I6 (f.num)), (I6 (f.to)), .sl (u8s f.d) (List.length f.d) .any, (B6 f.sp)], 4, .fresh⟩]⟩ (by kernel_rfl) ?_
  cases h1 : (decide ((↑(List.length l) : Int) ≥ 4096))
  · have h1' := of_decide_eq_false h1
    refine RI (True ∧ True ∧ True ∧ True ∧ 1 < 3 ∧ True ∧ True ∧ True) ⟨trivial, trivial, trivial, trivial, (by omega), trivial, trivial, trivial⟩ ?_
    refine KL (NN 6 14) ⟨[.ptr 0 0, U6, U6, .ptr 1 0, (I6 0), (I6 0)] ++ UU 14 ++ [(B6 (decide (next ≥ 1073741824)))] ++ UU 34, [⟨[.sl (flsc l) (List.length l) .any, (I6 next), .undef], 3, .fresh⟩, ⟨[(I6 (f.num)), (I6 (f.to)), .sl (u8s f.d) (List.length f.d) .any, (B6 f.sp)], 4, .fresh⟩]⟩ ?_
    refine CN (decide (next ≥ 1073741824)) (fun h2 => ?_) (fun h2 => ?_)
    · have h2' := of_decide_eq_true h2
      refine SQ (RT 2 ?_)
      refine AWP.ret ?_
      refine FI (.tup [(I6 0), (I6 4)]) ?_
      (exact shr_cut 1 (by kernel_rfl) (by kernel_rfl) (by simp) (WfRows.of (by intro r hr; rw [List.mem_singleton] at hr; subst hr; rfl)) (by kernel_rfl); done)
    · have h2' := of_decide_eq_false h2
      exfalso; omega
  · have h1' := of_decide_eq_true h1
    exfalso; omega
end Go.Net
