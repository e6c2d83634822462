/- Walks and laws. -/
import Derived.Test.YtikllaiggklljaaNet0
import Derived.Test.YtikllaiggklljaaLibC
set_option maxRecDepth 100000
set_option maxHeartbeats 0
set_option linter.unusedSimpArgs false
set_option linter.unusedVariables false
namespace Go.Net
open Go Go.Abs Go.Proofs
theorem peer (p : Int) : EvD Try.prog 58 [.sc (.int .i64 p)] (.sc (.bool (decide (1 ≤ p ∧ p ≤ 12)))) := by
  refine EvD.body Try.func58 rfl (by simp [dataAll, AVal.data, *]) (by simp [dataAll, AVal.data, *]) ?_
  refine AWP.seq ?_
  refine TO ⟨[(I6 p)] ++ UU 8, []⟩ ?_
  refine AWP.reg (RT 1 ?_)
  refine AWP.seq ?_
  refine TO ⟨[(I6 p), U6, (B6 false)] ++ UU 6, []⟩ ?_
  refine AWP.reg (PT 3 3 ?_)
  refine DerQ.to ⟨[(I6 p), U6, (B6 false), (I6 p), (B6 (decide (p ≥ 1))), (B6 (decide (p ≥ 1))), U6, U6, .undef], []⟩ (by kernel_rfl) ?_
  cases h1 : (decide (p ≥ 1))
  · have h1' := of_decide_eq_false h1
    refine RT 2 ?_
    refine AWP.ret ?_
    refine FI (B6 false) ?_
    refine Shrink.all ?_ rfl
    ((first | refine congrArg B6 ?_ | refine congrArg I6 ?_ | congr 2); rw [Bool.eq_iff_iff]; simp only [decide_eq_true_eq, Bool.false_eq_true, false_iff, true_iff, Bool.and_eq_true, Bool.or_eq_true, Bool.not_eq_true', Bool.not_eq_true, Bool.not_eq_false', decide_eq_false_iff_not, iff_true, iff_false, beq_iff_eq, beq_eq_false_iff_ne, ge_iff_le, gt_iff_lt, ne_eq, bne_iff_ne, not_true_eq_false, not_false_eq_true] at *; omega; done)
  · have h1' := of_decide_eq_true h1
    refine RT 4 ?_
    refine AWP.ret ?_
    refine FI (B6 (decide (p ≤ 12))) ?_
    refine Shrink.all ?_ rfl
    ((first | refine congrArg B6 ?_ | refine congrArg I6 ?_ | congr 2); rw [Bool.eq_iff_iff]; simp only [decide_eq_true_eq, Bool.false_eq_true, false_iff, true_iff, Bool.and_eq_true, Bool.or_eq_true, Bool.not_eq_true', Bool.not_eq_true, Bool.not_eq_false', decide_eq_false_iff_not, iff_true, iff_false, beq_iff_eq, beq_eq_false_iff_ne, ge_iff_le, gt_iff_lt, ne_eq, bne_iff_ne, not_true_eq_false, not_false_eq_true] at *; omega; done)
theorem bcloneA (xs : List Int) (hx : xs.length ≤ 1000000) : EvA Try.prog 57 [.sl (u8s xs) xs.length .any] (fun k => .row k 0 xs.length) (fun _ => [⟨u8s xs, 1, .fresh⟩]) := by
  refine EvA.split [] ?_ ?_
  · intro h h0
    have e : xs = [] := List.eq_nil_of_length_eq_zero h0
    subst e
    refine EvA.body Try.func57 rfl rfl (by intro k; simp [AVal.ren]) (by intro k; exact ren_row (dataAll_u8s _) k) ?_
    refine AWP.seq ?_
    refine TO ⟨[.sl [] 0 .nil] ++ UU 7, []⟩ ?_
    refine AWP.reg (RT 1 ?_)
    refine AWP.seq (AWP.seq ?_)
    refine TO ⟨[.sl [] 0 .nil, U6, .sl [] 0 .nil] ++ UU 5, []⟩ ?_
    refine AWP.reg (RT 2 ?_)
    refine KL [3] ⟨[.sl [] 0 .nil, U6, .sl [] 0 .nil, U6, (B6 true), U6, U6, .undef], []⟩ ?_
    refine CN true (fun _ => ?_) (fun h => nomatch h)
    refine SQ (RT 1 ?_)
    refine AWP.ret ?_
    refine FI (.sl [] 0 .nil) ?_
    (exact Shrink.virt 1 (.inl rfl); done)
  · refine EvA.body Try.func57 rfl rfl (by intro k; simp [AVal.ren]) (by intro k; exact ren_row (dataAll_u8s _) k) ?_
    refine AWP.seq ?_
    refine TO ⟨[.sl (u8s xs) (List.length xs) .nn] ++ UU 7, []⟩ ?_
    refine AWP.reg (RT 1 ?_)
    refine AWP.seq (AWP.seq ?_)
    refine TO ⟨[.sl (u8s xs) (List.length xs) .nn, U6, .sl [] 0 .nil] ++ UU 5, []⟩ ?_
    refine AWP.reg (RT 2 ?_)
    refine KL [3] ⟨[.sl (u8s xs) (List.length xs) .nn, U6, .sl [] 0 .nil, U6, (B6 false), U6, U6, .undef], []⟩ ?_
    refine CN false (fun h => nomatch h) (fun _ => ?_)
    refine AWP.skip (SQ (RI (True ∧ True ∧ ((List.length (u8s xs) = List.length xs * 1) ∧ (List.length xs ≤ 1073741824)) ∧ True ∧ True) ⟨trivial, trivial, ⟨(by simp), (by omega)⟩, trivial, trivial⟩ ?_))
    refine AWP.ret ?_
    refine FI (.row 0 0 (List.length xs)) ?_
    exact Shrink.refl _ _ _
theorem bclone (xs : List Int) (hx : xs.length ≤ 1000000) : EvD Try.prog 57 [.sl (u8s xs) xs.length .any] (.sl (u8s xs) xs.length .any) := (bcloneA xs hx).toSl (.inl rfl) rfl rfl
theorem fclone (l : List FlD) (hx : l.length ≤ 100000) : EvA Try.prog 56 [.sl (flsc l) l.length .any] (fun k => .row k 0 l.length) (fun _ => [⟨flsc l, 4, .fresh⟩]) := by
  refine EvA.split [] ?_ ?_
  · intro h h0
    have e : l = [] := List.eq_nil_of_length_eq_zero h0
    subst e
    refine EvA.body Try.func56 rfl rfl (by intro k; simp [AVal.ren]) (by intro k; exact ren_row rfl k) ?_
    refine AWP.seq ?_
    refine TO ⟨[.sl [] 0 .nil] ++ UU 7, []⟩ ?_
    refine AWP.reg (RT 1 ?_)
    refine AWP.seq (AWP.seq ?_)
    refine TO ⟨[.sl [] 0 .nil, U6, .sl [] 0 .nil] ++ UU 5, []⟩ ?_
    refine AWP.reg (RT 2 ?_)
    refine KL [3] ⟨[.sl [] 0 .nil, U6, .sl [] 0 .nil, U6, (B6 true), U6, U6, .undef], []⟩ ?_
    refine CN true (fun _ => ?_) (fun h => nomatch h)
    refine SQ (RT 1 ?_)
    refine AWP.ret ?_
    refine FI (.sl [] 0 .nil) ?_
    (exact Shrink.virt 4 (.inl rfl); done)
  · refine EvA.body Try.func56 rfl rfl (by intro k; simp [AVal.ren]) (by intro k; exact ren_row (flsc_data _) k) ?_
    refine AWP.seq ?_
    refine TO ⟨[.sl (flsc l) (List.length l) .nn] ++ UU 7, []⟩ ?_
    refine AWP.reg (RT 1 ?_)
    refine AWP.seq (AWP.seq ?_)
    refine TO ⟨[.sl (flsc l) (List.length l) .nn, U6, .sl [] 0 .nil] ++ UU 5, []⟩ ?_
    refine AWP.reg (RT 2 ?_)
    refine KL [3] ⟨[.sl (flsc l) (List.length l) .nn, U6, .sl [] 0 .nil, U6, (B6 false), U6, U6, .undef], []⟩ ?_
    refine CN false (fun h => nomatch h) (fun _ => ?_)
    refine AWP.skip (SQ (RI (True ∧ True ∧ ((List.length (flsc l) = List.length l * 4) ∧ (List.length l ≤ 1073741824)) ∧ True ∧ True) ⟨trivial, trivial, ⟨(by simp), (by omega)⟩, trivial, trivial⟩ ?_))
    refine AWP.ret ?_
    refine FI (.row 0 0 (List.length l)) ?_
    exact Shrink.refl _ _ _
def lastI (l : List FlD) : Nat → Int
  | 0 => -1
  | i + 1 => (l.getD i fl0).num
theorem lastI_spec (l : List FlD) (i : Nat) : (i = 0 → lastI l i = -1) ∧ (1 ≤ i → lastI l i = (l.getD (i - 1) fl0).num) := by
  cases i with
  | zero => exact ⟨fun _ => rfl, fun h => absurd h (by omega)⟩
  | succ i => exact ⟨fun h => absurd h (by omega), fun _ => rfl⟩
theorem check (l : List FlD) (next : Int) (hx : l.length ≤ 1000000000000000) : EvD Try.prog 30 [.agg [.sl (flsc l) l.length .any, .sc (.int .i64 next)]] (.sc (.bool (decide (okN next l)))) := by
  refine EvD.body Try.func30 rfl (by simp [dataAll, AVal.data, *]) (by simp [dataAll, AVal.data, *]) ?_
  refine AWP.seq ?_
  refine TO ⟨[.agg [.sl (flsc l) (List.length l) .any, (I6 next)]] ++ UU 52, []⟩ ?_
  refine AWP.reg (RT 2 ?_)
  refine AWP.seq (AWP.seq (KL [0] ⟨[U6, .ptr 0 0, (B6 false)] ++ UU 50, [⟨[.sl (flsc l) (List.length l) .any, (I6 next)], 2, .fresh⟩]⟩ ?_))
  refine AWP.reg (PI 4 (True ∧ 1 < 2 ∧ True ∧ True ∧ True) ⟨trivial, (by omega), trivial, trivial, trivial⟩ ?_)
  refine DerQ.to ⟨[U6, .ptr 0 0, (B6 false), U6, U6, U6, .ptr 0 1, (I6 next), (B6 (decide (next < 0))), (B6 (decide (next < 0)))] ++ UU 43, [⟨[.sl (flsc l) (List.length l) .any, (I6 next)], 2, .fresh⟩]⟩ (by kernel_rfl) ?_
  cases h1 : (decide (next < 0))
  · have h1' := of_decide_eq_false h1
    refine PI 5 (True ∧ 1 < 2 ∧ True ∧ True ∧ True ∧ True) ⟨trivial, (by omega), trivial, trivial, trivial, trivial⟩ ?_
    refine DerQ.to ⟨[U6, .ptr 0 0, (B6 false), U6, U6, U6, .ptr 0 1, (I6 next), (B6 false), (B6 false), .ptr 0 1, (I6 next), (B6 (decide (next > 1073741824))), (B6 (decide (next > 1073741824))), (B6 (decide (next > 1073741824)))] ++ UU 38, [⟨[.sl (flsc l) (List.length l) .any, (I6 next)], 2, .fresh⟩]⟩ (by kernel_rfl) ?_
    cases h2 : (decide (next > 1073741824))
    · have h2' := of_decide_eq_false h2
      refine RI (True ∧ 0 < 2 ∧ True ∧ True ∧ True ∧ True) ⟨trivial, (by omega), trivial, trivial, trivial, trivial⟩ ?_
      refine KL (NN 6 13) ⟨[U6, .ptr 0 0, (B6 false)] ++ UU 16 ++ [(B6 (decide ((↑(List.length l) : Int) > 4096)))] ++ UU 33, [⟨[.sl (flsc l) (List.length l) .any, (I6 next)], 2, .fresh⟩]⟩ ?_
      refine CN (decide ((↑(List.length l) : Int) > 4096)) (fun h3 => ?_) (fun h3 => ?_)
      · have h3' := of_decide_eq_true h3
        refine SQ (RT 1 ?_)
        refine AWP.ret ?_
        refine FI (B6 false) ?_
        refine Shrink.all ?_ rfl
        (exact dec_no (fun h => by have := h.1; have := h.2.1; have := h.2.2.1; omega); done)
      · have h3' := of_decide_eq_false h3
        refine AWP.skip (SQ (RT 1 ?_))
        refine AWP.seq (AWP.seq (KL [19] ⟨[U6, .ptr 0 0, (B6 false), (I6 (-1))] ++ UU 49, [⟨[.sl (flsc l) (List.length l) .any, (I6 next)], 2, .fresh⟩]⟩ ?_))
        refine AWP.reg (RI (True ∧ 0 < 2 ∧ True ∧ True ∧ True) ⟨trivial, (by omega), trivial, trivial, trivial⟩ ?_)
        refine AWP.block (KL [20] ⟨[U6, .ptr 0 0, (B6 false), (I6 (-1))] ++ UU 17 ++ [.sl (flsc l) (List.length l) .any, (I6 (↑(List.length l) : Int)), (I6 0)] ++ UU 29, [⟨[.sl (flsc l) (List.length l) .any, (I6 next)], 2, .fresh⟩]⟩ ?_)
        refine AWP.loopW [false, true, true, true, false, false, false, false, false, false, false, false, false, false, false, false, false, false, false, false, false, true, true, true, false, false, false, false, false, false, false, false, false, false, false, false, false, false, false, false, false, false, false, false, false, false, false, false, false, false, false, false, false] (fun kk st => ∃ (i : Nat), kk = l.length - i ∧ i ≤ l.length ∧ (∀ j, j < i → (0 ≤ (l.getD j fl0).num ∧ (l.getD j fl0).num < next ∧ (1 ≤ j → (l.getD (j - 1) fl0).num < (l.getD j fl0).num) ∧ (1 ≤ (l.getD j fl0).to ∧ (l.getD j fl0).to ≤ 12) ∧ (l.getD j fl0).d.length ≠ 0)) ∧ st = ⟨[U6, .ptr 0 0, (B6 false), (I6 (lastI l i)), U6, U6, U6, U6, U6, U6, U6, U6, U6, U6, U6, U6, U6, U6, U6, U6, U6, .sl (flsc l) (List.length l) .any, (I6 (↑(List.length l) : Int)), (I6 (i : Int)), U6, U6, U6, U6, U6, U6, U6, U6, U6, U6, U6, U6, U6, U6, U6, U6, U6, U6, U6, U6, U6, U6, U6, U6, U6, U6, U6, U6, .undef], [⟨[.sl (flsc l) (List.length l) .any, (I6 next)], 2, .fresh⟩]⟩) _ ⟨0, rfl, by omega, fun j h => absurd h (by omega), by kernel_rfl⟩ ?_
        rintro kk s ⟨i, rfl, hi, hd, rfl⟩
        have hls := lastI_spec l i
        have hdp := hd (i - 1)
        refine SQ (RT 1 ?_)
        refine AWP.seq ?_
        refine TO ⟨[U6, .ptr 0 0, (B6 false), (I6 (lastI l i))] ++ UU 17 ++ [.sl (flsc l) (List.length l) .any, (I6 (↑(List.length l) : Int)), (I6 (↑i : Int)), (B6 (decide ((↑i : Int) < (↑(List.length l) : Int))))] ++ UU 28, [⟨[.sl (flsc l) (List.length l) .any, (I6 next)], 2, .fresh⟩]⟩ ?_
        refine CN (decide ((↑i : Int) < (↑(List.length l) : Int))) (fun h4 => ?_) (fun h4 => ?_)
        · have h4' := of_decide_eq_true h4
          refine AWP.skip (AWP.seq (AWP.block (SQ ?_)))
          refine DerQ.pre 3 ((((0 ≤ (↑i : Int)) ∧ ((↑i : Int) < (↑(List.length l) : Int))) ∧ (Int.toNat (↑i : Int) * 4 + 4 ≤ List.length (flsc l))) ∧ 4 ≤ 4 ∧ True ∧ True) ⟨[U6, .ptr 0 0, (B6 false), (I6 (lastI l i)), U6, .ptr 1 0] ++ UU 15 ++ [.sl (flsc l) (List.length l) .any, (I6 (↑(List.length l) : Int)), (I6 (↑i : Int)), (B6 (decide ((↑i : Int) < (↑(List.length l) : Int)))), .dptr [List.getD (flsc l) (Int.toNat (↑i : Int) * 4 + 0) U6, List.getD (flsc l) (Int.toNat (↑i : Int) * 4 + 1) U6, List.getD (flsc l) (Int.toNat (↑i : Int) * 4 + 2) U6, List.getD (flsc l) (Int.toNat (↑i : Int) * 4 + 3) AVal.undef], .agg [List.getD (flsc l) (Int.toNat (↑i : Int) * 4 + 0) U6, List.getD (flsc l) (Int.toNat (↑i : Int) * 4 + 1) U6, List.getD (flsc l) (Int.toNat (↑i : Int) * 4 + 2) U6, List.getD (flsc l) (Int.toNat (↑i : Int) * 4 + 3) AVal.undef]] ++ UU 26, [⟨[.sl (flsc l) (List.length l) .any, (I6 next)], 2, .fresh⟩, ⟨[(I6 0), (I6 0), .sl [] 0 .nil, (B6 false)], 4, .fresh⟩]⟩ (by kernel_rfl) ⟨⟨⟨(by omega), (by omega)⟩, (by (simp [spliceA_length] <;> omega))⟩, (by omega), trivial, trivial⟩ ?_
          rw [Int.toNat_natCast (i)]
          rw [Nat.add_zero (i * 4)]
          rw [Go.Net.fl_cells (l) (i) (by omega)]
          refine RI (4 ≤ 4 ∧ True) ⟨(by omega), trivial⟩ ?_
          refine AWP.seq (AWP.seq (KL [24, 25, 26] ⟨[U6, .ptr 0 0, (B6 false), (I6 (lastI l i)), U6, .ptr 1 0] ++ UU 15 ++ [.sl (flsc l) (List.length l) .any, (I6 (↑(List.length l) : Int)), (I6 (↑i : Int))] ++ UU 29, [⟨[.sl (flsc l) (List.length l) .any, (I6 next)], 2, .fresh⟩, ⟨[(I6 ((List.getD l i fl0).num)), (I6 ((List.getD l i fl0).to)), .sl (u8s (List.getD l i fl0).d) (List.length (List.getD l i fl0).d) .any, (B6 ((List.getD l i fl0).sp))], 4, .fresh⟩]⟩ ?_))
          refine AWP.reg (PI 5 (True ∧ 0 < 4 ∧ True ∧ True ∧ True ∧ True) ⟨trivial, (by omega), trivial, trivial, trivial, trivial⟩ ?_)
          refine DerQ.to ⟨[U6, .ptr 0 0, (B6 false), (I6 (lastI l i)), U6, .ptr 1 0] ++ UU 15 ++ [.sl (flsc l) (List.length l) .any, (I6 (↑(List.length l) : Int)), (I6 (↑i : Int)), U6, U6, U6, .ptr 1 0, (I6 ((List.getD l i fl0).num)), (I6 (lastI l i)), (B6 (decide ((List.getD l i fl0).num ≤ lastI l i))), (B6 (decide ((List.getD l i fl0).num ≤ lastI l i)))] ++ UU 21, [⟨[.sl (flsc l) (List.length l) .any, (I6 next)], 2, .fresh⟩, ⟨[(I6 ((List.getD l i fl0).num)), (I6 ((List.getD l i fl0).to)), .sl (u8s (List.getD l i fl0).d) (List.length (List.getD l i fl0).d) .any, (B6 ((List.getD l i fl0).sp))], 4, .fresh⟩]⟩ (by kernel_rfl) ?_
          cases h5 : (decide ((List.getD l i fl0).num ≤ lastI l i))
          · have h5' := of_decide_eq_false h5
            refine PI 7 (True ∧ 0 < 4 ∧ True ∧ 1 < 2 ∧ True ∧ True ∧ True ∧ True) ⟨trivial, (by omega), trivial, (by omega), trivial, trivial, trivial, trivial⟩ ?_
            refine DerQ.to ⟨[U6, .ptr 0 0, (B6 false), (I6 (lastI l i)), U6, .ptr 1 0] ++ UU 15 ++ [.sl (flsc l) (List.length l) .any, (I6 (↑(List.length l) : Int)), (I6 (↑i : Int)), U6, U6, U6, .ptr 1 0, (I6 ((List.getD l i fl0).num)), (I6 (lastI l i)), (B6 false), (B6 false), .ptr 1 0, (I6 ((List.getD l i fl0).num)), .ptr 0 1, (I6 next), (B6 (decide ((List.getD l i fl0).num ≥ next))), (B6 (decide ((List.getD l i fl0).num ≥ next))), (B6 (decide ((List.getD l i fl0).num ≥ next)))] ++ UU 14, [⟨[.sl (flsc l) (List.length l) .any, (I6 next)], 2, .fresh⟩, ⟨[(I6 ((List.getD l i fl0).num)), (I6 ((List.getD l i fl0).to)), .sl (u8s (List.getD l i fl0).d) (List.length (List.getD l i fl0).d) .any, (B6 ((List.getD l i fl0).sp))], 4, .fresh⟩]⟩ (by kernel_rfl) ?_
            cases h6 : (decide ((List.getD l i fl0).num ≥ next))
            · have h6' := of_decide_eq_false h6
              refine PI 2 (True ∧ 1 < 4 ∧ True) ⟨trivial, (by omega), trivial⟩ ?_
              refine CD (peer ((List.getD l i fl0).to)) ?_
              refine PT 3 3 ?_
              refine DerQ.to ⟨[U6, .ptr 0 0, (B6 false), (I6 (lastI l i)), U6, .ptr 1 0] ++ UU 15 ++ [.sl (flsc l) (List.length l) .any, (I6 (↑(List.length l) : Int)), (I6 (↑i : Int)), U6, U6, U6, .ptr 1 0, (I6 ((List.getD l i fl0).num)), (I6 (lastI l i)), (B6 false), (B6 false), .ptr 1 0, (I6 ((List.getD l i fl0).num)), .ptr 0 1, (I6 next), (B6 false), (B6 false), (B6 false), .ptr 1 1, (I6 ((List.getD l i fl0).to)), (B6 (decide (1 ≤ (List.getD l i fl0).to ∧ (List.getD l i fl0).to ≤ 12))), (B6 (!decide (1 ≤ (List.getD l i fl0).to ∧ (List.getD l i fl0).to ≤ 12))), (B6 (!decide (1 ≤ (List.getD l i fl0).to ∧ (List.getD l i fl0).to ≤ 12))), (B6 (!decide (1 ≤ (List.getD l i fl0).to ∧ (List.getD l i fl0).to ≤ 12)))] ++ UU 8, [⟨[.sl (flsc l) (List.length l) .any, (I6 next)], 2, .fresh⟩, ⟨[(I6 ((List.getD l i fl0).num)), (I6 ((List.getD l i fl0).to)), .sl (u8s (List.getD l i fl0).d) (List.length (List.getD l i fl0).d) .any, (B6 ((List.getD l i fl0).sp))], 4, .fresh⟩]⟩ (by kernel_rfl) ?_
              cases h7 : (!decide (1 ≤ (List.getD l i fl0).to ∧ (List.getD l i fl0).to ≤ 12))
              · have h7' := h7
                simp only [Bool.and_eq_true, Bool.and_eq_false_iff, Bool.or_eq_true, Bool.or_eq_false_iff, Bool.not_eq_true', Bool.not_eq_false', beq_iff_eq, beq_eq_false_iff_ne, decide_eq_true_eq, decide_eq_false_iff_not, ne_eq] at h7'
                refine RI (True ∧ 2 < 4 ∧ True ∧ True ∧ True ∧ True) ⟨trivial, (by omega), trivial, trivial, trivial, trivial⟩ ?_
                refine KL (NN 27 22) ⟨[U6, .ptr 0 0, (B6 false), (I6 (lastI l i)), U6, .ptr 1 0] ++ UU 15 ++ [.sl (flsc l) (List.length l) .any, (I6 (↑(List.length l) : Int)), (I6 (↑i : Int))] ++ UU 25 ++ [(B6 ((↑(List.length (List.getD l i fl0).d) : Int) == 0)), U6, U6, .undef], [⟨[.sl (flsc l) (List.length l) .any, (I6 next)], 2, .fresh⟩, ⟨[(I6 ((List.getD l i fl0).num)), (I6 ((List.getD l i fl0).to)), .sl (u8s (List.getD l i fl0).d) (List.length (List.getD l i fl0).d) .any, (B6 ((List.getD l i fl0).sp))], 4, .fresh⟩]⟩ ?_
                refine CN ((↑(List.length (List.getD l i fl0).d) : Int) == 0) (fun h8 => ?_) (fun h8 => ?_)
                · have h8' := eq_of_beq h8
                  refine SQ (RT 1 ?_)
                  refine AWP.ret ?_
                  refine FI (B6 false) ?_
                  refine Shrink.all ?_ rfl
                  (exact dec_no (fun h => by have := h.2.2.2 i (by omega); omega); done)
                · have h8' := ne_of_beq_false h8
                  refine AWP.skip (AWP.reg (RI (True ∧ 0 < 4 ∧ True ∧ True) ⟨trivial, (by omega), trivial, trivial⟩ ?_))
                  refine KL [5, 49, 50, 51] ⟨[U6, .ptr 0 0, (B6 false), (I6 ((List.getD l i fl0).num))] ++ UU 17 ++ [.sl (flsc l) (List.length l) .any, (I6 (↑(List.length l) : Int)), (I6 (↑i : Int))] ++ UU 29, [⟨[.sl (flsc l) (List.length l) .any, (I6 next)], 2, .fresh⟩, ⟨[(I6 ((List.getD l i fl0).num)), (I6 ((List.getD l i fl0).to)), .sl (u8s (List.getD l i fl0).d) (List.length (List.getD l i fl0).d) .any, (B6 ((List.getD l i fl0).sp))], 4, .fresh⟩]⟩ ?_
                  refine AWP.reg ?_
                  refine DerQ.run (TT 2) ⟨[U6, .ptr 0 0, (B6 false), (I6 ((List.getD l i fl0).num))] ++ UU 17 ++ [.sl (flsc l) (List.length l) .any, (I6 (↑(List.length l) : Int)), (I6 (IntKind.wrap IntKind.i64 ((↑i : Int) + 1)))] ++ UU 28 ++ [(I6 (IntKind.wrap IntKind.i64 ((↑i : Int) + 1)))], [⟨[.sl (flsc l) (List.length l) .any, (I6 next)], 2, .fresh⟩, ⟨[(I6 ((List.getD l i fl0).num)), (I6 ((List.getD l i fl0).to)), .sl (u8s (List.getD l i fl0).d) (List.length (List.getD l i fl0).d) .any, (B6 ((List.getD l i fl0).sp))], 4, .fresh⟩]⟩ (by kernel_rfl) (tt 2) ?_
                  rw [IntWalk.i64_in ((↑i : Int) + 1) (by omega)]
                  (exact ⟨_, by omega, _, Weak.cut 1 (by kernel_rfl) (by kernel_rfl) (by simp) (by simp [ltAll, AVal.refLt]) (by simp [dataAll, AVal.data]), i + 1, rfl, by omega, succ_all hd (by omega), rfl⟩; done)
              · have h7' := h7
                simp only [Bool.and_eq_true, Bool.and_eq_false_iff, Bool.or_eq_true, Bool.or_eq_false_iff, Bool.not_eq_true', Bool.not_eq_false', beq_iff_eq, beq_eq_false_iff_ne, decide_eq_true_eq, decide_eq_false_iff_not, ne_eq] at h7'
                refine RT 1 ?_
                refine KL (NN 27 22) ⟨[U6, .ptr 0 0, (B6 false), (I6 (lastI l i)), U6, .ptr 1 0] ++ UU 15 ++ [.sl (flsc l) (List.length l) .any, (I6 (↑(List.length l) : Int)), (I6 (↑i : Int))] ++ UU 25 ++ [(B6 true), U6, U6, .undef], [⟨[.sl (flsc l) (List.length l) .any, (I6 next)], 2, .fresh⟩, ⟨[(I6 ((List.getD l i fl0).num)), (I6 ((List.getD l i fl0).to)), .sl (u8s (List.getD l i fl0).d) (List.length (List.getD l i fl0).d) .any, (B6 ((List.getD l i fl0).sp))], 4, .fresh⟩]⟩ ?_
                refine CN true (fun _ => ?_) (fun h => nomatch h)
                refine SQ (RT 1 ?_)
                refine AWP.ret ?_
                refine FI (B6 false) ?_
                refine Shrink.all ?_ rfl
                (exact dec_no (fun h => by have := h.2.2.2 i (by omega); omega); done)
            · have h6' := of_decide_eq_true h6
              refine RT 3 ?_
              refine KL (NN 27 22) ⟨[U6, .ptr 0 0, (B6 false), (I6 (lastI l i)), U6, .ptr 1 0] ++ UU 15 ++ [.sl (flsc l) (List.length l) .any, (I6 (↑(List.length l) : Int)), (I6 (↑i : Int))] ++ UU 25 ++ [(B6 true), U6, U6, .undef], [⟨[.sl (flsc l) (List.length l) .any, (I6 next)], 2, .fresh⟩, ⟨[(I6 ((List.getD l i fl0).num)), (I6 ((List.getD l i fl0).to)), .sl (u8s (List.getD l i fl0).d) (List.length (List.getD l i fl0).d) .any, (B6 ((List.getD l i fl0).sp))], 4, .fresh⟩]⟩ ?_
              refine CN true (fun _ => ?_) (fun h => nomatch h)
              refine SQ (RT 1 ?_)
              refine AWP.ret ?_
              refine FI (B6 false) ?_
              refine Shrink.all ?_ rfl
              (exact dec_no (fun h => by have := h.2.2.2 i (by omega); omega); done)
          · have h5' := of_decide_eq_true h5
            refine RT 5 ?_
            refine KL (NN 27 22) ⟨[U6, .ptr 0 0, (B6 false), (I6 (lastI l i)), U6, .ptr 1 0] ++ UU 15 ++ [.sl (flsc l) (List.length l) .any, (I6 (↑(List.length l) : Int)), (I6 (↑i : Int))] ++ UU 25 ++ [(B6 true), U6, U6, .undef], [⟨[.sl (flsc l) (List.length l) .any, (I6 next)], 2, .fresh⟩, ⟨[(I6 ((List.getD l i fl0).num)), (I6 ((List.getD l i fl0).to)), .sl (u8s (List.getD l i fl0).d) (List.length (List.getD l i fl0).d) .any, (B6 ((List.getD l i fl0).sp))], 4, .fresh⟩]⟩ ?_
            refine CN true (fun _ => ?_) (fun h => nomatch h)
            refine SQ (RT 1 ?_)
            refine AWP.ret ?_
            refine FI (B6 false) ?_
            refine Shrink.all ?_ rfl
            (exact dec_no (fun h => by have := h.2.2.2 i (by omega); omega); done)
        · have h4' := of_decide_eq_false h4
          refine AWP.exit ?_
          refine AWP.seq (KL [1, 3, 21, 22, 23, 24] ⟨[U6, U6, (B6 false)] ++ UU 50, [⟨[.sl (flsc l) (List.length l) .any, (I6 next)], 2, .fresh⟩]⟩ ?_)
          refine AWP.reg (RT 1 ?_)
          refine AWP.ret ?_
          refine FI (B6 true) ?_
          refine Shrink.all ?_ rfl
          (exact dec_yes ⟨by omega, by omega, by omega, fun j hj => hd j (by omega)⟩; done)
    · have h2' := of_decide_eq_true h2
      refine RT 1 ?_
      refine KL (NN 6 13) ⟨[U6, .ptr 0 0, (B6 false)] ++ UU 16 ++ [(B6 true)] ++ UU 33, [⟨[.sl (flsc l) (List.length l) .any, (I6 next)], 2, .fresh⟩]⟩ ?_
      refine CN true (fun _ => ?_) (fun h => nomatch h)
      refine SQ (RT 1 ?_)
      refine AWP.ret ?_
      refine FI (B6 false) ?_
      refine Shrink.all ?_ rfl
      (exact dec_no (fun h => by have := h.1; have := h.2.1; have := h.2.2.1; omega); done)
  · have h1' := of_decide_eq_true h1
    refine RT 3 ?_
    refine KL (NN 6 13) ⟨[U6, .ptr 0 0, (B6 false)] ++ UU 16 ++ [(B6 true)] ++ UU 33, [⟨[.sl (flsc l) (List.length l) .any, (I6 next)], 2, .fresh⟩]⟩ ?_
    refine CN true (fun _ => ?_) (fun h => nomatch h)
    refine SQ (RT 1 ?_)
    refine AWP.ret ?_
    refine FI (B6 false) ?_
    refine Shrink.all ?_ rfl
    (exact dec_no (fun h => by have := h.1; have := h.2.1; have := h.2.2.1; omega); done)
def placeI : List FlD → Int → Nat → Int
  | [], _, _ => -1
  | f :: l, x, i => if f.num = x then i else placeI l x (i + 1)
theorem place_at : ∀ (l : List FlD) (x : Int) (i k : Nat), k < l.length → (∀ j, j < k → (l.getD j fl0).num ≠ x) → (l.getD k fl0).num = x → placeI l x i = ((i + k : Nat) : Int)
  | f :: l, x, i, 0, _, _, h => by simp only [placeI]; rw [if_pos (show f.num = x from h)]; rfl
  | f :: l, x, i, k + 1, h1, h2, h3 => by
    simp only [placeI]
    rw [if_neg (show ¬ f.num = x from h2 0 (by omega)), place_at l x (i + 1) k (by simpa using h1) (fun j hj => h2 (j + 1) (by omega)) h3]
    congr 1; omega
theorem place_no : ∀ (l : List FlD) (x : Int) (i : Nat), (∀ j, j < l.length → (l.getD j fl0).num ≠ x) → placeI l x i = -1
  | [], x, i, _ => rfl
  | f :: l, x, i, h => by
    simp only [placeI]
    rw [if_neg (show ¬ f.num = x from h 0 (by simp)), place_no l x (i + 1) (fun j hj => h (j + 1) (by simpa using hj))]
end Go.Net
