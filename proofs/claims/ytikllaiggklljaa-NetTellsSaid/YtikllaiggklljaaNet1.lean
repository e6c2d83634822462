/- Walks and laws. -/
import Derived.Test.YtikllaiggklljaaNet0
import Derived.Test.YtikllaiggklljaaLibC
set_option maxRecDepth 100000
set_option maxHeartbeats 0
set_option linter.unusedSimpArgs false
set_option linter.unusedVariables false
namespace Go.Net
open Go Go.Abs Go.Proofs
theorem toNat_prev (i : Nat) (h : 1 ≤ i) : Int.toNat ((↑i : Int) - 1) = i - 1 := by omega
theorem peer (p : Int) : EvD Try.prog 58 [.sc (.int .i64 p)] (.sc (.bool (decide (1 ≤ p ∧ p ≤ 12)))) := by
  refine EvD.body Try.func58 rfl (by simp [dataAll, AVal.data, *]) (by simp [dataAll, AVal.data, *]) ?_
  refine AWP.seq ?_
  refine TO ⟨[(I6 p)] ++ UU 8, []⟩ ?_
  refine AWP.reg (RT 1 ?_)
  refine AWP.seq ?_
  refine TO ⟨[(I6 p), U6, (B6 false)] ++ UU 6, []⟩ ?_
  refine AWP.reg (PT 3 3 ?_)
  refine DerQ.to ⟨[(I6 p), U6, (B6 false), (I6 p), (B6 (decide (p ≥ 1))), (B6 (decide (p ≥ 1))), U6, U6, .undef], []⟩ (by kernel_rfl) ?_
  cases h1 : (decide (p ≥ 1))
  · have h1' := of_decide_eq_false h1
    refine RT 2 ?_
    refine AWP.ret ?_
    refine FI (B6 false) ?_
    refine Shrink.all ?_ rfl
    ((first | refine congrArg B6 ?_ | refine congrArg I6 ?_ | congr 2); rw [Bool.eq_iff_iff]; simp only [decide_eq_true_eq, Bool.false_eq_true, false_iff, true_iff, Bool.and_eq_true, Bool.or_eq_true, Bool.not_eq_true', Bool.not_eq_true, Bool.not_eq_false', decide_eq_false_iff_not, iff_true, iff_false, beq_iff_eq, beq_eq_false_iff_ne, ge_iff_le, gt_iff_lt, ne_eq, bne_iff_ne, not_true_eq_false, not_false_eq_true] at *; omega; done)
  · have h1' := of_decide_eq_true h1
    refine RT 4 ?_
    refine AWP.ret ?_
    refine FI (B6 (decide (p ≤ 12))) ?_
    refine Shrink.all ?_ rfl
    ((first | refine congrArg B6 ?_ | refine congrArg I6 ?_ | congr 2); rw [Bool.eq_iff_iff]; simp only [decide_eq_true_eq, Bool.false_eq_true, false_iff, true_iff, Bool.and_eq_true, Bool.or_eq_true, Bool.not_eq_true', Bool.not_eq_true, Bool.not_eq_false', decide_eq_false_iff_not, iff_true, iff_false, beq_iff_eq, beq_eq_false_iff_ne, ge_iff_le, gt_iff_lt, ne_eq, bne_iff_ne, not_true_eq_false, not_false_eq_true] at *; omega; done)
theorem r_peer (p : Int) : EvD Try.prog 53 [.sc (.int .i64 p)] (.sc (.bool (decide (1 ≤ p ∧ p ≤ 12)))) := by
  refine EvD.body Try.func53 rfl (by simp [dataAll, AVal.data, *]) (by simp [dataAll, AVal.data, *]) ?_
  refine AWP.seq ?_
  refine TO ⟨[(I6 p)] ++ UU 8, []⟩ ?_
  refine AWP.reg (RT 1 ?_)
  refine AWP.seq ?_
  refine TO ⟨[(I6 p), U6, (B6 false)] ++ UU 6, []⟩ ?_
  refine AWP.reg (PT 3 3 ?_)
  refine DerQ.to ⟨[(I6 p), U6, (B6 false), (I6 p), (B6 (decide (p ≥ 1))), (B6 (decide (p ≥ 1))), U6, U6, .undef], []⟩ (by kernel_rfl) ?_
  cases h1 : (decide (p ≥ 1))
  · have h1' := of_decide_eq_false h1
    refine RT 2 ?_
    refine AWP.ret ?_
    refine FI (B6 false) ?_
    refine Shrink.all ?_ rfl
    ((first | refine congrArg B6 ?_ | refine congrArg I6 ?_ | congr 2); rw [Bool.eq_iff_iff]; simp only [decide_eq_true_eq, Bool.false_eq_true, false_iff, true_iff, Bool.and_eq_true, Bool.or_eq_true, Bool.not_eq_true', Bool.not_eq_true, Bool.not_eq_false', decide_eq_false_iff_not, iff_true, iff_false, beq_iff_eq, beq_eq_false_iff_ne, ge_iff_le, gt_iff_lt, ne_eq, bne_iff_ne, not_true_eq_false, not_false_eq_true] at *; omega; done)
  · have h1' := of_decide_eq_true h1
    refine RT 4 ?_
    refine AWP.ret ?_
    refine FI (B6 (decide (p ≤ 12))) ?_
    refine Shrink.all ?_ rfl
    ((first | refine congrArg B6 ?_ | refine congrArg I6 ?_ | congr 2); rw [Bool.eq_iff_iff]; simp only [decide_eq_true_eq, Bool.false_eq_true, false_iff, true_iff, Bool.and_eq_true, Bool.or_eq_true, Bool.not_eq_true', Bool.not_eq_true, Bool.not_eq_false', decide_eq_false_iff_not, iff_true, iff_false, beq_iff_eq, beq_eq_false_iff_ne, ge_iff_le, gt_iff_lt, ne_eq, bne_iff_ne, not_true_eq_false, not_false_eq_true] at *; omega; done)
theorem bcloneA (xs : List Int) (hx : xs.length ≤ 1000000) : EvA Try.prog 57 [.sl (u8s xs) xs.length .any] (fun k => .row k 0 xs.length) (fun _ => [⟨u8s xs, 1, .fresh⟩]) := by
  refine EvA.split [] ?_ ?_
  · intro h h0
    have e : xs = [] := List.eq_nil_of_length_eq_zero h0
    subst e
    refine EvA.body Try.func57 rfl rfl (by intro k; simp [AVal.ren]) (by intro k; exact ren_row (dataAll_u8s _) k) ?_
    refine AWP.seq ?_
    refine TO ⟨[.sl [] 0 .nil] ++ UU 7, []⟩ ?_
    refine AWP.reg (RT 1 ?_)
    refine AWP.seq (AWP.seq ?_)
    refine TO ⟨[.sl [] 0 .nil, U6, .sl [] 0 .nil] ++ UU 5, []⟩ ?_
    refine AWP.reg (RT 2 ?_)
    refine KL [3] ⟨[.sl [] 0 .nil, U6, .sl [] 0 .nil, U6, (B6 true), U6, U6, .undef], []⟩ ?_
    refine CN true (fun _ => ?_) (fun h => nomatch h)
    refine SQ (RT 1 ?_)
    refine AWP.ret ?_
    refine FI (.sl [] 0 .nil) ?_
    (exact Shrink.virt 1 (.inl rfl); done)
  · refine EvA.body Try.func57 rfl rfl (by intro k; simp [AVal.ren]) (by intro k; exact ren_row (dataAll_u8s _) k) ?_
    refine AWP.seq ?_
    refine TO ⟨[.sl (u8s xs) (List.length xs) .nn] ++ UU 7, []⟩ ?_
    refine AWP.reg (RT 1 ?_)
    refine AWP.seq (AWP.seq ?_)
    refine TO ⟨[.sl (u8s xs) (List.length xs) .nn, U6, .sl [] 0 .nil] ++ UU 5, []⟩ ?_
    refine AWP.reg (RT 2 ?_)
    refine KL [3] ⟨[.sl (u8s xs) (List.length xs) .nn, U6, .sl [] 0 .nil, U6, (B6 false), U6, U6, .undef], []⟩ ?_
    refine CN false (fun h => nomatch h) (fun _ => ?_)
    refine AWP.skip (SQ (RI (True ∧ True ∧ ((List.length (u8s xs) = List.length xs * 1) ∧ (List.length xs ≤ 1073741824)) ∧ True ∧ True) ⟨trivial, trivial, ⟨(by simp), (by omega)⟩, trivial, trivial⟩ ?_))
    refine AWP.ret ?_
    refine FI (.row 0 0 (List.length xs)) ?_
    exact Shrink.refl _ _ _
theorem bclone (xs : List Int) (hx : xs.length ≤ 1000000) : EvD Try.prog 57 [.sl (u8s xs) xs.length .any] (.sl (u8s xs) xs.length .any) := (bcloneA xs hx).toSl (.inl rfl) rfl rfl
theorem fclone (l : List FlD) (hx : l.length ≤ 100000) : EvA Try.prog 56 [.sl (flsc l) l.length .any] (fun k => .row k 0 l.length) (fun _ => [⟨flsc l, 4, .fresh⟩]) := by
  refine EvA.split [] ?_ ?_
  · intro h h0
    have e : l = [] := List.eq_nil_of_length_eq_zero h0
    subst e
    refine EvA.body Try.func56 rfl rfl (by intro k; simp [AVal.ren]) (by intro k; exact ren_row rfl k) ?_
    refine AWP.seq ?_
    refine TO ⟨[.sl [] 0 .nil] ++ UU 7, []⟩ ?_
    refine AWP.reg (RT 1 ?_)
    refine AWP.seq (AWP.seq ?_)
    refine TO ⟨[.sl [] 0 .nil, U6, .sl [] 0 .nil] ++ UU 5, []⟩ ?_
    refine AWP.reg (RT 2 ?_)
    refine KL [3] ⟨[.sl [] 0 .nil, U6, .sl [] 0 .nil, U6, (B6 true), U6, U6, .undef], []⟩ ?_
    refine CN true (fun _ => ?_) (fun h => nomatch h)
    refine SQ (RT 1 ?_)
    refine AWP.ret ?_
    refine FI (.sl [] 0 .nil) ?_
    (exact Shrink.virt 4 (.inl rfl); done)
  · refine EvA.body Try.func56 rfl rfl (by intro k; simp [AVal.ren]) (by intro k; exact ren_row (flsc_data _) k) ?_
    refine AWP.seq ?_
    refine TO ⟨[.sl (flsc l) (List.length l) .nn] ++ UU 7, []⟩ ?_
    refine AWP.reg (RT 1 ?_)
    refine AWP.seq (AWP.seq ?_)
    refine TO ⟨[.sl (flsc l) (List.length l) .nn, U6, .sl [] 0 .nil] ++ UU 5, []⟩ ?_
    refine AWP.reg (RT 2 ?_)
    refine KL [3] ⟨[.sl (flsc l) (List.length l) .nn, U6, .sl [] 0 .nil, U6, (B6 false), U6, U6, .undef], []⟩ ?_
    refine CN false (fun h => nomatch h) (fun _ => ?_)
    refine AWP.skip (SQ (RI (True ∧ True ∧ ((List.length (flsc l) = List.length l * 4) ∧ (List.length l ≤ 1073741824)) ∧ True ∧ True) ⟨trivial, trivial, ⟨(by simp), (by omega)⟩, trivial, trivial⟩ ?_))
    refine AWP.ret ?_
    refine FI (.row 0 0 (List.length l)) ?_
    exact Shrink.refl _ _ _
theorem one_refl (x : FlD) (hb : Bts x.d) : EvD Try.prog 29 [.agg (flc x), .agg (flc x)] (.sc (.bool true)) := by
  refine EvD.body Try.func29 rfl (by simp [flc, dataAll, AVal.data]) rfl ?_
  refine AWP.seq ?_
  refine TO ⟨[.agg [(I6 (x.num)), (I6 (x.to)), .sl (u8s x.d) (List.length x.d) .any, (B6 x.sp)], .agg [(I6 (x.num)), (I6 (x.to)), .sl (u8s x.d) (List.length x.d) .any, (B6 x.sp)]] ++ UU 31, []⟩ ?_
  refine AWP.reg (RT 3 ?_)
  refine AWP.seq (KL [0, 1] ⟨[U6, U6, .ptr 0 0, .ptr 1 0, (B6 false)] ++ UU 28, [⟨[(I6 (x.num)), (I6 (x.to)), .sl (u8s x.d) (List.length x.d) .any, (B6 x.sp)], 4, .fresh⟩, ⟨[(I6 (x.num)), (I6 (x.to)), .sl (u8s x.d) (List.length x.d) .any, (B6 x.sp)], 4, .fresh⟩]⟩ ?_)
  refine AWP.reg (PI 6 (True ∧ 0 < 4 ∧ True ∧ 0 < 4 ∧ True ∧ True ∧ True) ⟨trivial, (by omega), trivial, (by omega), trivial, trivial, trivial⟩ ?_)
  refine DerQ.to ⟨[U6, U6, .ptr 0 0, .ptr 1 0, (B6 false), .ptr 0 0, (I6 (x.num)), .ptr 1 0, (I6 (x.num)), (B6 (x.num == x.num)), (B6 (x.num == x.num))] ++ UU 22, [⟨[(I6 (x.num)), (I6 (x.to)), .sl (u8s x.d) (List.length x.d) .any, (B6 x.sp)], 4, .fresh⟩, ⟨[(I6 (x.num)), (I6 (x.to)), .sl (u8s x.d) (List.length x.d) .any, (B6 x.sp)], 4, .fresh⟩]⟩ (by kernel_rfl) ?_
  cases h1 : (x.num == x.num)
  · have h1' := ne_of_beq_false h1
    exfalso; omega
  · have h1' := eq_of_beq h1
    refine PI 7 (True ∧ 1 < 4 ∧ True ∧ 1 < 4 ∧ True ∧ True ∧ True ∧ True) ⟨trivial, (by omega), trivial, (by omega), trivial, trivial, trivial, trivial⟩ ?_
    refine DerQ.to ⟨[U6, U6, .ptr 0 0, .ptr 1 0, (B6 false), .ptr 0 0, (I6 (x.num)), .ptr 1 0, (I6 (x.num)), (B6 true), (B6 true), .ptr 0 1, (I6 (x.to)), .ptr 1 1, (I6 (x.to)), (B6 (x.to == x.to)), (B6 (x.to == x.to)), (B6 (x.to == x.to))] ++ UU 15, [⟨[(I6 (x.num)), (I6 (x.to)), .sl (u8s x.d) (List.length x.d) .any, (B6 x.sp)], 4, .fresh⟩, ⟨[(I6 (x.num)), (I6 (x.to)), .sl (u8s x.d) (List.length x.d) .any, (B6 x.sp)], 4, .fresh⟩]⟩ (by kernel_rfl) ?_
    cases h2 : (x.to == x.to)
    · have h2' := ne_of_beq_false h2
      exfalso; omega
    · have h2' := eq_of_beq h2
      refine PI 7 (True ∧ 3 < 4 ∧ True ∧ 3 < 4 ∧ True ∧ True ∧ True ∧ True) ⟨trivial, (by omega), trivial, (by omega), trivial, trivial, trivial, trivial⟩ ?_
      refine DerQ.to ⟨[U6, U6, .ptr 0 0, .ptr 1 0, (B6 false), .ptr 0 0, (I6 (x.num)), .ptr 1 0, (I6 (x.num)), (B6 true), (B6 true), .ptr 0 1, (I6 (x.to)), .ptr 1 1, (I6 (x.to)), (B6 true), (B6 true), (B6 true), .ptr 0 3, (B6 x.sp), .ptr 1 3, (B6 x.sp), (B6 (x.sp == x.sp)), (B6 (x.sp == x.sp)), (B6 (x.sp == x.sp))] ++ UU 8, [⟨[(I6 (x.num)), (I6 (x.to)), .sl (u8s x.d) (List.length x.d) .any, (B6 x.sp)], 4, .fresh⟩, ⟨[(I6 (x.num)), (I6 (x.to)), .sl (u8s x.d) (List.length x.d) .any, (B6 x.sp)], 4, .fresh⟩]⟩ (by kernel_rfl) ?_
      cases h3 : (x.sp == x.sp)
      · have h3' := ne_of_beq_false h3
        (exfalso; (exfalso; simp_all; done); done)
      · have h3' := eq_of_beq h3
        refine RI (True ∧ 2 < 4 ∧ ((List.length x.d = List.length (u8s x.d)) ∧ (∀ (i : Nat), i < List.length (u8s x.d) → isByteA (List.getD (u8s x.d) i AVal.undef) = true)) ∧ True ∧ 2 < 4 ∧ ((List.length x.d = List.length (u8s x.d)) ∧ (∀ (i : Nat), i < List.length (u8s x.d) → isByteA (List.getD (u8s x.d) i AVal.undef) = true)) ∧ True ∧ True ∧ True ∧ True) ⟨trivial, (by omega), ⟨(by simp), (by exact u8s_isByte _)⟩, trivial, (by omega), ⟨(by simp), (by exact u8s_isByte _)⟩, trivial, trivial, trivial, trivial⟩ ?_
        refine AWP.ret ?_
        refine FI (B6 (ByteArray.toList (strOf (u8s x.d)) == ByteArray.toList (strOf (u8s x.d)))) ?_
        refine Shrink.all ?_ rfl
        (simp; done)
theorem few (l : List FlD) (next : Int) (hx : l.length ≤ 1000000000000000) : EvD Try.prog 23 [.agg [.sl (flsc l) l.length .any, .sc (.int .i64 next)]] (.sc (.bool (decide (fewP l)))) := by
  refine EvD.body Try.func23 rfl (by simp [dataAll, AVal.data, *]) (by simp [dataAll, AVal.data, *]) ?_
  refine AWP.seq ?_
  refine TO ⟨[.agg [.sl (flsc l) (List.length l) .any, (I6 next)]] ++ UU 28, []⟩ ?_
  refine AWP.reg (RT 2 ?_)
  refine AWP.seq (AWP.seq (KL [0] ⟨[U6, .ptr 0 0, (B6 false)] ++ UU 26, [⟨[.sl (flsc l) (List.length l) .any, (I6 next)], 2, .fresh⟩]⟩ ?_))
  refine AWP.reg (RT 1 ?_)
  refine AWP.block ?_
  refine TO ⟨[U6, .ptr 0 0, (B6 false), (I6 0)] ++ UU 25, [⟨[.sl (flsc l) (List.length l) .any, (I6 next)], 2, .fresh⟩]⟩ ?_
  refine AWP.loopM [false, true, true, true, false, false, false, false, false, false, false, false, false, false, false, false, false, false, false, false, false, false, false, false, false, false, false, false, false] (fun kk st => ∃ (i : Nat), kk = l.length - i ∧ i ≤ l.length ∧ (∀ j, j < i → (l.getD j fl0).d.length ≤ 2000) ∧ st = ⟨[U6, .ptr 0 0, (B6 false), (I6 (i : Int)), U6, U6, U6, U6, U6, U6, U6, U6, U6, U6, U6, U6, U6, U6, U6, U6, U6, U6, U6, U6, U6, U6, U6, U6, .undef], [⟨[.sl (flsc l) (List.length l) .any, (I6 next)], 2, .fresh⟩]⟩) _ ⟨0, rfl, by omega, fun j h => absurd h (by omega), by kernel_rfl⟩ ?_
  rintro kk s ⟨i, rfl, hi, hd, rfl⟩
  refine AWP.seq (SQ (PI 6 (True ∧ True ∧ 0 < 2 ∧ True ∧ True ∧ True ∧ True) ⟨trivial, trivial, (by omega), trivial, trivial, trivial, trivial⟩ ?_))
  refine DerQ.to ⟨[U6, .ptr 0 0, (B6 false), (I6 (↑i : Int)), (I6 (↑i : Int)), .ptr 0 0, .sl (flsc l) (List.length l) .any, (I6 (↑(List.length l) : Int)), (B6 (decide ((↑i : Int) < (↑(List.length l) : Int)))), (B6 (decide ((↑i : Int) < (↑(List.length l) : Int))))] ++ UU 19, [⟨[.sl (flsc l) (List.length l) .any, (I6 next)], 2, .fresh⟩]⟩ (by kernel_rfl) ?_
  cases h1 : (decide ((↑i : Int) < (↑(List.length l) : Int)))
  · have h1' := of_decide_eq_false h1
    refine RT 1 ?_
    refine KL (NN 4 10) ⟨[U6, .ptr 0 0, (B6 false), (I6 (↑i : Int))] ++ UU 10 ++ [(B6 false)] ++ UU 14, [⟨[.sl (flsc l) (List.length l) .any, (I6 next)], 2, .fresh⟩]⟩ ?_
    refine CN false (fun h => nomatch h) (fun _ => ?_)
    refine AWP.exit ?_
    refine SQ (RI (True ∧ 0 < 2 ∧ True ∧ True ∧ True ∧ True) ⟨trivial, (by omega), trivial, trivial, trivial, trivial⟩ ?_)
    refine AWP.ret ?_
    refine FI (B6 (decide ((↑(List.length l) : Int) ≤ 40))) ?_
    refine Shrink.all ?_ rfl
    ((first | refine congrArg B6 ?_ | refine congrArg I6 ?_ | congr 2); exact decide_eq_decide.2 ⟨fun h1 => ⟨by omega, fun j hj => hd j (by omega)⟩, fun h1 => by have := h1.1; omega⟩; done)
  · have h1' := of_decide_eq_true h1
    refine RI (True ∧ 0 < 2 ∧ True ∧ True ∧ True ∧ True) ⟨trivial, (by omega), trivial, trivial, trivial, trivial⟩ ?_
    refine KL (NN 4 10) ⟨[U6, .ptr 0 0, (B6 false), (I6 (↑i : Int))] ++ UU 10 ++ [(B6 (decide ((↑(List.length l) : Int) ≤ 40)))] ++ UU 14, [⟨[.sl (flsc l) (List.length l) .any, (I6 next)], 2, .fresh⟩]⟩ ?_
    refine CN (decide ((↑(List.length l) : Int) ≤ 40)) (fun h2 => ?_) (fun h2 => ?_)
    · have h2' := of_decide_eq_true h2
      refine AWP.skip (AWP.seq (AWP.block (SQ ?_)))
      refine DerQ.pre 6 (True ∧ 0 < 2 ∧ True ∧ (((0 ≤ (↑i : Int)) ∧ ((↑i : Int) < (↑(List.length l) : Int))) ∧ (Int.toNat (↑i : Int) * 4 + 4 ≤ List.length (flsc l))) ∧ 3 ≤ 4 ∧ 0 < 1 ∧ True) ⟨[U6, .ptr 0 0, (B6 false), (I6 (↑i : Int))] ++ UU 10 ++ [(B6 (decide ((↑(List.length l) : Int) ≤ 40))), U6, U6, .ptr 0 0, .sl (flsc l) (List.length l) .any, (I6 (↑i : Int)), .dptr [List.getD (flsc l) (Int.toNat (↑i : Int) * 4 + 0) U6, List.getD (flsc l) (Int.toNat (↑i : Int) * 4 + 1) U6, List.getD (flsc l) (Int.toNat (↑i : Int) * 4 + 2) U6, List.getD (flsc l) (Int.toNat (↑i : Int) * 4 + 3) AVal.undef], .dptr [List.getD (flsc l) (Int.toNat (↑i : Int) * 4 + 2) AVal.undef], List.getD [List.getD (flsc l) (Int.toNat (↑i : Int) * 4 + 2) AVal.undef] 0 AVal.undef] ++ UU 6, [⟨[.sl (flsc l) (List.length l) .any, (I6 next)], 2, .fresh⟩]⟩ (by kernel_rfl) ⟨trivial, (by omega), trivial, ⟨⟨(by omega), (by omega)⟩, (by (simp [spliceA_length] <;> omega))⟩, (by omega), (by omega), trivial⟩ ?_
      rw [Int.toNat_natCast (i)]
      rw [Nat.add_zero (i * 4)]
      rw [Go.Net.fl_2 (l) (i) (by omega)]
      refine DerQ.run (TT 2) ⟨[U6, .ptr 0 0, (B6 false), (I6 (↑i : Int))] ++ UU 10 ++ [(B6 (decide ((↑(List.length l) : Int) ≤ 40))), U6, U6, .ptr 0 0, .sl (flsc l) (List.length l) .any, (I6 (↑i : Int)), .dptr [List.getD (flsc l) (i * 4) U6, List.getD (flsc l) (i * 4 + 1) U6, .sl (u8s (List.getD l i fl0).d) (List.length (List.getD l i fl0).d) .any, List.getD (flsc l) (i * 4 + 3) AVal.undef], .dptr [.sl (u8s (List.getD l i fl0).d) (List.length (List.getD l i fl0).d) .any], .sl (u8s (List.getD l i fl0).d) (List.length (List.getD l i fl0).d) .any, (I6 (↑(List.length (List.getD l i fl0).d) : Int)), (B6 (decide ((↑(List.length (List.getD l i fl0).d) : Int) > 2000))), U6, U6, U6, .undef], [⟨[.sl (flsc l) (List.length l) .any, (I6 next)], 2, .fresh⟩]⟩ (by kernel_rfl) (tt 2) ?_
      refine KL ([14] ++ NN 17 7) ⟨[U6, .ptr 0 0, (B6 false), (I6 (↑i : Int))] ++ UU 20 ++ [(B6 (decide ((↑(List.length (List.getD l i fl0).d) : Int) > 2000))), U6, U6, U6, .undef], [⟨[.sl (flsc l) (List.length l) .any, (I6 next)], 2, .fresh⟩]⟩ ?_
      refine CN (decide ((↑(List.length (List.getD l i fl0).d) : Int) > 2000)) (fun h3 => ?_) (fun h3 => ?_)
      · have h3' := of_decide_eq_true h3
        refine SQ (RT 1 ?_)
        refine AWP.ret ?_
        refine FI (B6 false) ?_
        refine Shrink.all ?_ rfl
        (exact dec_no (fun h => by have := h.2 i (by omega); omega); done)
      · have h3' := of_decide_eq_false h3
        refine AWP.skip (AWP.reg ?_)
        refine DerQ.run (TT 3) ⟨[U6, .ptr 0 0, (B6 false), (I6 (IntKind.wrap IntKind.i64 ((↑i : Int) + 1)))] ++ UU 11 ++ [(I6 (↑i : Int)), (I6 (IntKind.wrap IntKind.i64 ((↑i : Int) + 1)))] ++ UU 7 ++ [(B6 (decide ((↑(List.length (List.getD l i fl0).d) : Int) > 2000))), U6, U6, U6, .undef], [⟨[.sl (flsc l) (List.length l) .any, (I6 next)], 2, .fresh⟩]⟩ (by kernel_rfl) (tt 3) ?_
        rw [IntWalk.i64_in ((↑i : Int) + 1) (by omega)]
        (exact ⟨_, by omega, i + 1, rfl, by omega, succ_all hd (by omega), by kernel_rfl⟩; done)
    · have h2' := of_decide_eq_false h2
      refine AWP.exit ?_
      refine SQ (RI (True ∧ 0 < 2 ∧ True ∧ True ∧ True ∧ True) ⟨trivial, (by omega), trivial, trivial, trivial, trivial⟩ ?_)
      refine AWP.ret ?_
      refine FI (B6 (decide ((↑(List.length l) : Int) ≤ 40))) ?_
      refine Shrink.all ?_ rfl
      ((first | refine congrArg B6 ?_ | refine congrArg I6 ?_ | congr 2); exact decide_eq_decide.2 ⟨fun h1 => ⟨by omega, fun j hj => hd j (by omega)⟩, fun h1 => by have := h1.1; omega⟩; done)
theorem r_check (l : List FlD) (next : Int) (hx : l.length ≤ 1000000000000000) : EvD Try.prog 24 [.agg [.sl (flsc l) l.length .any, .sc (.int .i64 next)]] (.sc (.bool (decide (okN next l)))) := by
  refine EvD.body Try.func24 rfl (by simp [dataAll, AVal.data, *]) (by simp [dataAll, AVal.data, *]) ?_
  refine AWP.seq ?_
  refine TO ⟨[.agg [.sl (flsc l) (List.length l) .any, (I6 next)]] ++ UU 68, []⟩ ?_
  refine AWP.reg (RT 2 ?_)
  refine AWP.seq (AWP.seq (KL [0] ⟨[U6, .ptr 0 0, (B6 false)] ++ UU 66, [⟨[.sl (flsc l) (List.length l) .any, (I6 next)], 2, .fresh⟩]⟩ ?_))
  refine AWP.reg (PI 4 (True ∧ 1 < 2 ∧ True ∧ True ∧ True) ⟨trivial, (by omega), trivial, trivial, trivial⟩ ?_)
  refine DerQ.to ⟨[U6, .ptr 0 0, (B6 false), U6, U6, .ptr 0 1, (I6 next), (B6 (decide (next < 0))), (B6 (decide (next < 0)))] ++ UU 60, [⟨[.sl (flsc l) (List.length l) .any, (I6 next)], 2, .fresh⟩]⟩ (by kernel_rfl) ?_
  cases h1 : (decide (next < 0))
  · have h1' := of_decide_eq_false h1
    refine PI 5 (True ∧ 1 < 2 ∧ True ∧ True ∧ True ∧ True) ⟨trivial, (by omega), trivial, trivial, trivial, trivial⟩ ?_
    refine DerQ.to ⟨[U6, .ptr 0 0, (B6 false), U6, U6, .ptr 0 1, (I6 next), (B6 false), (B6 false), .ptr 0 1, (I6 next), (B6 (decide (next > 1073741824))), (B6 (decide (next > 1073741824))), (B6 (decide (next > 1073741824)))] ++ UU 55, [⟨[.sl (flsc l) (List.length l) .any, (I6 next)], 2, .fresh⟩]⟩ (by kernel_rfl) ?_
    cases h2 : (decide (next > 1073741824))
    · have h2' := of_decide_eq_false h2
      refine RI (True ∧ 0 < 2 ∧ True ∧ True ∧ True ∧ True) ⟨trivial, (by omega), trivial, trivial, trivial, trivial⟩ ?_
      refine KL (NN 5 13) ⟨[U6, .ptr 0 0, (B6 false)] ++ UU 15 ++ [(B6 (decide ((↑(List.length l) : Int) > 4096)))] ++ UU 50, [⟨[.sl (flsc l) (List.length l) .any, (I6 next)], 2, .fresh⟩]⟩ ?_
      refine CN (decide ((↑(List.length l) : Int) > 4096)) (fun h3 => ?_) (fun h3 => ?_)
      · have h3' := of_decide_eq_true h3
        refine SQ (RT 1 ?_)
        refine AWP.ret ?_
        refine FI (B6 false) ?_
        refine Shrink.all ?_ rfl
        (exact dec_no (fun h => by have := h.1; have := h.2.1; have := h.2.2.1; omega); done)
      · have h3' := of_decide_eq_false h3
        refine AWP.skip (AWP.seq (SQ (RT 1 ?_)))
        refine AWP.block (KL [18] ⟨[U6, .ptr 0 0, (B6 false), (I6 0)] ++ UU 65, [⟨[.sl (flsc l) (List.length l) .any, (I6 next)], 2, .fresh⟩]⟩ ?_)
        refine AWP.loopW [false, true, true, true, false, false, false, false, false, false, false, false, false, false, false, false, false, false, false, false, false, false, false, false, false, false, false, false, false, false, false, false, false, false, false, false, false, false, false, false, false, false, false, false, false, false, false, false, false, false, false, false, false, false, false, false, false, false, false, false, false, false, false, false, false, false, false, false, false] (fun kk st => ∃ (i : Nat), kk = l.length - i ∧ i ≤ l.length ∧ (∀ j, j < i → (0 ≤ (l.getD j fl0).num ∧ (l.getD j fl0).num < next ∧ (1 ≤ j → (l.getD (j - 1) fl0).num < (l.getD j fl0).num) ∧ (1 ≤ (l.getD j fl0).to ∧ (l.getD j fl0).to ≤ 12) ∧ (l.getD j fl0).d.length ≠ 0)) ∧ st = ⟨[U6, .ptr 0 0, (B6 false), (I6 (i : Int)), U6, U6, U6, U6, U6, U6, U6, U6, U6, U6, U6, U6, U6, U6, U6, U6, U6, U6, U6, U6, U6, U6, U6, U6, U6, U6, U6, U6, U6, U6, U6, U6, U6, U6, U6, U6, U6, U6, U6, U6, U6, U6, U6, U6, U6, U6, U6, U6, U6, U6, U6, U6, U6, U6, U6, U6, U6, U6, U6, U6, U6, U6, U6, U6, .undef], [⟨[.sl (flsc l) (List.length l) .any, (I6 next)], 2, .fresh⟩]⟩) _ ⟨0, rfl, by omega, fun j h => absurd h (by omega), by kernel_rfl⟩ ?_
        rintro kk s ⟨i, rfl, hi, hd, rfl⟩
        refine AWP.seq (SQ (RI (True ∧ True ∧ 0 < 2 ∧ True ∧ True ∧ True) ⟨trivial, trivial, (by omega), trivial, trivial, trivial⟩ ?_))
        refine KL [19, 20, 21, 22] ⟨[U6, .ptr 0 0, (B6 false), (I6 (↑i : Int))] ++ UU 19 ++ [(B6 (decide ((↑i : Int) < (↑(List.length l) : Int))))] ++ UU 45, [⟨[.sl (flsc l) (List.length l) .any, (I6 next)], 2, .fresh⟩]⟩ ?_
        refine CN (decide ((↑i : Int) < (↑(List.length l) : Int))) (fun h4 => ?_) (fun h4 => ?_)
        · have h4' := of_decide_eq_true h4
          refine AWP.skip (AWP.seq (AWP.block (SQ ?_)))
          refine DerQ.pre 6 (True ∧ 0 < 2 ∧ True ∧ (((0 ≤ (↑i : Int)) ∧ ((↑i : Int) < (↑(List.length l) : Int))) ∧ (Int.toNat (↑i : Int) * 4 + 4 ≤ List.length (flsc l))) ∧ 4 ≤ 4 ∧ True ∧ True) ⟨[U6, .ptr 0 0, (B6 false), (I6 (↑i : Int)), .ptr 1 0] ++ UU 18 ++ [(B6 (decide ((↑i : Int) < (↑(List.length l) : Int)))), U6, U6, .ptr 0 0, .sl (flsc l) (List.length l) .any, (I6 (↑i : Int)), .dptr [List.getD (flsc l) (Int.toNat (↑i : Int) * 4 + 0) U6, List.getD (flsc l) (Int.toNat (↑i : Int) * 4 + 1) U6, List.getD (flsc l) (Int.toNat (↑i : Int) * 4 + 2) U6, List.getD (flsc l) (Int.toNat (↑i : Int) * 4 + 3) AVal.undef], .agg [List.getD (flsc l) (Int.toNat (↑i : Int) * 4 + 0) U6, List.getD (flsc l) (Int.toNat (↑i : Int) * 4 + 1) U6, List.getD (flsc l) (Int.toNat (↑i : Int) * 4 + 2) U6, List.getD (flsc l) (Int.toNat (↑i : Int) * 4 + 3) AVal.undef]] ++ UU 38, [⟨[.sl (flsc l) (List.length l) .any, (I6 next)], 2, .fresh⟩, ⟨[(I6 0), (I6 0), .sl [] 0 .nil, (B6 false)], 4, .fresh⟩]⟩ (by kernel_rfl) ⟨trivial, (by omega), trivial, ⟨⟨(by omega), (by omega)⟩, (by (simp [spliceA_length] <;> omega))⟩, (by omega), trivial, trivial⟩ ?_
          rw [Int.toNat_natCast (i)]
          rw [Nat.add_zero (i * 4)]
          rw [Go.Net.fl_cells (l) (i) (by omega)]
          refine RI (4 ≤ 4 ∧ True) ⟨(by omega), trivial⟩ ?_
          refine AWP.seq (KL ([23] ++ NN 26 5) ⟨[U6, .ptr 0 0, (B6 false), (I6 (↑i : Int)), .ptr 1 0] ++ UU 64, [⟨[.sl (flsc l) (List.length l) .any, (I6 next)], 2, .fresh⟩, ⟨[(I6 ((List.getD l i fl0).num)), (I6 ((List.getD l i fl0).to)), .sl (u8s (List.getD l i fl0).d) (List.length (List.getD l i fl0).d) .any, (B6 ((List.getD l i fl0).sp))], 4, .fresh⟩]⟩ ?_)
          refine AWP.drawX mixed (fun o => [60].contains (o.dst.getD 0)) (by kernel_rfl) ?_
          refine DerX.preI 4 ((True) ∧ (((0 : Nat) < (4 : Nat)) ∧ ((True) ∧ ((True) ∧ (True))))) (by intro ext; kernel_rfl) ⟨trivial, ⟨(by omega), ⟨trivial, ⟨trivial, trivial⟩⟩⟩⟩ ?_
          refine AWP.toX ⟨[U6, .ptr 0 0, (B6 false), (I6 (↑i : Int)), .ptr 1 0] ++ UU 26 ++ [.ptr 1 0, (I6 ((List.getD l i fl0).num)), (B6 (decide ((List.getD l i fl0).num < 0))), (B6 (decide ((List.getD l i fl0).num < 0)))] ++ UU 34, [⟨[.sl (flsc l) (List.length l) .any, (I6 next)], 2, .fresh⟩, ⟨[(I6 ((List.getD l i fl0).num)), (I6 ((List.getD l i fl0).to)), .sl (u8s (List.getD l i fl0).d) (List.length (List.getD l i fl0).d) .any, (B6 ((List.getD l i fl0).sp))], 4, .fresh⟩]⟩ (by kernel_rfl) ?_
          cases h5 : (decide ((List.getD l i fl0).num < 0))
          · have h5' := of_decide_eq_false h5
            refine DerX.preI 7 ((True) ∧ (((0 : Nat) < (4 : Nat)) ∧ ((True) ∧ (((1 : Nat) < (2 : Nat)) ∧ ((True) ∧ ((True) ∧ ((True) ∧ (True)))))))) (by intro ext; kernel_rfl) ⟨trivial, ⟨(by omega), ⟨trivial, ⟨(by omega), ⟨trivial, ⟨trivial, ⟨trivial, trivial⟩⟩⟩⟩⟩⟩⟩ ?_
            refine AWP.toX ⟨[U6, .ptr 0 0, (B6 false), (I6 (↑i : Int)), .ptr 1 0] ++ UU 26 ++ [.ptr 1 0, (I6 ((List.getD l i fl0).num)), (B6 false), (B6 false), .ptr 1 0, (I6 ((List.getD l i fl0).num)), .ptr 0 1, (I6 next), (B6 (decide ((List.getD l i fl0).num ≥ next))), (B6 (decide ((List.getD l i fl0).num ≥ next))), (B6 (decide ((List.getD l i fl0).num ≥ next)))] ++ UU 27, [⟨[.sl (flsc l) (List.length l) .any, (I6 next)], 2, .fresh⟩, ⟨[(I6 ((List.getD l i fl0).num)), (I6 ((List.getD l i fl0).to)), .sl (u8s (List.getD l i fl0).d) (List.length (List.getD l i fl0).d) .any, (B6 ((List.getD l i fl0).sp))], 4, .fresh⟩]⟩ (by kernel_rfl) ?_
            cases h6 : (decide ((List.getD l i fl0).num ≥ next))
            · have h6' := of_decide_eq_false h6
              refine DerX.preI 3 ((True) ∧ ((True) ∧ ((True) ∧ (True)))) (by intro ext; kernel_rfl) ⟨trivial, ⟨trivial, ⟨trivial, trivial⟩⟩⟩ ?_
              refine AWP.toX ⟨[U6, .ptr 0 0, (B6 false), (I6 (↑i : Int)), .ptr 1 0] ++ UU 26 ++ [.ptr 1 0, (I6 ((List.getD l i fl0).num)), (B6 false), (B6 false), .ptr 1 0, (I6 ((List.getD l i fl0).num)), .ptr 0 1, (I6 next), (B6 false), (B6 false), (B6 false), (I6 (↑i : Int)), (B6 (decide ((↑i : Int) > 0))), (B6 (decide ((↑i : Int) > 0)))] ++ UU 24, [⟨[.sl (flsc l) (List.length l) .any, (I6 next)], 2, .fresh⟩, ⟨[(I6 ((List.getD l i fl0).num)), (I6 ((List.getD l i fl0).to)), .sl (u8s (List.getD l i fl0).d) (List.length (List.getD l i fl0).d) .any, (B6 ((List.getD l i fl0).sp))], 4, .fresh⟩]⟩ (by kernel_rfl) ?_
              cases h7 : (decide ((↑i : Int) > 0))
              · have h7' := of_decide_eq_false h7
                refine DerX.preI 15 ((True) ∧ ((True) ∧ ((True) ∧ ((True) ∧ (((1 : Nat) < (4 : Nat)) ∧ (True)))))) (by intro ext; kernel_rfl) ⟨trivial, ⟨trivial, ⟨trivial, ⟨trivial, ⟨(by omega), trivial⟩⟩⟩⟩⟩ ?_
                refine DerX.callDI (r_peer ((List.getD l i fl0).to)) ⟨by kernel_rfl, by kernel_rfl⟩ ?_
                refine DerX.preI 3 ((True) ∧ ((True) ∧ ((True) ∧ (True)))) (by intro ext; kernel_rfl) ⟨trivial, ⟨trivial, ⟨trivial, trivial⟩⟩⟩ ?_
                refine AWP.toX ⟨[U6, .ptr 0 0, (B6 false), (I6 (↑i : Int)), .ptr 1 0] ++ UU 26 ++ [.ptr 1 0, (I6 ((List.getD l i fl0).num)), (B6 false), (B6 false), .ptr 1 0, (I6 ((List.getD l i fl0).num)), .ptr 0 1, (I6 next), (B6 false), (B6 false), (B6 false), (I6 (↑i : Int)), (B6 false), (B6 false), .tup [], .tup [], .tup [], .tup [], .tup [], .tup [], .tup [], .tup [], .tup [], .tup [], (B6 false), (B6 false), (B6 false), .ptr 1 1, (I6 ((List.getD l i fl0).to)), (B6 (decide (1 ≤ (List.getD l i fl0).to ∧ (List.getD l i fl0).to ≤ 12))), (B6 (!decide (1 ≤ (List.getD l i fl0).to ∧ (List.getD l i fl0).to ≤ 12))), (B6 (!decide (1 ≤ (List.getD l i fl0).to ∧ (List.getD l i fl0).to ≤ 12))), (B6 (!decide (1 ≤ (List.getD l i fl0).to ∧ (List.getD l i fl0).to ≤ 12)))] ++ UU 5, [⟨[.sl (flsc l) (List.length l) .any, (I6 next)], 2, .fresh⟩, ⟨[(I6 ((List.getD l i fl0).num)), (I6 ((List.getD l i fl0).to)), .sl (u8s (List.getD l i fl0).d) (List.length (List.getD l i fl0).d) .any, (B6 ((List.getD l i fl0).sp))], 4, .fresh⟩]⟩ (by kernel_rfl) ?_
                cases h8 : (!decide (1 ≤ (List.getD l i fl0).to ∧ (List.getD l i fl0).to ≤ 12))
                · have h8' := h8
                  simp only [Bool.and_eq_true, Bool.and_eq_false_iff, Bool.or_eq_true, Bool.or_eq_false_iff, Bool.not_eq_true', Bool.not_eq_false', beq_iff_eq, beq_eq_false_iff_ne, decide_eq_true_eq, decide_eq_false_iff_not, ne_eq] at h8'
                  refine DerX.preI 5 ((True) ∧ (((2 : Nat) < (4 : Nat)) ∧ ((True) ∧ ((True) ∧ ((True) ∧ (True)))))) (by intro ext; kernel_rfl) ⟨trivial, ⟨(by omega), ⟨trivial, ⟨trivial, ⟨trivial, trivial⟩⟩⟩⟩⟩ ?_
                  refine DerX.nil ?_
                  refine KL ([4] ++ NN 31 37) ⟨[U6, .ptr 0 0, (B6 false), (I6 (↑i : Int))] ++ UU 64 ++ [(B6 ((↑(List.length (List.getD l i fl0).d) : Int) == 0))], [⟨[.sl (flsc l) (List.length l) .any, (I6 next)], 2, .fresh⟩, ⟨[(I6 ((List.getD l i fl0).num)), (I6 ((List.getD l i fl0).to)), .sl (u8s (List.getD l i fl0).d) (List.length (List.getD l i fl0).d) .any, (B6 ((List.getD l i fl0).sp))], 4, .fresh⟩]⟩ ?_
                  refine CN ((↑(List.length (List.getD l i fl0).d) : Int) == 0) (fun h9 => ?_) (fun h9 => ?_)
                  · have h9' := eq_of_beq h9
                    refine SQ (RT 1 ?_)
                    refine AWP.ret ?_
                    refine FI (B6 false) ?_
                    refine Shrink.all ?_ rfl
                    (exact dec_no (fun h => by have := h.2.2.2 i (by omega); omega); done)
                  · have h9' := ne_of_beq_false h9
                    refine AWP.skip (AWP.reg ?_)
                    refine DerQ.run (TT 3) ⟨[U6, .ptr 0 0, (B6 false), (I6 (IntKind.wrap IntKind.i64 ((↑i : Int) + 1)))] ++ UU 20 ++ [(I6 (↑i : Int)), (I6 (IntKind.wrap IntKind.i64 ((↑i : Int) + 1)))] ++ UU 42 ++ [(B6 ((↑(List.length (List.getD l i fl0).d) : Int) == 0))], [⟨[.sl (flsc l) (List.length l) .any, (I6 next)], 2, .fresh⟩, ⟨[(I6 ((List.getD l i fl0).num)), (I6 ((List.getD l i fl0).to)), .sl (u8s (List.getD l i fl0).d) (List.length (List.getD l i fl0).d) .any, (B6 ((List.getD l i fl0).sp))], 4, .fresh⟩]⟩ (by kernel_rfl) (tt 3) ?_
                    rw [IntWalk.i64_in ((↑i : Int) + 1) (by omega)]
                    (exact ⟨_, by omega, _, Weak.cut 1 (by kernel_rfl) (by kernel_rfl) (by simp) (by simp [ltAll, AVal.refLt]) (by simp [dataAll, AVal.data]), i + 1, rfl, by omega, succ_all hd (by omega), rfl⟩; done)
                · have h8' := h8
                  simp only [Bool.and_eq_true, Bool.and_eq_false_iff, Bool.or_eq_true, Bool.or_eq_false_iff, Bool.not_eq_true', Bool.not_eq_false', beq_iff_eq, beq_eq_false_iff_ne, decide_eq_true_eq, decide_eq_false_iff_not, ne_eq] at h8'
                  refine DerX.preI 5 ((True) ∧ (True)) (by intro ext; kernel_rfl) ⟨trivial, trivial⟩ ?_
                  refine DerX.nil ?_
                  refine KL ([4] ++ NN 31 37) ⟨[U6, .ptr 0 0, (B6 false), (I6 (↑i : Int))] ++ UU 64 ++ [(B6 true)], [⟨[.sl (flsc l) (List.length l) .any, (I6 next)], 2, .fresh⟩, ⟨[(I6 ((List.getD l i fl0).num)), (I6 ((List.getD l i fl0).to)), .sl (u8s (List.getD l i fl0).d) (List.length (List.getD l i fl0).d) .any, (B6 ((List.getD l i fl0).sp))], 4, .fresh⟩]⟩ ?_
                  refine CN true (fun _ => ?_) (fun h => nomatch h)
                  refine SQ (RT 1 ?_)
                  refine AWP.ret ?_
                  refine FI (B6 false) ?_
                  refine Shrink.all ?_ rfl
                  (exact dec_no (fun h => by have := h.2.2.2 i (by omega); omega); done)
              · have h7' := of_decide_eq_true h7
                refine DerX.pre 9 ((True) ∧ (((0 : Nat) < (4 : Nat)) ∧ ((True) ∧ (((0 : Nat) < (2 : Nat)) ∧ ((True) ∧ ((True) ∧ ((((0 ≤ IntKind.wrap IntKind.i64 ((↑i : Int) - 1)) ∧ (IntKind.wrap IntKind.i64 ((↑i : Int) - 1) < (↑(List.length l) : Int))) ∧ (Int.toNat (IntKind.wrap IntKind.i64 ((↑i : Int) - 1)) * 4 + 4 ≤ List.length (flsc l))) ∧ (((1 : Nat) ≤ (4 : Nat)) ∧ (((0 : Nat) < (1 : Nat)) ∧ (True)))))))))) [.ptr 1 0, (I6 ((List.getD l i fl0).num)), .ptr 0 0, .sl (flsc l) (List.length l) .any, (I6 (↑i : Int)), (I6 (IntKind.wrap IntKind.i64 ((↑i : Int) - 1))), .dptr [List.getD (flsc l) (Int.toNat (IntKind.wrap IntKind.i64 ((↑i : Int) - 1)) * 4 + 0) U6, List.getD (flsc l) (Int.toNat (IntKind.wrap IntKind.i64 ((↑i : Int) - 1)) * 4 + 1) U6, List.getD (flsc l) (Int.toNat (IntKind.wrap IntKind.i64 ((↑i : Int) - 1)) * 4 + 2) U6, List.getD (flsc l) (Int.toNat (IntKind.wrap IntKind.i64 ((↑i : Int) - 1)) * 4 + 3) AVal.undef], .dptr [List.getD (flsc l) (Int.toNat (IntKind.wrap IntKind.i64 ((↑i : Int) - 1)) * 4 + 0) AVal.undef], List.getD [List.getD (flsc l) (Int.toNat (IntKind.wrap IntKind.i64 ((↑i : Int) - 1)) * 4 + 0) AVal.undef] 0 AVal.undef] ⟨[U6, .ptr 0 0, (B6 false), (I6 (↑i : Int)), .ptr 1 0] ++ UU 26 ++ [.ptr 1 0, (I6 ((List.getD l i fl0).num)), (B6 false), (B6 false), .ptr 1 0, (I6 ((List.getD l i fl0).num)), .ptr 0 1, (I6 next), (B6 false), (B6 false), (B6 false), (I6 (↑i : Int)), (B6 true), (B6 true), .ptr 1 0, (I6 ((List.getD l i fl0).num)), .ptr 0 0, .sl (flsc l) (List.length l) .any, (I6 (↑i : Int)), (I6 (IntKind.wrap IntKind.i64 ((↑i : Int) - 1))), .dptr [List.getD (flsc l) (Int.toNat (IntKind.wrap IntKind.i64 ((↑i : Int) - 1)) * 4 + 0) U6, List.getD (flsc l) (Int.toNat (IntKind.wrap IntKind.i64 ((↑i : Int) - 1)) * 4 + 1) U6, List.getD (flsc l) (Int.toNat (IntKind.wrap IntKind.i64 ((↑i : Int) - 1)) * 4 + 2) U6, List.getD (flsc l) (Int.toNat (IntKind.wrap IntKind.i64 ((↑i : Int) - 1)) * 4 + 3) AVal.undef], .dptr [List.getD (flsc l) (Int.toNat (IntKind.wrap IntKind.i64 ((↑i : Int) - 1)) * 4 + 0) AVal.undef], List.getD (flsc l) (Int.toNat (IntKind.wrap IntKind.i64 ((↑i : Int) - 1)) * 4 + 0) AVal.undef] ++ UU 15, [⟨[.sl (flsc l) (List.length l) .any, (I6 next)], 2, .fresh⟩, ⟨[(I6 ((List.getD l i fl0).num)), (I6 ((List.getD l i fl0).to)), .sl (u8s (List.getD l i fl0).d) (List.length (List.getD l i fl0).d) .any, (B6 ((List.getD l i fl0).sp))], 4, .fresh⟩]⟩ (by intro ext; kernel_rfl) (by kernel_rfl) ⟨trivial, ⟨(by omega), ⟨trivial, ⟨(by omega), ⟨trivial, ⟨trivial, ⟨⟨⟨(by (rw [IntWalk.i64_in _ (by omega)]; omega)), (by (rw [IntWalk.i64_in _ (by omega)]; omega))⟩, (by (rw [IntWalk.i64_in _ (by omega)]; simp <;> omega))⟩, ⟨(by omega), ⟨(by omega), trivial⟩⟩⟩⟩⟩⟩⟩⟩⟩ ?_
                rw [IntWalk.i64_in ((↑i : Int) - 1) (by omega)]
                rw [Nat.add_zero (Int.toNat ((↑i : Int) - 1) * 4)]
                rw [Go.Net.toNat_prev (i) (by omega)]
                rw [Go.Net.fl_cells (l) (i - 1) (by omega)]
                rw [Go.Net.fl_0 (l) (i - 1) (by omega)]
                refine DerX.pre 4 (TT 4) [(B6 (decide ((List.getD l i fl0).num ≤ (List.getD l (i - 1) fl0).num))), (B6 (decide ((List.getD l i fl0).num ≤ (List.getD l (i - 1) fl0).num))), (B6 (decide ((List.getD l i fl0).num ≤ (List.getD l (i - 1) fl0).num))), (B6 (decide ((List.getD l i fl0).num ≤ (List.getD l (i - 1) fl0).num)))] ⟨[U6, .ptr 0 0, (B6 false), (I6 (↑i : Int)), .ptr 1 0] ++ UU 26 ++ [.ptr 1 0, (I6 ((List.getD l i fl0).num)), (B6 false), (B6 false), .ptr 1 0, (I6 ((List.getD l i fl0).num)), .ptr 0 1, (I6 next), (B6 false), (B6 false), (B6 false), (I6 (↑i : Int)), (B6 true), (B6 true), .ptr 1 0, (I6 ((List.getD l i fl0).num)), .ptr 0 0, .sl (flsc l) (List.length l) .any, (I6 (↑i : Int)), (I6 ((↑i : Int) - 1)), .dptr [(I6 ((List.getD l (i - 1) fl0).num)), (I6 ((List.getD l (i - 1) fl0).to)), .sl (u8s (List.getD l (i - 1) fl0).d) (List.length (List.getD l (i - 1) fl0).d) .any, (B6 ((List.getD l (i - 1) fl0).sp))], .dptr [(I6 ((List.getD l (i - 1) fl0).num))], (I6 ((List.getD l (i - 1) fl0).num)), (B6 (decide ((List.getD l i fl0).num ≤ (List.getD l (i - 1) fl0).num))), (B6 (decide ((List.getD l i fl0).num ≤ (List.getD l (i - 1) fl0).num))), (B6 (decide ((List.getD l i fl0).num ≤ (List.getD l (i - 1) fl0).num))), (B6 (decide ((List.getD l i fl0).num ≤ (List.getD l (i - 1) fl0).num)))] ++ UU 11, [⟨[.sl (flsc l) (List.length l) .any, (I6 next)], 2, .fresh⟩, ⟨[(I6 ((List.getD l i fl0).num)), (I6 ((List.getD l i fl0).to)), .sl (u8s (List.getD l i fl0).d) (List.length (List.getD l i fl0).d) .any, (B6 ((List.getD l i fl0).sp))], 4, .fresh⟩]⟩ (by intro ext; kernel_rfl) (by kernel_rfl) (tt 4) ?_
                cases h8 : (decide ((List.getD l i fl0).num ≤ (List.getD l (i - 1) fl0).num))
                · have h8' := of_decide_eq_false h8
                  refine DerX.pre 2 ((True) ∧ (((1 : Nat) < (4 : Nat)) ∧ (True))) [.ptr 1 1, (I6 ((List.getD l i fl0).to))] ⟨[U6, .ptr 0 0, (B6 false), (I6 (↑i : Int)), .ptr 1 0] ++ UU 26 ++ [.ptr 1 0, (I6 ((List.getD l i fl0).num)), (B6 false), (B6 false), .ptr 1 0, (I6 ((List.getD l i fl0).num)), .ptr 0 1, (I6 next), (B6 false), (B6 false), (B6 false), (I6 (↑i : Int)), (B6 true), (B6 true), .ptr 1 0, (I6 ((List.getD l i fl0).num)), .ptr 0 0, .sl (flsc l) (List.length l) .any, (I6 (↑i : Int)), (I6 ((↑i : Int) - 1)), .dptr [(I6 ((List.getD l (i - 1) fl0).num)), (I6 ((List.getD l (i - 1) fl0).to)), .sl (u8s (List.getD l (i - 1) fl0).d) (List.length (List.getD l (i - 1) fl0).d) .any, (B6 ((List.getD l (i - 1) fl0).sp))], .dptr [(I6 ((List.getD l (i - 1) fl0).num))], (I6 ((List.getD l (i - 1) fl0).num)), (B6 false), (B6 false), (B6 false), (B6 false), .ptr 1 1, (I6 ((List.getD l i fl0).to))] ++ UU 9, [⟨[.sl (flsc l) (List.length l) .any, (I6 next)], 2, .fresh⟩, ⟨[(I6 ((List.getD l i fl0).num)), (I6 ((List.getD l i fl0).to)), .sl (u8s (List.getD l i fl0).d) (List.length (List.getD l i fl0).d) .any, (B6 ((List.getD l i fl0).sp))], 4, .fresh⟩]⟩ (by intro ext; kernel_rfl) (by kernel_rfl) ⟨trivial, ⟨(by omega), trivial⟩⟩ ?_
                  refine DerX.callD (r_peer ((List.getD l i fl0).to)) ⟨[U6, .ptr 0 0, (B6 false), (I6 (↑i : Int)), .ptr 1 0] ++ UU 26 ++ [.ptr 1 0, (I6 ((List.getD l i fl0).num)), (B6 false), (B6 false), .ptr 1 0, (I6 ((List.getD l i fl0).num)), .ptr 0 1, (I6 next), (B6 false), (B6 false), (B6 false), (I6 (↑i : Int)), (B6 true), (B6 true), .ptr 1 0, (I6 ((List.getD l i fl0).num)), .ptr 0 0, .sl (flsc l) (List.length l) .any, (I6 (↑i : Int)), (I6 ((↑i : Int) - 1)), .dptr [(I6 ((List.getD l (i - 1) fl0).num)), (I6 ((List.getD l (i - 1) fl0).to)), .sl (u8s (List.getD l (i - 1) fl0).d) (List.length (List.getD l (i - 1) fl0).d) .any, (B6 ((List.getD l (i - 1) fl0).sp))], .dptr [(I6 ((List.getD l (i - 1) fl0).num))], (I6 ((List.getD l (i - 1) fl0).num)), (B6 false), (B6 false), (B6 false), (B6 false), .ptr 1 1, (I6 ((List.getD l i fl0).to)), (B6 (decide (1 ≤ (List.getD l i fl0).to ∧ (List.getD l i fl0).to ≤ 12)))] ++ UU 8, [⟨[.sl (flsc l) (List.length l) .any, (I6 next)], 2, .fresh⟩, ⟨[(I6 ((List.getD l i fl0).num)), (I6 ((List.getD l i fl0).to)), .sl (u8s (List.getD l i fl0).d) (List.length (List.getD l i fl0).d) .any, (B6 ((List.getD l i fl0).sp))], 4, .fresh⟩]⟩ ⟨by kernel_rfl, by kernel_rfl, by kernel_rfl⟩ ?_
                  refine DerX.pre 3 (TT 3) [(B6 (!decide (1 ≤ (List.getD l i fl0).to ∧ (List.getD l i fl0).to ≤ 12))), (B6 (!decide (1 ≤ (List.getD l i fl0).to ∧ (List.getD l i fl0).to ≤ 12))), (B6 (!decide (1 ≤ (List.getD l i fl0).to ∧ (List.getD l i fl0).to ≤ 12)))] ⟨[U6, .ptr 0 0, (B6 false), (I6 (↑i : Int)), .ptr 1 0] ++ UU 26 ++ [.ptr 1 0, (I6 ((List.getD l i fl0).num)), (B6 false), (B6 false), .ptr 1 0, (I6 ((List.getD l i fl0).num)), .ptr 0 1, (I6 next), (B6 false), (B6 false), (B6 false), (I6 (↑i : Int)), (B6 true), (B6 true), .ptr 1 0, (I6 ((List.getD l i fl0).num)), .ptr 0 0, .sl (flsc l) (List.length l) .any, (I6 (↑i : Int)), (I6 ((↑i : Int) - 1)), .dptr [(I6 ((List.getD l (i - 1) fl0).num)), (I6 ((List.getD l (i - 1) fl0).to)), .sl (u8s (List.getD l (i - 1) fl0).d) (List.length (List.getD l (i - 1) fl0).d) .any, (B6 ((List.getD l (i - 1) fl0).sp))], .dptr [(I6 ((List.getD l (i - 1) fl0).num))], (I6 ((List.getD l (i - 1) fl0).num)), (B6 false), (B6 false), (B6 false), (B6 false), .ptr 1 1, (I6 ((List.getD l i fl0).to)), (B6 (decide (1 ≤ (List.getD l i fl0).to ∧ (List.getD l i fl0).to ≤ 12))), (B6 (!decide (1 ≤ (List.getD l i fl0).to ∧ (List.getD l i fl0).to ≤ 12))), (B6 (!decide (1 ≤ (List.getD l i fl0).to ∧ (List.getD l i fl0).to ≤ 12))), (B6 (!decide (1 ≤ (List.getD l i fl0).to ∧ (List.getD l i fl0).to ≤ 12)))] ++ UU 5, [⟨[.sl (flsc l) (List.length l) .any, (I6 next)], 2, .fresh⟩, ⟨[(I6 ((List.getD l i fl0).num)), (I6 ((List.getD l i fl0).to)), .sl (u8s (List.getD l i fl0).d) (List.length (List.getD l i fl0).d) .any, (B6 ((List.getD l i fl0).sp))], 4, .fresh⟩]⟩ (by intro ext; kernel_rfl) (by kernel_rfl) (tt 3) ?_
                  cases h9 : (!decide (1 ≤ (List.getD l i fl0).to ∧ (List.getD l i fl0).to ≤ 12))
                  · have h9' := h9
                    simp only [Bool.and_eq_true, Bool.and_eq_false_iff, Bool.or_eq_true, Bool.or_eq_false_iff, Bool.not_eq_true', Bool.not_eq_false', beq_iff_eq, beq_eq_false_iff_ne, decide_eq_true_eq, decide_eq_false_iff_not, ne_eq] at h9'
                    refine DerX.pre 5 ((True) ∧ (((2 : Nat) < (4 : Nat)) ∧ ((True) ∧ ((True) ∧ ((True) ∧ (True)))))) [.ptr 1 2, .sl (u8s (List.getD l i fl0).d) (List.length (List.getD l i fl0).d) .any, (I6 (↑(List.length (List.getD l i fl0).d) : Int)), (B6 ((↑(List.length (List.getD l i fl0).d) : Int) == 0)), (B6 ((↑(List.length (List.getD l i fl0).d) : Int) == 0))] ⟨[U6, .ptr 0 0, (B6 false), (I6 (↑i : Int)), .ptr 1 0] ++ UU 26 ++ [.ptr 1 0, (I6 ((List.getD l i fl0).num)), (B6 false), (B6 false), .ptr 1 0, (I6 ((List.getD l i fl0).num)), .ptr 0 1, (I6 next), (B6 false), (B6 false), (B6 false), (I6 (↑i : Int)), (B6 true), (B6 true), .ptr 1 0, (I6 ((List.getD l i fl0).num)), .ptr 0 0, .sl (flsc l) (List.length l) .any, (I6 (↑i : Int)), (I6 ((↑i : Int) - 1)), .dptr [(I6 ((List.getD l (i - 1) fl0).num)), (I6 ((List.getD l (i - 1) fl0).to)), .sl (u8s (List.getD l (i - 1) fl0).d) (List.length (List.getD l (i - 1) fl0).d) .any, (B6 ((List.getD l (i - 1) fl0).sp))], .dptr [(I6 ((List.getD l (i - 1) fl0).num))], (I6 ((List.getD l (i - 1) fl0).num)), (B6 false), (B6 false), (B6 false), (B6 false), .ptr 1 1, (I6 ((List.getD l i fl0).to)), (B6 (decide (1 ≤ (List.getD l i fl0).to ∧ (List.getD l i fl0).to ≤ 12))), (B6 false), (B6 false), (B6 false), .ptr 1 2, .sl (u8s (List.getD l i fl0).d) (List.length (List.getD l i fl0).d) .any, (I6 (↑(List.length (List.getD l i fl0).d) : Int)), (B6 ((↑(List.length (List.getD l i fl0).d) : Int) == 0)), (B6 ((↑(List.length (List.getD l i fl0).d) : Int) == 0))], [⟨[.sl (flsc l) (List.length l) .any, (I6 next)], 2, .fresh⟩, ⟨[(I6 ((List.getD l i fl0).num)), (I6 ((List.getD l i fl0).to)), .sl (u8s (List.getD l i fl0).d) (List.length (List.getD l i fl0).d) .any, (B6 ((List.getD l i fl0).sp))], 4, .fresh⟩]⟩ (by intro ext; kernel_rfl) (by kernel_rfl) ⟨trivial, ⟨(by omega), ⟨trivial, ⟨trivial, ⟨trivial, trivial⟩⟩⟩⟩⟩ ?_
                    refine DerX.nil ?_
                    refine KL ([4] ++ NN 31 37) ⟨[U6, .ptr 0 0, (B6 false), (I6 (↑i : Int))] ++ UU 64 ++ [(B6 ((↑(List.length (List.getD l i fl0).d) : Int) == 0))], [⟨[.sl (flsc l) (List.length l) .any, (I6 next)], 2, .fresh⟩, ⟨[(I6 ((List.getD l i fl0).num)), (I6 ((List.getD l i fl0).to)), .sl (u8s (List.getD l i fl0).d) (List.length (List.getD l i fl0).d) .any, (B6 ((List.getD l i fl0).sp))], 4, .fresh⟩]⟩ ?_
                    refine CN ((↑(List.length (List.getD l i fl0).d) : Int) == 0) (fun h10 => ?_) (fun h10 => ?_)
                    · have h10' := eq_of_beq h10
                      refine SQ (RT 1 ?_)
                      refine AWP.ret ?_
                      refine FI (B6 false) ?_
                      refine Shrink.all ?_ rfl
                      (exact dec_no (fun h => by have := h.2.2.2 i (by omega); omega); done)
                    · have h10' := ne_of_beq_false h10
                      refine AWP.skip (AWP.reg ?_)
                      refine DerQ.run (TT 3) ⟨[U6, .ptr 0 0, (B6 false), (I6 (IntKind.wrap IntKind.i64 ((↑i : Int) + 1)))] ++ UU 20 ++ [(I6 (↑i : Int)), (I6 (IntKind.wrap IntKind.i64 ((↑i : Int) + 1)))] ++ UU 42 ++ [(B6 ((↑(List.length (List.getD l i fl0).d) : Int) == 0))], [⟨[.sl (flsc l) (List.length l) .any, (I6 next)], 2, .fresh⟩, ⟨[(I6 ((List.getD l i fl0).num)), (I6 ((List.getD l i fl0).to)), .sl (u8s (List.getD l i fl0).d) (List.length (List.getD l i fl0).d) .any, (B6 ((List.getD l i fl0).sp))], 4, .fresh⟩]⟩ (by kernel_rfl) (tt 3) ?_
                      rw [IntWalk.i64_in ((↑i : Int) + 1) (by omega)]
                      (exact ⟨_, by omega, _, Weak.cut 1 (by kernel_rfl) (by kernel_rfl) (by simp) (by simp [ltAll, AVal.refLt]) (by simp [dataAll, AVal.data]), i + 1, rfl, by omega, succ_all hd (by omega), rfl⟩; done)
                  · have h9' := h9
                    simp only [Bool.and_eq_true, Bool.and_eq_false_iff, Bool.or_eq_true, Bool.or_eq_false_iff, Bool.not_eq_true', Bool.not_eq_false', beq_iff_eq, beq_eq_false_iff_ne, decide_eq_true_eq, decide_eq_false_iff_not, ne_eq] at h9'
                    refine DerX.pre 5 ((True) ∧ (True)) [(B6 true)] ⟨[U6, .ptr 0 0, (B6 false), (I6 (↑i : Int)), .ptr 1 0] ++ UU 26 ++ [.ptr 1 0, (I6 ((List.getD l i fl0).num)), (B6 false), (B6 false), .ptr 1 0, (I6 ((List.getD l i fl0).num)), .ptr 0 1, (I6 next), (B6 false), (B6 false), (B6 false), (I6 (↑i : Int)), (B6 true), (B6 true), .ptr 1 0, (I6 ((List.getD l i fl0).num)), .ptr 0 0, .sl (flsc l) (List.length l) .any, (I6 (↑i : Int)), (I6 ((↑i : Int) - 1)), .dptr [(I6 ((List.getD l (i - 1) fl0).num)), (I6 ((List.getD l (i - 1) fl0).to)), .sl (u8s (List.getD l (i - 1) fl0).d) (List.length (List.getD l (i - 1) fl0).d) .any, (B6 ((List.getD l (i - 1) fl0).sp))], .dptr [(I6 ((List.getD l (i - 1) fl0).num))], (I6 ((List.getD l (i - 1) fl0).num)), (B6 false), (B6 false), (B6 false), (B6 false), .ptr 1 1, (I6 ((List.getD l i fl0).to)), (B6 (decide (1 ≤ (List.getD l i fl0).to ∧ (List.getD l i fl0).to ≤ 12))), (B6 true), (B6 true), (B6 true), .tup [], .tup [], .tup [], .tup [], (B6 true)], [⟨[.sl (flsc l) (List.length l) .any, (I6 next)], 2, .fresh⟩, ⟨[(I6 ((List.getD l i fl0).num)), (I6 ((List.getD l i fl0).to)), .sl (u8s (List.getD l i fl0).d) (List.length (List.getD l i fl0).d) .any, (B6 ((List.getD l i fl0).sp))], 4, .fresh⟩]⟩ (by intro ext; kernel_rfl) (by kernel_rfl) ⟨trivial, trivial⟩ ?_
                    refine DerX.nil ?_
                    refine KL ([4] ++ NN 31 37) ⟨[U6, .ptr 0 0, (B6 false), (I6 (↑i : Int))] ++ UU 64 ++ [(B6 true)], [⟨[.sl (flsc l) (List.length l) .any, (I6 next)], 2, .fresh⟩, ⟨[(I6 ((List.getD l i fl0).num)), (I6 ((List.getD l i fl0).to)), .sl (u8s (List.getD l i fl0).d) (List.length (List.getD l i fl0).d) .any, (B6 ((List.getD l i fl0).sp))], 4, .fresh⟩]⟩ ?_
                    refine CN true (fun _ => ?_) (fun h => nomatch h)
                    refine SQ (RT 1 ?_)
                    refine AWP.ret ?_
                    refine FI (B6 false) ?_
                    refine Shrink.all ?_ rfl
                    (exact dec_no (fun h => by have := h.2.2.2 i (by omega); omega); done)
                · have h8' := of_decide_eq_true h8
                  refine DerX.pre 11 (TT 3) [(B6 true), (B6 true), (B6 true)] ⟨[U6, .ptr 0 0, (B6 false), (I6 (↑i : Int)), .ptr 1 0] ++ UU 26 ++ [.ptr 1 0, (I6 ((List.getD l i fl0).num)), (B6 false), (B6 false), .ptr 1 0, (I6 ((List.getD l i fl0).num)), .ptr 0 1, (I6 next), (B6 false), (B6 false), (B6 false), (I6 (↑i : Int)), (B6 true), (B6 true), .ptr 1 0, (I6 ((List.getD l i fl0).num)), .ptr 0 0, .sl (flsc l) (List.length l) .any, (I6 (↑i : Int)), (I6 ((↑i : Int) - 1)), .dptr [(I6 ((List.getD l (i - 1) fl0).num)), (I6 ((List.getD l (i - 1) fl0).to)), .sl (u8s (List.getD l (i - 1) fl0).d) (List.length (List.getD l (i - 1) fl0).d) .any, (B6 ((List.getD l (i - 1) fl0).sp))], .dptr [(I6 ((List.getD l (i - 1) fl0).num))], (I6 ((List.getD l (i - 1) fl0).num)), (B6 true), (B6 true), (B6 true), (B6 true), .tup [], .tup [], .tup [], .tup [], (B6 true), (B6 true), .tup [], .tup [], .tup [], .tup [], (B6 true)], [⟨[.sl (flsc l) (List.length l) .any, (I6 next)], 2, .fresh⟩, ⟨[(I6 ((List.getD l i fl0).num)), (I6 ((List.getD l i fl0).to)), .sl (u8s (List.getD l i fl0).d) (List.length (List.getD l i fl0).d) .any, (B6 ((List.getD l i fl0).sp))], 4, .fresh⟩]⟩ (by intro ext; kernel_rfl) (by kernel_rfl) (tt 3) ?_
                  refine DerX.nil ?_
                  refine KL ([4] ++ NN 31 37) ⟨[U6, .ptr 0 0, (B6 false), (I6 (↑i : Int))] ++ UU 64 ++ [(B6 true)], [⟨[.sl (flsc l) (List.length l) .any, (I6 next)], 2, .fresh⟩, ⟨[(I6 ((List.getD l i fl0).num)), (I6 ((List.getD l i fl0).to)), .sl (u8s (List.getD l i fl0).d) (List.length (List.getD l i fl0).d) .any, (B6 ((List.getD l i fl0).sp))], 4, .fresh⟩]⟩ ?_
                  refine CN true (fun _ => ?_) (fun h => nomatch h)
                  refine SQ (RT 1 ?_)
                  refine AWP.ret ?_
                  refine FI (B6 false) ?_
                  refine Shrink.all ?_ rfl
                  (exact dec_no (fun h => by have := h.2.2.2 i (by omega); omega); done)
            · have h6' := of_decide_eq_true h6
              refine DerX.preI 27 ((True) ∧ ((True) ∧ ((True) ∧ ((True) ∧ ((True) ∧ (True)))))) (by intro ext; kernel_rfl) ⟨trivial, ⟨trivial, ⟨trivial, ⟨trivial, ⟨trivial, trivial⟩⟩⟩⟩⟩ ?_
              refine DerX.nil ?_
              refine KL ([4] ++ NN 31 37) ⟨[U6, .ptr 0 0, (B6 false), (I6 (↑i : Int))] ++ UU 64 ++ [(B6 true)], [⟨[.sl (flsc l) (List.length l) .any, (I6 next)], 2, .fresh⟩, ⟨[(I6 ((List.getD l i fl0).num)), (I6 ((List.getD l i fl0).to)), .sl (u8s (List.getD l i fl0).d) (List.length (List.getD l i fl0).d) .any, (B6 ((List.getD l i fl0).sp))], 4, .fresh⟩]⟩ ?_
              refine CN true (fun _ => ?_) (fun h => nomatch h)
              refine SQ (RT 1 ?_)
              refine AWP.ret ?_
              refine FI (B6 false) ?_
              refine Shrink.all ?_ rfl
              (exact dec_no (fun h => by have := h.2.2.2 i (by omega); omega); done)
          · have h5' := of_decide_eq_true h5
            refine DerX.preI 34 ((True) ∧ ((True) ∧ ((True) ∧ ((True) ∧ ((True) ∧ ((True) ∧ ((True) ∧ (True)))))))) (by intro ext; kernel_rfl) ⟨trivial, ⟨trivial, ⟨trivial, ⟨trivial, ⟨trivial, ⟨trivial, ⟨trivial, trivial⟩⟩⟩⟩⟩⟩⟩ ?_
            refine DerX.nil ?_
            refine KL ([4] ++ NN 31 37) ⟨[U6, .ptr 0 0, (B6 false), (I6 (↑i : Int))] ++ UU 64 ++ [(B6 true)], [⟨[.sl (flsc l) (List.length l) .any, (I6 next)], 2, .fresh⟩, ⟨[(I6 ((List.getD l i fl0).num)), (I6 ((List.getD l i fl0).to)), .sl (u8s (List.getD l i fl0).d) (List.length (List.getD l i fl0).d) .any, (B6 ((List.getD l i fl0).sp))], 4, .fresh⟩]⟩ ?_
            refine CN true (fun _ => ?_) (fun h => nomatch h)
            refine SQ (RT 1 ?_)
            refine AWP.ret ?_
            refine FI (B6 false) ?_
            refine Shrink.all ?_ rfl
            (exact dec_no (fun h => by have := h.2.2.2 i (by omega); omega); done)
        · have h4' := of_decide_eq_false h4
          refine AWP.exit ?_
          refine SQ (RT 1 ?_)
          refine AWP.ret ?_
          refine FI (B6 true) ?_
          refine Shrink.all ?_ rfl
          (exact dec_yes ⟨by omega, by omega, by omega, fun j hj => hd j (by omega)⟩; done)
    · have h2' := of_decide_eq_true h2
      refine RT 1 ?_
      refine KL (NN 5 13) ⟨[U6, .ptr 0 0, (B6 false)] ++ UU 15 ++ [(B6 true)] ++ UU 50, [⟨[.sl (flsc l) (List.length l) .any, (I6 next)], 2, .fresh⟩]⟩ ?_
      refine CN true (fun _ => ?_) (fun h => nomatch h)
      refine SQ (RT 1 ?_)
      refine AWP.ret ?_
      refine FI (B6 false) ?_
      refine Shrink.all ?_ rfl
      (exact dec_no (fun h => by have := h.1; have := h.2.1; have := h.2.2.1; omega); done)
  · have h1' := of_decide_eq_true h1
    refine RT 3 ?_
    refine KL (NN 5 13) ⟨[U6, .ptr 0 0, (B6 false)] ++ UU 15 ++ [(B6 true)] ++ UU 50, [⟨[.sl (flsc l) (List.length l) .any, (I6 next)], 2, .fresh⟩]⟩ ?_
    refine CN true (fun _ => ?_) (fun h => nomatch h)
    refine SQ (RT 1 ?_)
    refine AWP.ret ?_
    refine FI (B6 false) ?_
    refine Shrink.all ?_ rfl
    (exact dec_no (fun h => by have := h.1; have := h.2.1; have := h.2.2.1; omega); done)
def lastI (l : List FlD) : Nat → Int
  | 0 => -1
  | i + 1 => (l.getD i fl0).num
theorem lastI_spec (l : List FlD) (i : Nat) : (i = 0 → lastI l i = -1) ∧ (1 ≤ i → lastI l i = (l.getD (i - 1) fl0).num) := by
  cases i with
  | zero => exact ⟨fun _ => rfl, fun h => absurd h (by omega)⟩
  | succ i => exact ⟨fun h => absurd h (by omega), fun _ => rfl⟩
theorem check (l : List FlD) (next : Int) (hx : l.length ≤ 1000000000000000) : EvD Try.prog 30 [.agg [.sl (flsc l) l.length .any, .sc (.int .i64 next)]] (.sc (.bool (decide (okN next l)))) := by
  refine EvD.body Try.func30 rfl (by simp [dataAll, AVal.data, *]) (by simp [dataAll, AVal.data, *]) ?_
  refine AWP.seq ?_
  refine TO ⟨[.agg [.sl (flsc l) (List.length l) .any, (I6 next)]] ++ UU 52, []⟩ ?_
  refine AWP.reg (RT 2 ?_)
  refine AWP.seq (AWP.seq (KL [0] ⟨[U6, .ptr 0 0, (B6 false)] ++ UU 50, [⟨[.sl (flsc l) (List.length l) .any, (I6 next)], 2, .fresh⟩]⟩ ?_))
  refine AWP.reg (PI 4 (True ∧ 1 < 2 ∧ True ∧ True ∧ True) ⟨trivial, (by omega), trivial, trivial, trivial⟩ ?_)
  refine DerQ.to ⟨[U6, .ptr 0 0, (B6 false), U6, U6, U6, .ptr 0 1, (I6 next), (B6 (decide (next < 0))), (B6 (decide (next < 0)))] ++ UU 43, [⟨[.sl (flsc l) (List.length l) .any, (I6 next)], 2, .fresh⟩]⟩ (by kernel_rfl) ?_
  cases h1 : (decide (next < 0))
  · have h1' := of_decide_eq_false h1
    refine PI 5 (True ∧ 1 < 2 ∧ True ∧ True ∧ True ∧ True) ⟨trivial, (by omega), trivial, trivial, trivial, trivial⟩ ?_
    refine DerQ.to ⟨[U6, .ptr 0 0, (B6 false), U6, U6, U6, .ptr 0 1, (I6 next), (B6 false), (B6 false), .ptr 0 1, (I6 next), (B6 (decide (next > 1073741824))), (B6 (decide (next > 1073741824))), (B6 (decide (next > 1073741824)))] ++ UU 38, [⟨[.sl (flsc l) (List.length l) .any, (I6 next)], 2, .fresh⟩]⟩ (by kernel_rfl) ?_
    cases h2 : (decide (next > 1073741824))
    · have h2' := of_decide_eq_false h2
      refine RI (True ∧ 0 < 2 ∧ True ∧ True ∧ True ∧ True) ⟨trivial, (by omega), trivial, trivial, trivial, trivial⟩ ?_
      refine KL (NN 6 13) ⟨[U6, .ptr 0 0, (B6 false)] ++ UU 16 ++ [(B6 (decide ((↑(List.length l) : Int) > 4096)))] ++ UU 33, [⟨[.sl (flsc l) (List.length l) .any, (I6 next)], 2, .fresh⟩]⟩ ?_
      refine CN (decide ((↑(List.length l) : Int) > 4096)) (fun h3 => ?_) (fun h3 => ?_)
      · have h3' := of_decide_eq_true h3
        refine SQ (RT 1 ?_)
        refine AWP.ret ?_
        refine FI (B6 false) ?_
        refine Shrink.all ?_ rfl
        (exact dec_no (fun h => by have := h.1; have := h.2.1; have := h.2.2.1; omega); done)
      · have h3' := of_decide_eq_false h3
        refine AWP.skip (SQ (RT 1 ?_))
        refine AWP.seq (AWP.seq (KL [19] ⟨[U6, .ptr 0 0, (B6 false), (I6 (-1))] ++ UU 49, [⟨[.sl (flsc l) (List.length l) .any, (I6 next)], 2, .fresh⟩]⟩ ?_))
        refine AWP.reg (RI (True ∧ 0 < 2 ∧ True ∧ True ∧ True) ⟨trivial, (by omega), trivial, trivial, trivial⟩ ?_)
        refine AWP.block (KL [20] ⟨[U6, .ptr 0 0, (B6 false), (I6 (-1))] ++ UU 17 ++ [.sl (flsc l) (List.length l) .any, (I6 (↑(List.length l) : Int)), (I6 0)] ++ UU 29, [⟨[.sl (flsc l) (List.length l) .any, (I6 next)], 2, .fresh⟩]⟩ ?_)
        refine AWP.loopW [false, true, true, true, false, false, false, false, false, false, false, false, false, false, false, false, false, false, false, false, false, true, true, true, false, false, false, false, false, false, false, false, false, false, false, false, false, false, false, false, false, false, false, false, false, false, false, false, false, false, false, false, false] (fun kk st => ∃ (i : Nat), kk = l.length - i ∧ i ≤ l.length ∧ (∀ j, j < i → (0 ≤ (l.getD j fl0).num ∧ (l.getD j fl0).num < next ∧ (1 ≤ j → (l.getD (j - 1) fl0).num < (l.getD j fl0).num) ∧ (1 ≤ (l.getD j fl0).to ∧ (l.getD j fl0).to ≤ 12) ∧ (l.getD j fl0).d.length ≠ 0)) ∧ st = ⟨[U6, .ptr 0 0, (B6 false), (I6 (lastI l i)), U6, U6, U6, U6, U6, U6, U6, U6, U6, U6, U6, U6, U6, U6, U6, U6, U6, .sl (flsc l) (List.length l) .any, (I6 (↑(List.length l) : Int)), (I6 (i : Int)), U6, U6, U6, U6, U6, U6, U6, U6, U6, U6, U6, U6, U6, U6, U6, U6, U6, U6, U6, U6, U6, U6, U6, U6, U6, U6, U6, U6, .undef], [⟨[.sl (flsc l) (List.length l) .any, (I6 next)], 2, .fresh⟩]⟩) _ ⟨0, rfl, by omega, fun j h => absurd h (by omega), by kernel_rfl⟩ ?_
        rintro kk s ⟨i, rfl, hi, hd, rfl⟩
        have hls := lastI_spec l i
        have hdp := hd (i - 1)
        refine SQ (RT 1 ?_)
        refine AWP.seq ?_
        refine TO ⟨[U6, .ptr 0 0, (B6 false), (I6 (lastI l i))] ++ UU 17 ++ [.sl (flsc l) (List.length l) .any, (I6 (↑(List.length l) : Int)), (I6 (↑i : Int)), (B6 (decide ((↑i : Int) < (↑(List.length l) : Int))))] ++ UU 28, [⟨[.sl (flsc l) (List.length l) .any, (I6 next)], 2, .fresh⟩]⟩ ?_
        refine CN (decide ((↑i : Int) < (↑(List.length l) : Int))) (fun h4 => ?_) (fun h4 => ?_)
        · have h4' := of_decide_eq_true h4
          refine AWP.skip (AWP.seq (AWP.block (SQ ?_)))
          refine DerQ.pre 3 ((((0 ≤ (↑i : Int)) ∧ ((↑i : Int) < (↑(List.length l) : Int))) ∧ (Int.toNat (↑i : Int) * 4 + 4 ≤ List.length (flsc l))) ∧ 4 ≤ 4 ∧ True ∧ True) ⟨[U6, .ptr 0 0, (B6 false), (I6 (lastI l i)), U6, .ptr 1 0] ++ UU 15 ++ [.sl (flsc l) (List.length l) .any, (I6 (↑(List.length l) : Int)), (I6 (↑i : Int)), (B6 (decide ((↑i : Int) < (↑(List.length l) : Int)))), .dptr [List.getD (flsc l) (Int.toNat (↑i : Int) * 4 + 0) U6, List.getD (flsc l) (Int.toNat (↑i : Int) * 4 + 1) U6, List.getD (flsc l) (Int.toNat (↑i : Int) * 4 + 2) U6, List.getD (flsc l) (Int.toNat (↑i : Int) * 4 + 3) AVal.undef], .agg [List.getD (flsc l) (Int.toNat (↑i : Int) * 4 + 0) U6, List.getD (flsc l) (Int.toNat (↑i : Int) * 4 + 1) U6, List.getD (flsc l) (Int.toNat (↑i : Int) * 4 + 2) U6, List.getD (flsc l) (Int.toNat (↑i : Int) * 4 + 3) AVal.undef]] ++ UU 26, [⟨[.sl (flsc l) (List.length l) .any, (I6 next)], 2, .fresh⟩, ⟨[(I6 0), (I6 0), .sl [] 0 .nil, (B6 false)], 4, .fresh⟩]⟩ (by kernel_rfl) ⟨⟨⟨(by omega), (by omega)⟩, (by (simp [spliceA_length] <;> omega))⟩, (by omega), trivial, trivial⟩ ?_
          rw [Int.toNat_natCast (i)]
          rw [Nat.add_zero (i * 4)]
          rw [Go.Net.fl_cells (l) (i) (by omega)]
          refine RI (4 ≤ 4 ∧ True) ⟨(by omega), trivial⟩ ?_
          refine AWP.seq (AWP.seq (KL [24, 25, 26] ⟨[U6, .ptr 0 0, (B6 false), (I6 (lastI l i)), U6, .ptr 1 0] ++ UU 15 ++ [.sl (flsc l) (List.length l) .any, (I6 (↑(List.length l) : Int)), (I6 (↑i : Int))] ++ UU 29, [⟨[.sl (flsc l) (List.length l) .any, (I6 next)], 2, .fresh⟩, ⟨[(I6 ((List.getD l i fl0).num)), (I6 ((List.getD l i fl0).to)), .sl (u8s (List.getD l i fl0).d) (List.length (List.getD l i fl0).d) .any, (B6 ((List.getD l i fl0).sp))], 4, .fresh⟩]⟩ ?_))
          refine AWP.reg (PI 5 (True ∧ 0 < 4 ∧ True ∧ True ∧ True ∧ True) ⟨trivial, (by omega), trivial, trivial, trivial, trivial⟩ ?_)
          refine DerQ.to ⟨[U6, .ptr 0 0, (B6 false), (I6 (lastI l i)), U6, .ptr 1 0] ++ UU 15 ++ [.sl (flsc l) (List.length l) .any, (I6 (↑(List.length l) : Int)), (I6 (↑i : Int)), U6, U6, U6, .ptr 1 0, (I6 ((List.getD l i fl0).num)), (I6 (lastI l i)), (B6 (decide ((List.getD l i fl0).num ≤ lastI l i))), (B6 (decide ((List.getD l i fl0).num ≤ lastI l i)))] ++ UU 21, [⟨[.sl (flsc l) (List.length l) .any, (I6 next)], 2, .fresh⟩, ⟨[(I6 ((List.getD l i fl0).num)), (I6 ((List.getD l i fl0).to)), .sl (u8s (List.getD l i fl0).d) (List.length (List.getD l i fl0).d) .any, (B6 ((List.getD l i fl0).sp))], 4, .fresh⟩]⟩ (by kernel_rfl) ?_
          cases h5 : (decide ((List.getD l i fl0).num ≤ lastI l i))
          · have h5' := of_decide_eq_false h5
            refine PI 7 (True ∧ 0 < 4 ∧ True ∧ 1 < 2 ∧ True ∧ True ∧ True ∧ True) ⟨trivial, (by omega), trivial, (by omega), trivial, trivial, trivial, trivial⟩ ?_
            refine DerQ.to ⟨[U6, .ptr 0 0, (B6 false), (I6 (lastI l i)), U6, .ptr 1 0] ++ UU 15 ++ [.sl (flsc l) (List.length l) .any, (I6 (↑(List.length l) : Int)), (I6 (↑i : Int)), U6, U6, U6, .ptr 1 0, (I6 ((List.getD l i fl0).num)), (I6 (lastI l i)), (B6 false), (B6 false), .ptr 1 0, (I6 ((List.getD l i fl0).num)), .ptr 0 1, (I6 next), (B6 (decide ((List.getD l i fl0).num ≥ next))), (B6 (decide ((List.getD l i fl0).num ≥ next))), (B6 (decide ((List.getD l i fl0).num ≥ next)))] ++ UU 14, [⟨[.sl (flsc l) (List.length l) .any, (I6 next)], 2, .fresh⟩, ⟨[(I6 ((List.getD l i fl0).num)), (I6 ((List.getD l i fl0).to)), .sl (u8s (List.getD l i fl0).d) (List.length (List.getD l i fl0).d) .any, (B6 ((List.getD l i fl0).sp))], 4, .fresh⟩]⟩ (by kernel_rfl) ?_
            cases h6 : (decide ((List.getD l i fl0).num ≥ next))
            · have h6' := of_decide_eq_false h6
              refine PI 2 (True ∧ 1 < 4 ∧ True) ⟨trivial, (by omega), trivial⟩ ?_
              refine CD (peer ((List.getD l i fl0).to)) ?_
              refine PT 3 3 ?_
              refine DerQ.to ⟨[U6, .ptr 0 0, (B6 false), (I6 (lastI l i)), U6, .ptr 1 0] ++ UU 15 ++ [.sl (flsc l) (List.length l) .any, (I6 (↑(List.length l) : Int)), (I6 (↑i : Int)), U6, U6, U6, .ptr 1 0, (I6 ((List.getD l i fl0).num)), (I6 (lastI l i)), (B6 false), (B6 false), .ptr 1 0, (I6 ((List.getD l i fl0).num)), .ptr 0 1, (I6 next), (B6 false), (B6 false), (B6 false), .ptr 1 1, (I6 ((List.getD l i fl0).to)), (B6 (decide (1 ≤ (List.getD l i fl0).to ∧ (List.getD l i fl0).to ≤ 12))), (B6 (!decide (1 ≤ (List.getD l i fl0).to ∧ (List.getD l i fl0).to ≤ 12))), (B6 (!decide (1 ≤ (List.getD l i fl0).to ∧ (List.getD l i fl0).to ≤ 12))), (B6 (!decide (1 ≤ (List.getD l i fl0).to ∧ (List.getD l i fl0).to ≤ 12)))] ++ UU 8, [⟨[.sl (flsc l) (List.length l) .any, (I6 next)], 2, .fresh⟩, ⟨[(I6 ((List.getD l i fl0).num)), (I6 ((List.getD l i fl0).to)), .sl (u8s (List.getD l i fl0).d) (List.length (List.getD l i fl0).d) .any, (B6 ((List.getD l i fl0).sp))], 4, .fresh⟩]⟩ (by kernel_rfl) ?_
              cases h7 : (!decide (1 ≤ (List.getD l i fl0).to ∧ (List.getD l i fl0).to ≤ 12))
              · have h7' := h7
                simp only [Bool.and_eq_true, Bool.and_eq_false_iff, Bool.or_eq_true, Bool.or_eq_false_iff, Bool.not_eq_true', Bool.not_eq_false', beq_iff_eq, beq_eq_false_iff_ne, decide_eq_true_eq, decide_eq_false_iff_not, ne_eq] at h7'
                refine RI (True ∧ 2 < 4 ∧ True ∧ True ∧ True ∧ True) ⟨trivial, (by omega), trivial, trivial, trivial, trivial⟩ ?_
                refine KL (NN 27 22) ⟨[U6, .ptr 0 0, (B6 false), (I6 (lastI l i)), U6, .ptr 1 0] ++ UU 15 ++ [.sl (flsc l) (List.length l) .any, (I6 (↑(List.length l) : Int)), (I6 (↑i : Int))] ++ UU 25 ++ [(B6 ((↑(List.length (List.getD l i fl0).d) : Int) == 0)), U6, U6, .undef], [⟨[.sl (flsc l) (List.length l) .any, (I6 next)], 2, .fresh⟩, ⟨[(I6 ((List.getD l i fl0).num)), (I6 ((List.getD l i fl0).to)), .sl (u8s (List.getD l i fl0).d) (List.length (List.getD l i fl0).d) .any, (B6 ((List.getD l i fl0).sp))], 4, .fresh⟩]⟩ ?_
                refine CN ((↑(List.length (List.getD l i fl0).d) : Int) == 0) (fun h8 => ?_) (fun h8 => ?_)
                · have h8' := eq_of_beq h8
                  refine SQ (RT 1 ?_)
                  refine AWP.ret ?_
                  refine FI (B6 false) ?_
                  refine Shrink.all ?_ rfl
                  (exact dec_no (fun h => by have := h.2.2.2 i (by omega); omega); done)
                · have h8' := ne_of_beq_false h8
                  refine AWP.skip (AWP.reg (RI (True ∧ 0 < 4 ∧ True ∧ True) ⟨trivial, (by omega), trivial, trivial⟩ ?_))
                  refine KL [5, 49, 50, 51] ⟨[U6, .ptr 0 0, (B6 false), (I6 ((List.getD l i fl0).num))] ++ UU 17 ++ [.sl (flsc l) (List.length l) .any, (I6 (↑(List.length l) : Int)), (I6 (↑i : Int))] ++ UU 29, [⟨[.sl (flsc l) (List.length l) .any, (I6 next)], 2, .fresh⟩, ⟨[(I6 ((List.getD l i fl0).num)), (I6 ((List.getD l i fl0).to)), .sl (u8s (List.getD l i fl0).d) (List.length (List.getD l i fl0).d) .any, (B6 ((List.getD l i fl0).sp))], 4, .fresh⟩]⟩ ?_
                  refine AWP.reg ?_
                  refine DerQ.run (TT 2) ⟨[U6, .ptr 0 0, (B6 false), (I6 ((List.getD l i fl0).num))] ++ UU 17 ++ [.sl (flsc l) (List.length l) .any, (I6 (↑(List.length l) : Int)), (I6 (IntKind.wrap IntKind.i64 ((↑i : Int) + 1)))] ++ UU 28 ++ [(I6 (IntKind.wrap IntKind.i64 ((↑i : Int) + 1)))], [⟨[.sl (flsc l) (List.length l) .any, (I6 next)], 2, .fresh⟩, ⟨[(I6 ((List.getD l i fl0).num)), (I6 ((List.getD l i fl0).to)), .sl (u8s (List.getD l i fl0).d) (List.length (List.getD l i fl0).d) .any, (B6 ((List.getD l i fl0).sp))], 4, .fresh⟩]⟩ (by kernel_rfl) (tt 2) ?_
                  rw [IntWalk.i64_in ((↑i : Int) + 1) (by omega)]
                  (exact ⟨_, by omega, _, Weak.cut 1 (by kernel_rfl) (by kernel_rfl) (by simp) (by simp [ltAll, AVal.refLt]) (by simp [dataAll, AVal.data]), i + 1, rfl, by omega, succ_all hd (by omega), rfl⟩; done)
              · have h7' := h7
                simp only [Bool.and_eq_true, Bool.and_eq_false_iff, Bool.or_eq_true, Bool.or_eq_false_iff, Bool.not_eq_true', Bool.not_eq_false', beq_iff_eq, beq_eq_false_iff_ne, decide_eq_true_eq, decide_eq_false_iff_not, ne_eq] at h7'
                refine RT 1 ?_
                refine KL (NN 27 22) ⟨[U6, .ptr 0 0, (B6 false), (I6 (lastI l i)), U6, .ptr 1 0] ++ UU 15 ++ [.sl (flsc l) (List.length l) .any, (I6 (↑(List.length l) : Int)), (I6 (↑i : Int))] ++ UU 25 ++ [(B6 true), U6, U6, .undef], [⟨[.sl (flsc l) (List.length l) .any, (I6 next)], 2, .fresh⟩, ⟨[(I6 ((List.getD l i fl0).num)), (I6 ((List.getD l i fl0).to)), .sl (u8s (List.getD l i fl0).d) (List.length (List.getD l i fl0).d) .any, (B6 ((List.getD l i fl0).sp))], 4, .fresh⟩]⟩ ?_
                refine CN true (fun _ => ?_) (fun h => nomatch h)
                refine SQ (RT 1 ?_)
                refine AWP.ret ?_
                refine FI (B6 false) ?_
                refine Shrink.all ?_ rfl
                (exact dec_no (fun h => by have := h.2.2.2 i (by omega); omega); done)
            · have h6' := of_decide_eq_true h6
              refine RT 3 ?_
              refine KL (NN 27 22) ⟨[U6, .ptr 0 0, (B6 false), (I6 (lastI l i)), U6, .ptr 1 0] ++ UU 15 ++ [.sl (flsc l) (List.length l) .any, (I6 (↑(List.length l) : Int)), (I6 (↑i : Int))] ++ UU 25 ++ [(B6 true), U6, U6, .undef], [⟨[.sl (flsc l) (List.length l) .any, (I6 next)], 2, .fresh⟩, ⟨[(I6 ((List.getD l i fl0).num)), (I6 ((List.getD l i fl0).to)), .sl (u8s (List.getD l i fl0).d) (List.length (List.getD l i fl0).d) .any, (B6 ((List.getD l i fl0).sp))], 4, .fresh⟩]⟩ ?_
              refine CN true (fun _ => ?_) (fun h => nomatch h)
              refine SQ (RT 1 ?_)
              refine AWP.ret ?_
              refine FI (B6 false) ?_
              refine Shrink.all ?_ rfl
              (exact dec_no (fun h => by have := h.2.2.2 i (by omega); omega); done)
          · have h5' := of_decide_eq_true h5
            refine RT 5 ?_
            refine KL (NN 27 22) ⟨[U6, .ptr 0 0, (B6 false), (I6 (lastI l i)), U6, .ptr 1 0] ++ UU 15 ++ [.sl (flsc l) (List.length l) .any, (I6 (↑(List.length l) : Int)), (I6 (↑i : Int))] ++ UU 25 ++ [(B6 true), U6, U6, .undef], [⟨[.sl (flsc l) (List.length l) .any, (I6 next)], 2, .fresh⟩, ⟨[(I6 ((List.getD l i fl0).num)), (I6 ((List.getD l i fl0).to)), .sl (u8s (List.getD l i fl0).d) (List.length (List.getD l i fl0).d) .any, (B6 ((List.getD l i fl0).sp))], 4, .fresh⟩]⟩ ?_
            refine CN true (fun _ => ?_) (fun h => nomatch h)
            refine SQ (RT 1 ?_)
            refine AWP.ret ?_
            refine FI (B6 false) ?_
            refine Shrink.all ?_ rfl
            (exact dec_no (fun h => by have := h.2.2.2 i (by omega); omega); done)
        · have h4' := of_decide_eq_false h4
          refine AWP.exit ?_
          refine AWP.seq (KL [1, 3, 21, 22, 23, 24] ⟨[U6, U6, (B6 false)] ++ UU 50, [⟨[.sl (flsc l) (List.length l) .any, (I6 next)], 2, .fresh⟩]⟩ ?_)
          refine AWP.reg (RT 1 ?_)
          refine AWP.ret ?_
          refine FI (B6 true) ?_
          refine Shrink.all ?_ rfl
          (exact dec_yes ⟨by omega, by omega, by omega, fun j hj => hd j (by omega)⟩; done)
    · have h2' := of_decide_eq_true h2
      refine RT 1 ?_
      refine KL (NN 6 13) ⟨[U6, .ptr 0 0, (B6 false)] ++ UU 16 ++ [(B6 true)] ++ UU 33, [⟨[.sl (flsc l) (List.length l) .any, (I6 next)], 2, .fresh⟩]⟩ ?_
      refine CN true (fun _ => ?_) (fun h => nomatch h)
      refine SQ (RT 1 ?_)
      refine AWP.ret ?_
      refine FI (B6 false) ?_
      refine Shrink.all ?_ rfl
      (exact dec_no (fun h => by have := h.1; have := h.2.1; have := h.2.2.1; omega); done)
  · have h1' := of_decide_eq_true h1
    refine RT 3 ?_
    refine KL (NN 6 13) ⟨[U6, .ptr 0 0, (B6 false)] ++ UU 16 ++ [(B6 true)] ++ UU 33, [⟨[.sl (flsc l) (List.length l) .any, (I6 next)], 2, .fresh⟩]⟩ ?_
    refine CN true (fun _ => ?_) (fun h => nomatch h)
    refine SQ (RT 1 ?_)
    refine AWP.ret ?_
    refine FI (B6 false) ?_
    refine Shrink.all ?_ rfl
    (exact dec_no (fun h => by have := h.1; have := h.2.1; have := h.2.2.1; omega); done)
def placeI : List FlD → Int → Nat → Int
  | [], _, _ => -1
  | f :: l, x, i => if f.num = x then i else placeI l x (i + 1)
theorem place_at : ∀ (l : List FlD) (x : Int) (i k : Nat), k < l.length → (∀ j, j < k → (l.getD j fl0).num ≠ x) → (l.getD k fl0).num = x → placeI l x i = ((i + k : Nat) : Int)
  | f :: l, x, i, 0, _, _, h => by simp only [placeI]; rw [if_pos (show f.num = x from h)]; rfl
  | f :: l, x, i, k + 1, h1, h2, h3 => by
    simp only [placeI]
    rw [if_neg (show ¬ f.num = x from h2 0 (by omega)), place_at l x (i + 1) k (by simpa using h1) (fun j hj => h2 (j + 1) (by omega)) h3]
    congr 1; omega
theorem place_no : ∀ (l : List FlD) (x : Int) (i : Nat), (∀ j, j < l.length → (l.getD j fl0).num ≠ x) → placeI l x i = -1
  | [], x, i, _ => rfl
  | f :: l, x, i, h => by
    simp only [placeI]
    rw [if_neg (show ¬ f.num = x from h 0 (by simp)), place_no l x (i + 1) (fun j hj => h (j + 1) (by simpa using hj))]
theorem r_place (l : List FlD) (next x : Int) (hx : l.length ≤ 1000000000000000) : EvD Try.prog 28 [.agg [.sl (flsc l) l.length .any, .sc (.int .i64 next)], .sc (.int .i64 x)] (.sc (.int .i64 (placeI l x 0))) := by
  refine EvD.body Try.func28 rfl (by simp [dataAll, AVal.data, *]) (by simp [dataAll, AVal.data, *]) ?_
  refine AWP.seq ?_
  refine TO ⟨[.agg [.sl (flsc l) (List.length l) .any, (I6 next)], (I6 x)] ++ UU 20, []⟩ ?_
  refine AWP.reg (RT 2 ?_)
  refine AWP.seq (AWP.seq (KL [0] ⟨[U6, (I6 x), .ptr 0 0, U6, (I6 0)] ++ UU 17, [⟨[.sl (flsc l) (List.length l) .any, (I6 next)], 2, .fresh⟩]⟩ ?_))
  refine AWP.reg (RT 1 ?_)
  refine AWP.block ?_
  refine TO ⟨[U6, (I6 x), .ptr 0 0, U6, (I6 0), (I6 0)] ++ UU 16, [⟨[.sl (flsc l) (List.length l) .any, (I6 next)], 2, .fresh⟩]⟩ ?_
  refine AWP.loopM [false, true, true, false, true, true, false, false, false, false, false, false, false, false, false, false, false, false, false, false, false, false] (fun kk st => ∃ (i : Nat), kk = l.length - i ∧ i ≤ l.length ∧ (∀ j, j < i → (l.getD j fl0).num ≠ x) ∧ st = ⟨[U6, (I6 x), .ptr 0 0, U6, (I6 0), (I6 (i : Int)), U6, U6, U6, U6, U6, U6, U6, U6, U6, U6, U6, U6, U6, U6, U6, .undef], [⟨[.sl (flsc l) (List.length l) .any, (I6 next)], 2, .fresh⟩]⟩) _ ⟨0, rfl, by omega, fun j h => absurd h (by omega), by kernel_rfl⟩ ?_
  rintro kk s ⟨i, rfl, hi, hd, rfl⟩
  refine AWP.seq (SQ (RI (True ∧ True ∧ 0 < 2 ∧ True ∧ True ∧ True) ⟨trivial, trivial, (by omega), trivial, trivial, trivial⟩ ?_))
  refine KL [6, 7, 8, 9] ⟨[U6, (I6 x), .ptr 0 0, U6, (I6 0), (I6 (↑i : Int)), U6, U6, U6, U6, (B6 (decide ((↑i : Int) < (↑(List.length l) : Int))))] ++ UU 11, [⟨[.sl (flsc l) (List.length l) .any, (I6 next)], 2, .fresh⟩]⟩ ?_
  refine CN (decide ((↑i : Int) < (↑(List.length l) : Int))) (fun h1 => ?_) (fun h1 => ?_)
  · have h1' := of_decide_eq_true h1
    refine AWP.skip (AWP.seq (AWP.block (SQ ?_)))
    refine DerQ.pre 7 (True ∧ 0 < 2 ∧ True ∧ (((0 ≤ (↑i : Int)) ∧ ((↑i : Int) < (↑(List.length l) : Int))) ∧ (Int.toNat (↑i : Int) * 4 + 4 ≤ List.length (flsc l))) ∧ 1 ≤ 4 ∧ 0 < 1 ∧ True ∧ True) ⟨[U6, (I6 x), .ptr 0 0, U6, (I6 0), (I6 (↑i : Int)), U6, U6, U6, U6, (B6 (decide ((↑i : Int) < (↑(List.length l) : Int)))), U6, U6, .ptr 0 0, .sl (flsc l) (List.length l) .any, (I6 (↑i : Int)), .dptr [List.getD (flsc l) (Int.toNat (↑i : Int) * 4 + 0) U6, List.getD (flsc l) (Int.toNat (↑i : Int) * 4 + 1) U6, List.getD (flsc l) (Int.toNat (↑i : Int) * 4 + 2) U6, List.getD (flsc l) (Int.toNat (↑i : Int) * 4 + 3) AVal.undef], .dptr [List.getD (flsc l) (Int.toNat (↑i : Int) * 4 + 0) AVal.undef], List.getD (flsc l) (Int.toNat (↑i : Int) * 4 + 0) U6, (I6 x), U6, .undef], [⟨[.sl (flsc l) (List.length l) .any, (I6 next)], 2, .fresh⟩]⟩ (by kernel_rfl) ⟨trivial, (by omega), trivial, ⟨⟨(by omega), (by omega)⟩, (by (simp [spliceA_length] <;> omega))⟩, (by omega), (by omega), trivial, trivial⟩ ?_
    rw [Int.toNat_natCast (i)]
    rw [Nat.add_zero (i * 4)]
    rw [Go.Net.fl_cells (l) (i) (by omega)]
    rw [Go.Net.fl_0 (l) (i) (by omega)]
    refine RT 1 ?_
    refine KL ([10] ++ NN 13 7) ⟨[U6, (I6 x), .ptr 0 0, U6, (I6 0), (I6 (↑i : Int))] ++ UU 14 ++ [(B6 ((List.getD l i fl0).num == x)), .undef], [⟨[.sl (flsc l) (List.length l) .any, (I6 next)], 2, .fresh⟩]⟩ ?_
    refine CN ((List.getD l i fl0).num == x) (fun h2 => ?_) (fun h2 => ?_)
    · have h2' := eq_of_beq h2
      refine SQ (RT 2 ?_)
      refine AWP.ret ?_
      refine FI (I6 (↑i : Int)) ?_
      refine Shrink.all ?_ rfl
      (rw [place_at l x 0 i (by omega) hd (by omega), Nat.zero_add]; done)
    · have h2' := ne_of_beq_false h2
      refine AWP.skip (AWP.reg ?_)
      refine DerQ.run (TT 3) ⟨[U6, (I6 x), .ptr 0 0, U6, (I6 0), (I6 (IntKind.wrap IntKind.i64 ((↑i : Int) + 1)))] ++ UU 5 ++ [(I6 (↑i : Int)), (I6 (IntKind.wrap IntKind.i64 ((↑i : Int) + 1)))] ++ UU 7 ++ [(B6 ((List.getD l i fl0).num == x)), .undef], [⟨[.sl (flsc l) (List.length l) .any, (I6 next)], 2, .fresh⟩]⟩ (by kernel_rfl) (tt 3) ?_
      rw [IntWalk.i64_in ((↑i : Int) + 1) (by omega)]
      (exact ⟨_, by omega, i + 1, rfl, by omega, succ_all hd (by omega), by kernel_rfl⟩; done)
  · have h1' := of_decide_eq_false h1
    refine AWP.exit ?_
    refine AWP.seq (KL [1, 2, 5, 10] ⟨[U6, U6, U6, U6, (I6 0)] ++ UU 17, [⟨[.sl (flsc l) (List.length l) .any, (I6 next)], 2, .fresh⟩]⟩ ?_)
    refine AWP.reg (RT 1 ?_)
    refine AWP.ret ?_
    refine FI (I6 (-1)) ?_
    refine Shrink.all ?_ rfl
    (rw [place_no l x 0 (fun j hj => hd j (by omega))]; done)
theorem same_refl (l : List FlD) (next : Int) (hx : l.length ≤ 1000000) (hb : BtsL l) : EvD Try.prog 27 [.agg [.sl (flsc l) l.length .any, .sc (.int .i64 next)], .agg [.sl (flsc l) l.length .any, .sc (.int .i64 next)]] (.sc (.bool true)) := by
  refine EvD.body Try.func27 rfl (by simp [dataAll, AVal.data, *]) (by simp [dataAll, AVal.data, *]) ?_
  refine AWP.seq ?_
  refine TO ⟨[.agg [.sl (flsc l) (List.length l) .any, (I6 next)], .agg [.sl (flsc l) (List.length l) .any, (I6 next)]] ++ UU 37, []⟩ ?_
  refine AWP.reg (RT 3 ?_)
  refine AWP.seq (AWP.seq (KL [0, 1] ⟨[U6, U6, .ptr 0 0, .ptr 1 0, (B6 false)] ++ UU 34, [⟨[.sl (flsc l) (List.length l) .any, (I6 next)], 2, .fresh⟩, ⟨[.sl (flsc l) (List.length l) .any, (I6 next)], 2, .fresh⟩]⟩ ?_))
  refine AWP.reg (PI 6 (True ∧ 1 < 2 ∧ True ∧ 1 < 2 ∧ True ∧ True ∧ True) ⟨trivial, (by omega), trivial, (by omega), trivial, trivial, trivial⟩ ?_)
  refine DerQ.to ⟨[U6, U6, .ptr 0 0, .ptr 1 0, (B6 false), U6, .ptr 0 1, (I6 next), .ptr 1 1, (I6 next), (B6 (next != next)), (B6 (next != next))] ++ UU 27, [⟨[.sl (flsc l) (List.length l) .any, (I6 next)], 2, .fresh⟩, ⟨[.sl (flsc l) (List.length l) .any, (I6 next)], 2, .fresh⟩]⟩ (by kernel_rfl) ?_
  cases h1 : (next != next)
  · have h1' := bne_eq_false_iff_eq.1 h1
    refine RI (True ∧ 0 < 2 ∧ True ∧ True ∧ 0 < 2 ∧ True ∧ True ∧ True ∧ True) ⟨trivial, (by omega), trivial, trivial, (by omega), trivial, trivial, trivial, trivial⟩ ?_
    refine KL (NN 6 13) ⟨[U6, U6, .ptr 0 0, .ptr 1 0, (B6 false)] ++ UU 14 ++ [(B6 ((↑(List.length l) : Int) != (↑(List.length l) : Int)))] ++ UU 19, [⟨[.sl (flsc l) (List.length l) .any, (I6 next)], 2, .fresh⟩, ⟨[.sl (flsc l) (List.length l) .any, (I6 next)], 2, .fresh⟩]⟩ ?_
    refine CN ((↑(List.length l) : Int) != (↑(List.length l) : Int)) (fun h2 => ?_) (fun h2 => ?_)
    · have h2' := bne_iff_ne.1 h2
      exfalso; omega
    · have h2' := bne_eq_false_iff_eq.1 h2
      refine AWP.skip (AWP.seq (SQ (RT 1 ?_)))
      refine AWP.block (KL [19] ⟨[U6, U6, .ptr 0 0, .ptr 1 0, (B6 false), (I6 0)] ++ UU 33, [⟨[.sl (flsc l) (List.length l) .any, (I6 next)], 2, .fresh⟩, ⟨[.sl (flsc l) (List.length l) .any, (I6 next)], 2, .fresh⟩]⟩ ?_)
      refine AWP.loopM [false, false, true, true, true, true, false, false, false, false, false, false, false, false, false, false, false, false, false, false, false, false, false, false, false, false, false, false, false, false, false, false, false, false, false, false, false, false, false] (fun kk st => ∃ (i : Nat), kk = l.length - i ∧ i ≤ l.length ∧ st = ⟨[U6, U6, .ptr 0 0, .ptr 1 0, (B6 false), (I6 (i : Int)), U6, U6, U6, U6, U6, U6, U6, U6, U6, U6, U6, U6, U6, U6, U6, U6, U6, U6, U6, U6, U6, U6, U6, U6, U6, U6, U6, U6, U6, U6, U6, U6, .undef], [⟨[.sl (flsc l) (List.length l) .any, (I6 next)], 2, .fresh⟩, ⟨[.sl (flsc l) (List.length l) .any, (I6 next)], 2, .fresh⟩]⟩) _ ⟨0, rfl, by omega, by kernel_rfl⟩ ?_
      rintro kk s ⟨i, rfl, hi, rfl⟩
      have hbi := hb i
      refine AWP.seq (SQ (RI (True ∧ True ∧ 0 < 2 ∧ True ∧ True ∧ True) ⟨trivial, trivial, (by omega), trivial, trivial, trivial⟩ ?_))
      refine KL [20, 21, 22, 23] ⟨[U6, U6, .ptr 0 0, .ptr 1 0, (B6 false), (I6 (↑i : Int))] ++ UU 18 ++ [(B6 (decide ((↑i : Int) < (↑(List.length l) : Int))))] ++ UU 14, [⟨[.sl (flsc l) (List.length l) .any, (I6 next)], 2, .fresh⟩, ⟨[.sl (flsc l) (List.length l) .any, (I6 next)], 2, .fresh⟩]⟩ ?_
      refine CN (decide ((↑i : Int) < (↑(List.length l) : Int))) (fun h3 => ?_) (fun h3 => ?_)
      · have h3' := of_decide_eq_true h3
        refine AWP.skip (AWP.seq (AWP.block (AWP.seq ?_)))
        refine AWP.drawX mixed (fun o => [37].contains (o.dst.getD 0)) (by kernel_rfl) ?_
        refine DerX.pre 10 ((True) ∧ (((0 : Nat) < (2 : Nat)) ∧ ((True) ∧ ((((0 ≤ (↑i : Int)) ∧ ((↑i : Int) < (↑(List.length l) : Int))) ∧ (Int.toNat (↑i : Int) * 4 + 4 ≤ List.length (flsc l))) ∧ (((4 : Nat) ≤ (4 : Nat)) ∧ ((True) ∧ (((0 : Nat) < (2 : Nat)) ∧ ((True) ∧ ((((0 ≤ (↑i : Int)) ∧ ((↑i : Int) < (↑(List.length l) : Int))) ∧ (Int.toNat (↑i : Int) * 4 + 4 ≤ List.length (flsc l))) ∧ (((4 : Nat) ≤ (4 : Nat)) ∧ (True))))))))))) [.ptr 0 0, .sl (flsc l) (List.length l) .any, (I6 (↑i : Int)), .dptr [List.getD (flsc l) (Int.toNat (↑i : Int) * 4 + 0) U6, List.getD (flsc l) (Int.toNat (↑i : Int) * 4 + 1) U6, List.getD (flsc l) (Int.toNat (↑i : Int) * 4 + 2) U6, List.getD (flsc l) (Int.toNat (↑i : Int) * 4 + 3) AVal.undef], .agg [List.getD (flsc l) (Int.toNat (↑i : Int) * 4 + 0) U6, List.getD (flsc l) (Int.toNat (↑i : Int) * 4 + 1) U6, List.getD (flsc l) (Int.toNat (↑i : Int) * 4 + 2) U6, List.getD (flsc l) (Int.toNat (↑i : Int) * 4 + 3) AVal.undef], .ptr 1 0, .sl (flsc l) (List.length l) .any, (I6 (↑i : Int)), .dptr [List.getD (flsc l) (Int.toNat (↑i : Int) * 4 + 0) U6, List.getD (flsc l) (Int.toNat (↑i : Int) * 4 + 1) U6, List.getD (flsc l) (Int.toNat (↑i : Int) * 4 + 2) U6, List.getD (flsc l) (Int.toNat (↑i : Int) * 4 + 3) AVal.undef], .agg [List.getD (flsc l) (Int.toNat (↑i : Int) * 4 + 0) U6, List.getD (flsc l) (Int.toNat (↑i : Int) * 4 + 1) U6, List.getD (flsc l) (Int.toNat (↑i : Int) * 4 + 2) U6, List.getD (flsc l) (Int.toNat (↑i : Int) * 4 + 3) AVal.undef]] ⟨[U6, U6, .ptr 0 0, .ptr 1 0, (B6 false), (I6 (↑i : Int))] ++ UU 18 ++ [(B6 (decide ((↑i : Int) < (↑(List.length l) : Int)))), U6, U6, .ptr 0 0, .sl (flsc l) (List.length l) .any, (I6 (↑i : Int)), .dptr [List.getD (flsc l) (Int.toNat (↑i : Int) * 4 + 0) U6, List.getD (flsc l) (Int.toNat (↑i : Int) * 4 + 1) U6, List.getD (flsc l) (Int.toNat (↑i : Int) * 4 + 2) U6, List.getD (flsc l) (Int.toNat (↑i : Int) * 4 + 3) AVal.undef], .agg [List.getD (flsc l) (Int.toNat (↑i : Int) * 4 + 0) U6, List.getD (flsc l) (Int.toNat (↑i : Int) * 4 + 1) U6, List.getD (flsc l) (Int.toNat (↑i : Int) * 4 + 2) U6, List.getD (flsc l) (Int.toNat (↑i : Int) * 4 + 3) AVal.undef], .ptr 1 0, .sl (flsc l) (List.length l) .any, (I6 (↑i : Int)), .dptr [List.getD (flsc l) (Int.toNat (↑i : Int) * 4 + 0) U6, List.getD (flsc l) (Int.toNat (↑i : Int) * 4 + 1) U6, List.getD (flsc l) (Int.toNat (↑i : Int) * 4 + 2) U6, List.getD (flsc l) (Int.toNat (↑i : Int) * 4 + 3) AVal.undef], .agg [List.getD (flsc l) (Int.toNat (↑i : Int) * 4 + 0) U6, List.getD (flsc l) (Int.toNat (↑i : Int) * 4 + 1) U6, List.getD (flsc l) (Int.toNat (↑i : Int) * 4 + 2) U6, List.getD (flsc l) (Int.toNat (↑i : Int) * 4 + 3) AVal.undef], U6, .undef], [⟨[.sl (flsc l) (List.length l) .any, (I6 next)], 2, .fresh⟩, ⟨[.sl (flsc l) (List.length l) .any, (I6 next)], 2, .fresh⟩]⟩ (by intro ext; kernel_rfl) (by kernel_rfl) ⟨trivial, ⟨(by omega), ⟨trivial, ⟨⟨⟨(by omega), (by omega)⟩, (by (simp [spliceA_length] <;> omega))⟩, ⟨(by omega), ⟨trivial, ⟨(by omega), ⟨trivial, ⟨⟨⟨(by omega), (by omega)⟩, (by (simp [spliceA_length] <;> omega))⟩, ⟨(by omega), trivial⟩⟩⟩⟩⟩⟩⟩⟩⟩⟩ ?_
        rw [Int.toNat_natCast (i)]
        rw [Nat.add_zero (i * 4)]
        rw [Go.Net.fl_cells (l) (i) (by omega)]
        refine DerX.callDI (one_refl (List.getD l i fl0) (hbi (by omega))) ⟨by kernel_rfl, by kernel_rfl⟩ ?_
        refine DerX.quietI (True) (by intro ext; kernel_rfl) (by kernel_rfl) trivial ?_
        refine DerX.nil ?_
        refine KL ([24] ++ NN 27 11) ⟨[U6, U6, .ptr 0 0, .ptr 1 0, (B6 false), (I6 (↑i : Int))] ++ UU 32 ++ [(B6 false)], [⟨[.sl (flsc l) (List.length l) .any, (I6 next)], 2, .fresh⟩, ⟨[.sl (flsc l) (List.length l) .any, (I6 next)], 2, .fresh⟩]⟩ ?_
        refine CN false (fun h => nomatch h) (fun _ => ?_)
        refine AWP.skip (AWP.reg ?_)
        refine DerQ.run (TT 3) ⟨[U6, U6, .ptr 0 0, .ptr 1 0, (B6 false), (I6 (IntKind.wrap IntKind.i64 ((↑i : Int) + 1)))] ++ UU 19 ++ [(I6 (↑i : Int)), (I6 (IntKind.wrap IntKind.i64 ((↑i : Int) + 1)))] ++ UU 11 ++ [(B6 false)], [⟨[.sl (flsc l) (List.length l) .any, (I6 next)], 2, .fresh⟩, ⟨[.sl (flsc l) (List.length l) .any, (I6 next)], 2, .fresh⟩]⟩ (by kernel_rfl) (tt 3) ?_
        rw [IntWalk.i64_in ((↑i : Int) + 1) (by omega)]
        (exact ⟨_, by omega, i + 1, rfl, by omega, by kernel_rfl⟩; done)
      · have h3' := of_decide_eq_false h3
        refine AWP.exit ?_
        refine AWP.seq (KL [2, 3, 5, 24] ⟨[U6, U6, U6, U6, (B6 false)] ++ UU 34, [⟨[.sl (flsc l) (List.length l) .any, (I6 next)], 2, .fresh⟩, ⟨[.sl (flsc l) (List.length l) .any, (I6 next)], 2, .fresh⟩]⟩ ?_)
        refine AWP.reg (RT 1 ?_)
        refine AWP.ret FA
  · have h1' := bne_iff_ne.1 h1
    exfalso; omega
end Go.Net
