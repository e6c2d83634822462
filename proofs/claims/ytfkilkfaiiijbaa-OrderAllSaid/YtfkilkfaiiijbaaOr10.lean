/- Walks and laws. -/
import Derived.Test.YtfkilkfaiiijbaaOr9
import Derived.Test.YtfkilkfaiiijbaaLibC
set_option maxRecDepth 100000
set_option maxHeartbeats 0
set_option linter.unusedSimpArgs false
set_option linter.unusedVariables false
set_option linter.unusedSectionVars false
namespace Go.Ord
open Go Go.Abs Go.Proofs Go.Ops
section
variable {l : List TxD} {r : Nat} (hc : chnR l) (h32 : l.length ≤ 32) (hts : ∀ i, i < l.length → -9223372036854775808 ≤ (l.getD i tx0).s ∧ (l.getD i tx0).s ≤ 9223372036854775807)
include hc h32
theorem fin_at (i : Nat) (h : l.length ≤ i) (h2 : i ≤ l.length) : (aC (rot l r) i).length = l.length ∧ (wC (rot l r) i).length = 0 := by
  obtain rfl : i = l.length := by omega
  exact ⟨all_n hc h32, by show (stC _ _).w.length = 0; rw [all_w hc h32]; rfl⟩
theorem offA (i : Nat) (h : i < l.length) : EvD Try.prog 46 [.agg (vce (vC (rot l r) i)), .sl (txsc (wC (rot l r) i)) ((wC (rot l r) i)).length .any, .agg (txe (l.getD (ix l r i) tx0))] (.tup [.sl (txsc (Mc (rot l r) i)) ((Mc (rot l r) i)).length .any, AVal.sc (.int .i64 0)]) := by
  have h1 := off_at (l := (rot l r)) (by simp; omega) i (by simpa using h)
  have e : Ec (rot l r) i = 0 := by
    show offE (stC (rot l r) i).v (stC (rot l r) i).w ((rot l r).getD i tx0) = 0
    rw [rot_get r h]; exact offE_at hc h32 h (invA hc h32 i (by omega))
  rwa [e, rot_get r h] at h1
include hts
theorem drA (i : Nat) (h : i < l.length) : EvD Try.prog 47 [.agg (vce (vC (rot l r) i)), .sl (txsc (Mc (rot l r) i)) ((Mc (rot l r) i)).length .any] (.tup [.sl (txsc (Gc (rot l r) i)) ((Gc (rot l r) i)).length .any, .sl (txsc (wY (rot l r) i)) ((wY (rot l r) i)).length .any, .agg (vce (vY (rot l r) i))]) :=
  dr_yes (l := (rot l r)) (by simp; omega) (fun j hj => by rw [rot_len] at hj; rw [rot_get r hj]; exact hts _ (ix_lt r hj)) i (by simpa using h)
end
theorem Y_int (l : List TxD) (r : Nat) (i : Nat) : ((aC (rot l r) i).length : Int) + ((Gc (rot l r) i).length : Int) = ((aY (rot l r) i).length : Int) := by have := Y_len (rot l r) i; omega
def rf (fr : Int) : Nat := fr.toNat % 1000
theorem tmod_ix (l : List TxD) (fr : Int) (i : Nat) (h : 0 ≤ fr) : Int.tmod ((i : Int) + Int.tmod fr 1000) (l.length : Int) = (ix l (rf fr) i : Int) := by
  obtain ⟨f, rfl⟩ := Int.eq_ofNat_of_zero_le h
  rfl
theorem all_no (l : List TxD) (fr : Int) (hl : l.length ≤ 1000000000000000) (hx : ∀ i, i < l.length → (l.getD i tx0).ops.length ≤ 1000000000000000) (hts : ∀ i, i < l.length → -9223372036854775808 ≤ (l.getD i tx0).s ∧ (l.getD i tx0).s ≤ 9223372036854775807) (h : ¬ (fewT l ∧ l.length ≤ 32 ∧ l.length ≠ 0 ∧ 0 ≤ fr ∧ chnR l)) : EvD Try.prog 12 [.sl (txsc l) (l).length .any, AVal.sc (.int .i64 fr)] (.sc (.bool true)) := by
  by_cases h1 : fewT l
  · have c1 := dec_t (few l hl hx) h1
    have c2 := r_closed l (by have := h1.1; omega) hts
    have h4 := h1.1
    refine EvD.body Try.func12 rfl (by simp [vce, txe, dataAll, AVal.data]) (by simp [vce, txe, dataAll, AVal.data]) ?_
    refine AWP.seq ?_
    refine TO ⟨[.sl (txsc l) (l.length) .any, (I6 fr)] ++ UU 84, []⟩ ?_
    refine AWP.reg (RT 1 ?_)
    refine AWP.seq (AWP.seq ?_)
    refine TO ⟨[.sl (txsc l) (l.length) .any, (I6 fr), U6, U6, (B6 false)] ++ UU 81, []⟩ ?_
    refine AWP.reg (PT 1 1 ?_)
    refine CD (c1) ?_
    refine PT 7 7 ?_
    refine DerQ.to ⟨[.sl (txsc l) (l.length) .any, (I6 fr), U6, U6, (B6 false)] ++ UU 9 ++ [.sl (txsc l) (l.length) .any, (B6 true), (B6 false), (B6 false), .sl (txsc l) (l.length) .any, (I6 (↑(l.length) : Int)), (B6 (decide ((↑(l.length) : Int) > 32))), (B6 (decide ((↑(l.length) : Int) > 32))), (B6 (decide ((↑(l.length) : Int) > 32)))] ++ UU 63, []⟩ (by kernel_rfl) ?_
    cases h2 : (decide ((↑(l.length) : Int) > 32))
    · have h2' := of_decide_eq_false h2
      refine PT 5 5 ?_
      refine DerQ.to ⟨[.sl (txsc l) (l.length) .any, (I6 fr), U6, U6, (B6 false)] ++ UU 9 ++ [.sl (txsc l) (l.length) .any, (B6 true), (B6 false), (B6 false), .sl (txsc l) (l.length) .any, (I6 (↑(l.length) : Int)), (B6 false), (B6 false), (B6 false), .sl (txsc l) (l.length) .any, (I6 (↑(l.length) : Int)), (B6 ((↑(l.length) : Int) == 0)), (B6 ((↑(l.length) : Int) == 0)), (B6 ((↑(l.length) : Int) == 0))] ++ UU 58, []⟩ (by kernel_rfl) ?_
      cases h3 : ((↑(l.length) : Int) == 0)
      · have h3' := ne_of_beq_false h3
        refine PT 4 4 ?_
        refine DerQ.to ⟨[.sl (txsc l) (l.length) .any, (I6 fr), U6, U6, (B6 false)] ++ UU 9 ++ [.sl (txsc l) (l.length) .any, (B6 true), (B6 false), (B6 false), .sl (txsc l) (l.length) .any, (I6 (↑(l.length) : Int)), (B6 false), (B6 false), (B6 false), .sl (txsc l) (l.length) .any, (I6 (↑(l.length) : Int)), (B6 false), (B6 false), (B6 false), (I6 fr), (B6 (decide (fr < 0))), (B6 (decide (fr < 0))), (B6 (decide (fr < 0)))] ++ UU 54, []⟩ (by kernel_rfl) ?_
        cases h5 : (decide (fr < 0))
        · have h5' := of_decide_eq_false h5
          refine PT 1 1 ?_
          refine CD (c2) ?_
          refine RT 2 ?_
          refine KL (NN 14 21) ⟨[.sl (txsc l) (l.length) .any, (I6 fr), U6, U6, (B6 false)] ++ UU 30 ++ [(B6 (!decide (chnR l)))] ++ UU 50, []⟩ ?_
          refine CN (!decide (chnR l)) (fun h6 => ?_) (fun h6 => ?_)
          · have h6' := h6
            simp only [Bool.and_eq_true, Bool.and_eq_false_iff, Bool.or_eq_true, Bool.or_eq_false_iff, Bool.not_eq_true', Bool.not_eq_false', beq_iff_eq, beq_eq_false_iff_ne, decide_eq_true_eq, decide_eq_false_iff_not, ne_eq] at h6'
            refine SQ (CD (heads) ?_)
            refine RT 1 ?_
            refine AWP.ret FA
          · have h6' := h6
            simp only [Bool.and_eq_true, Bool.and_eq_false_iff, Bool.or_eq_true, Bool.or_eq_false_iff, Bool.not_eq_true', Bool.not_eq_false', beq_iff_eq, beq_eq_false_iff_ne, decide_eq_true_eq, decide_eq_false_iff_not, ne_eq] at h6'
            (exfalso; exact absurd ⟨h1, by omega, by omega, by omega, by assumption⟩ h; done)
        · have h5' := of_decide_eq_true h5
          refine RT 1 ?_
          refine KL (NN 14 21) ⟨[.sl (txsc l) (l.length) .any, (I6 fr), U6, U6, (B6 false)] ++ UU 30 ++ [(B6 true)] ++ UU 50, []⟩ ?_
          refine CN true (fun _ => ?_) (fun h => nomatch h)
          refine SQ (CD (heads) ?_)
          refine RT 1 ?_
          refine AWP.ret FA
      · have h3' := eq_of_beq h3
        refine RT 3 ?_
        refine KL (NN 14 21) ⟨[.sl (txsc l) (l.length) .any, (I6 fr), U6, U6, (B6 false)] ++ UU 30 ++ [(B6 true)] ++ UU 50, []⟩ ?_
        refine CN true (fun _ => ?_) (fun h => nomatch h)
        refine SQ (CD (heads) ?_)
        refine RT 1 ?_
        refine AWP.ret FA
    · have h2' := of_decide_eq_true h2
      refine RT 5 ?_
      refine KL (NN 14 21) ⟨[.sl (txsc l) (l.length) .any, (I6 fr), U6, U6, (B6 false)] ++ UU 30 ++ [(B6 true)] ++ UU 50, []⟩ ?_
      refine CN true (fun _ => ?_) (fun h => nomatch h)
      refine SQ (CD (heads) ?_)
      refine RT 1 ?_
      refine AWP.ret FA
  · have c1 := dec_f (few l hl hx) h1
    refine EvD.body Try.func12 rfl (by simp [vce, txe, dataAll, AVal.data]) (by simp [vce, txe, dataAll, AVal.data]) ?_
    refine AWP.seq ?_
    refine TO ⟨[.sl (txsc l) (l.length) .any, (I6 fr)] ++ UU 84, []⟩ ?_
    refine AWP.reg (RT 1 ?_)
    refine AWP.seq (AWP.seq ?_)
    refine TO ⟨[.sl (txsc l) (l.length) .any, (I6 fr), U6, U6, (B6 false)] ++ UU 81, []⟩ ?_
    refine AWP.reg (PT 1 1 ?_)
    refine CD (c1) ?_
    refine RT 9 ?_
    refine KL (NN 14 21) ⟨[.sl (txsc l) (l.length) .any, (I6 fr), U6, U6, (B6 false)] ++ UU 30 ++ [(B6 true)] ++ UU 50, []⟩ ?_
    refine CN true (fun _ => ?_) (fun h => nomatch h)
    refine SQ (CD (heads) ?_)
    refine RT 1 ?_
    refine AWP.ret FA
theorem wrap_ix (fr : Int) (i : Nat) (h : 0 ≤ fr) (hi : i ≤ 100) : IntKind.wrap IntKind.i64 ((i : Int) + Int.tmod fr 1000) = (i : Int) + Int.tmod fr 1000 := by
  have h1 : 0 ≤ Int.tmod fr 1000 := Int.tmod_nonneg _ h
  have h2 : Int.tmod fr 1000 < 1000 := Int.tmod_lt_of_pos _ (by omega)
  exact IntWalk.i64_in _ (by omega)
theorem ixs (l : List TxD) (fr : Int) (i : Nat) (h : 0 ≤ fr) (hi : i < l.length) (h32 : l.length ≤ 32) : 0 ≤ Int.tmod (IntKind.wrap IntKind.i64 ((i : Int) + Int.tmod fr 1000)) (l.length : Int) ∧ Int.tmod (IntKind.wrap IntKind.i64 ((i : Int) + Int.tmod fr 1000)) (l.length : Int) < (l.length : Int) ∧ Int.toNat (Int.tmod (IntKind.wrap IntKind.i64 ((i : Int) + Int.tmod fr 1000)) (l.length : Int)) * 17 + 17 ≤ (txsc l).length := by
  rw [wrap_ix fr i h (by omega), tmod_ix l fr i h, Int.toNat_natCast, txsc, recs_length txe 17 (fun _ => rfl)]
  have := ix_lt (rf fr) hi
  omega
theorem all_yes (l : List TxD) (fr : Int) (hl : l.length ≤ 1000000000000000) (hx : ∀ i, i < l.length → (l.getD i tx0).ops.length ≤ 1000000000000000) (hts : ∀ i, i < l.length → -9223372036854775808 ≤ (l.getD i tx0).s ∧ (l.getD i tx0).s ≤ 9223372036854775807) (h : fewT l) (h32 : l.length ≤ 32) (h0 : l.length ≠ 0) (hf : 0 ≤ fr ∧ fr ≤ 9223372036854775807) (hc : chnR l) : EvD Try.prog 12 [.sl (txsc l) (l).length .any, AVal.sc (.int .i64 fr)] (.sc (.bool true)) := by
  have c1 := dec_t (few l hl hx) h
  have c2 := dec_t (r_closed l (by have := h.1; omega) hts) hc
  have htm : 0 ≤ Int.tmod fr 1000 ∧ Int.tmod fr 1000 < 1000 := ⟨Int.tmod_nonneg _ hf.1, Int.tmod_lt_of_pos _ (by omega)⟩
  have hlt : ∀ i : Nat, i < l.length → ix l (rf fr) i < l.length := fun i hi => ix_lt (rf fr) hi
  refine EvD.body Try.func12 rfl (by simp [vce, txe, dataAll, AVal.data]) (by simp [vce, txe, dataAll, AVal.data]) ?_
  refine AWP.seq ?_
  refine TO ⟨[.sl (txsc l) (l.length) .any, (I6 fr)] ++ UU 84, []⟩ ?_
  refine AWP.reg (RT 1 ?_)
  refine AWP.seq (AWP.seq ?_)
  refine TO ⟨[.sl (txsc l) (l.length) .any, (I6 fr), U6, U6, (B6 false)] ++ UU 81, []⟩ ?_
  refine AWP.reg (PT 1 1 ?_)
  refine CD (c1) ?_
  refine PT 7 7 ?_
  refine DerQ.to ⟨[.sl (txsc l) (l.length) .any, (I6 fr), U6, U6, (B6 false)] ++ UU 9 ++ [.sl (txsc l) (l.length) .any, (B6 true), (B6 false), (B6 false), .sl (txsc l) (l.length) .any, (I6 (↑(l.length) : Int)), (B6 (decide ((↑(l.length) : Int) > 32))), (B6 (decide ((↑(l.length) : Int) > 32))), (B6 (decide ((↑(l.length) : Int) > 32)))] ++ UU 63, []⟩ (by kernel_rfl) ?_
  cases h1 : (decide ((↑(l.length) : Int) > 32))
  · have h1' := of_decide_eq_false h1
    refine PT 5 5 ?_
    refine DerQ.to ⟨[.sl (txsc l) (l.length) .any, (I6 fr), U6, U6, (B6 false)] ++ UU 9 ++ [.sl (txsc l) (l.length) .any, (B6 true), (B6 false), (B6 false), .sl (txsc l) (l.length) .any, (I6 (↑(l.length) : Int)), (B6 false), (B6 false), (B6 false), .sl (txsc l) (l.length) .any, (I6 (↑(l.length) : Int)), (B6 ((↑(l.length) : Int) == 0)), (B6 ((↑(l.length) : Int) == 0)), (B6 ((↑(l.length) : Int) == 0))] ++ UU 58, []⟩ (by kernel_rfl) ?_
    cases h2 : ((↑(l.length) : Int) == 0)
    · have h2' := ne_of_beq_false h2
      refine PT 4 4 ?_
      refine DerQ.to ⟨[.sl (txsc l) (l.length) .any, (I6 fr), U6, U6, (B6 false)] ++ UU 9 ++ [.sl (txsc l) (l.length) .any, (B6 true), (B6 false), (B6 false), .sl (txsc l) (l.length) .any, (I6 (↑(l.length) : Int)), (B6 false), (B6 false), (B6 false), .sl (txsc l) (l.length) .any, (I6 (↑(l.length) : Int)), (B6 false), (B6 false), (B6 false), (I6 fr), (B6 (decide (fr < 0))), (B6 (decide (fr < 0))), (B6 (decide (fr < 0)))] ++ UU 54, []⟩ (by kernel_rfl) ?_
      cases h3 : (decide (fr < 0))
      · have h3' := of_decide_eq_false h3
        refine PT 1 1 ?_
        refine CD (c2) ?_
        refine RT 2 ?_
        refine KL (NN 14 21) ⟨[.sl (txsc l) (l.length) .any, (I6 fr), U6, U6, (B6 false)] ++ UU 30 ++ [(B6 false)] ++ UU 50, []⟩ ?_
        refine CN false (fun h => nomatch h) (fun _ => ?_)
        refine AWP.skip (SQ (RT 1 ?_))
        refine AWP.seq (KL [35] ⟨[.sl (txsc l) (l.length) .any, (I6 fr), U6, U6, (B6 false), .ptr 0 0] ++ UU 80, [⟨[(I6 0), (I6 0), (I6 0), (I6 0), (I6 0), (I6 0), (I6 0), (I6 0), (I6 0), (I6 0), (I6 0), (I6 0), (I6 0)], 1, .fresh⟩]⟩ ?_)
        refine AWP.reg (RT 1 ?_)
        refine AWP.seq ?_
        refine TO ⟨[.sl (txsc l) (l.length) .any, (I6 fr), U6, U6, (B6 false), .ptr 0 0, .sl [] 0 .nil] ++ UU 79, [⟨[(I6 0), (I6 0), (I6 0), (I6 0), (I6 0), (I6 0), (I6 0), (I6 0), (I6 0), (I6 0), (I6 0), (I6 0), (I6 0)], 1, .fresh⟩]⟩ ?_
        refine AWP.reg (RT 1 ?_)
        refine AWP.seq (AWP.seq ?_)
        refine TO ⟨[.sl (txsc l) (l.length) .any, (I6 fr), U6, U6, (B6 false), .ptr 0 0, .sl [] 0 .nil, (I6 0)] ++ UU 78, [⟨[(I6 0), (I6 0), (I6 0), (I6 0), (I6 0), (I6 0), (I6 0), (I6 0), (I6 0), (I6 0), (I6 0), (I6 0), (I6 0)], 1, .fresh⟩]⟩ ?_
        refine AWP.reg (RT 1 ?_)
        refine AWP.block ?_
        refine TO ⟨[.sl (txsc l) (l.length) .any, (I6 fr), U6, U6, (B6 false), .ptr 0 0, .sl [] 0 .nil, (I6 0), (I6 0)] ++ UU 77, [⟨[(I6 0), (I6 0), (I6 0), (I6 0), (I6 0), (I6 0), (I6 0), (I6 0), (I6 0), (I6 0), (I6 0), (I6 0), (I6 0)], 1, .fresh⟩]⟩ ?_
        refine AWP.loopW [true, true, false, false, true, true, true, true, true, false, false, false, false, false, false, false, false, false, false, false, false, false, false, false, false, false, false, false, false, false, false, false, false, false, false, false, false, false, false, false, false, false, false, false, false, false, false, false, false, false, false, false, false, false, false, false, false, false, false, false, false, false, false, false, false, false, false, false, false, false, false, false, false, false, false, false, false, false, false, false, false, false, false, false, false, false] (fun kk st => ∃ (i : Nat) (kd : SlK), kk = l.length - i ∧ i ≤ l.length ∧ st = ⟨[.sl (txsc l) (l.length) .any, (I6 fr), U6, U6, (B6 false), .ptr 0 0, .sl (txsc (wC (rot l (rf fr)) i)) (wC (rot l (rf fr)) i).length kd, AVal.sc (.int .i64 ((aC (rot l (rf fr)) i).length : Int)), AVal.sc (.int .i64 (i : Int)), U6, U6, U6, U6, U6, U6, U6, U6, U6, U6, U6, U6, U6, U6, U6, U6, U6, U6, U6, U6, U6, U6, U6, U6, U6, U6, U6, U6, U6, U6, U6, U6, U6, U6, U6, U6, U6, U6, U6, U6, U6, U6, U6, U6, U6, U6, U6, U6, U6, U6, U6, U6, U6, U6, U6, U6, U6, U6, U6, U6, U6, U6, U6, U6, U6, U6, U6, U6, U6, U6, U6, U6, U6, U6, U6, U6, .undef], [⟨vce (vC (rot l (rf fr)) i), 1, .fresh⟩]⟩) _ ⟨0, .nil, rfl, by omega, by kernel_rfl⟩ ?_
        rintro kk s ⟨i, kd, rfl, hi, rfl⟩
        have hal := aC_len (rot l (rf fr)) i
        have hyl := aY_len (rot l (rf fr)) i
        have hal2 := Y_len (rot l (rf fr)) i
        have hfin := fin_at (r := rf fr) hc h32 i
        refine AWP.seq (SQ (RT 4 ?_))
        refine KL [37, 38, 39] ⟨[.sl (txsc l) (l.length) .any, (I6 fr), U6, U6, (B6 false), .ptr 0 0, .sl (txsc (wC (rot l (rf fr)) i)) ((wC (rot l (rf fr)) i).length) kd, (I6 (↑((aC (rot l (rf fr)) i).length) : Int)), (I6 i)] ++ UU 31 ++ [(B6 (decide ((↑i : Int) < (↑(l.length) : Int))))] ++ UU 45, [⟨[(I6 (vC (rot l (rf fr)) i 0)), (I6 (vC (rot l (rf fr)) i 1)), (I6 (vC (rot l (rf fr)) i 2)), (I6 (vC (rot l (rf fr)) i 3)), (I6 (vC (rot l (rf fr)) i 4)), (I6 (vC (rot l (rf fr)) i 5)), (I6 (vC (rot l (rf fr)) i 6)), (I6 (vC (rot l (rf fr)) i 7)), (I6 (vC (rot l (rf fr)) i 8)), (I6 (vC (rot l (rf fr)) i 9)), (I6 (vC (rot l (rf fr)) i 10)), (I6 (vC (rot l (rf fr)) i 11)), (I6 (vC (rot l (rf fr)) i 12))], 1, .fresh⟩]⟩ ?_
        refine CN (decide ((↑i : Int) < (↑(l.length) : Int))) (fun h4 => ?_) (fun h4 => ?_)
        · have h4' := of_decide_eq_true h4
          refine AWP.skip (AWP.seq (AWP.block (AWP.seq ?_)))
          refine AWP.drawX mixed (fun o => [56].contains (o.dst.getD 0)) (by kernel_rfl) ?_
          refine DerX.pre 12 (((13 : Nat) ≤ (13 : Nat)) ∧ ((True) ∧ ((True) ∧ ((True) ∧ ((True) ∧ (((1000 : Int) ≠ (0 : Int)) ∧ ((True) ∧ ((True) ∧ ((True) ∧ (((↑(l.length) : Int) ≠ 0) ∧ ((((0 ≤ Int.tmod (IntKind.wrap IntKind.i64 ((↑i : Int) + Int.tmod fr 1000)) (↑(l.length) : Int)) ∧ (Int.tmod (IntKind.wrap IntKind.i64 ((↑i : Int) + Int.tmod fr 1000)) (↑(l.length) : Int) < (↑(l.length) : Int))) ∧ (Int.toNat (Int.tmod (IntKind.wrap IntKind.i64 ((↑i : Int) + Int.tmod fr 1000)) (↑(l.length) : Int)) * 17 + 17 ≤ (txsc l).length)) ∧ (((17 : Nat) ≤ (17 : Nat)) ∧ (True))))))))))))) [.agg [(I6 (vC (rot l (rf fr)) i 0)), (I6 (vC (rot l (rf fr)) i 1)), (I6 (vC (rot l (rf fr)) i 2)), (I6 (vC (rot l (rf fr)) i 3)), (I6 (vC (rot l (rf fr)) i 4)), (I6 (vC (rot l (rf fr)) i 5)), (I6 (vC (rot l (rf fr)) i 6)), (I6 (vC (rot l (rf fr)) i 7)), (I6 (vC (rot l (rf fr)) i 8)), (I6 (vC (rot l (rf fr)) i 9)), (I6 (vC (rot l (rf fr)) i 10)), (I6 (vC (rot l (rf fr)) i 11)), (I6 (vC (rot l (rf fr)) i 12))], .sl (txsc (wC (rot l (rf fr)) i)) ((wC (rot l (rf fr)) i).length) kd, .sl (txsc l) (l.length) .any, (I6 i), (I6 fr), (I6 (Int.tmod fr 1000)), (I6 (IntKind.wrap IntKind.i64 ((↑i : Int) + Int.tmod fr 1000))), .sl (txsc l) (l.length) .any, (I6 (↑(l.length) : Int)), (I6 (Int.tmod (IntKind.wrap IntKind.i64 ((↑i : Int) + Int.tmod fr 1000)) (↑(l.length) : Int))), .dptr [(txsc l).getD (Int.toNat (Int.tmod (IntKind.wrap IntKind.i64 ((↑i : Int) + Int.tmod fr 1000)) (↑(l.length) : Int)) * 17 + 0) U6, (txsc l).getD (Int.toNat (Int.tmod (IntKind.wrap IntKind.i64 ((↑i : Int) + Int.tmod fr 1000)) (↑(l.length) : Int)) * 17 + 1) U6, (txsc l).getD (Int.toNat (Int.tmod (IntKind.wrap IntKind.i64 ((↑i : Int) + Int.tmod fr 1000)) (↑(l.length) : Int)) * 17 + 2) U6, (txsc l).getD (Int.toNat (Int.tmod (IntKind.wrap IntKind.i64 ((↑i : Int) + Int.tmod fr 1000)) (↑(l.length) : Int)) * 17 + 3) U6, (txsc l).getD (Int.toNat (Int.tmod (IntKind.wrap IntKind.i64 ((↑i : Int) + Int.tmod fr 1000)) (↑(l.length) : Int)) * 17 + 4) U6, (txsc l).getD (Int.toNat (Int.tmod (IntKind.wrap IntKind.i64 ((↑i : Int) + Int.tmod fr 1000)) (↑(l.length) : Int)) * 17 + 5) U6, (txsc l).getD (Int.toNat (Int.tmod (IntKind.wrap IntKind.i64 ((↑i : Int) + Int.tmod fr 1000)) (↑(l.length) : Int)) * 17 + 6) U6, (txsc l).getD (Int.toNat (Int.tmod (IntKind.wrap IntKind.i64 ((↑i : Int) + Int.tmod fr 1000)) (↑(l.length) : Int)) * 17 + 7) U6, (txsc l).getD (Int.toNat (Int.tmod (IntKind.wrap IntKind.i64 ((↑i : Int) + Int.tmod fr 1000)) (↑(l.length) : Int)) * 17 + 8) U6, (txsc l).getD (Int.toNat (Int.tmod (IntKind.wrap IntKind.i64 ((↑i : Int) + Int.tmod fr 1000)) (↑(l.length) : Int)) * 17 + 9) U6, (txsc l).getD (Int.toNat (Int.tmod (IntKind.wrap IntKind.i64 ((↑i : Int) + Int.tmod fr 1000)) (↑(l.length) : Int)) * 17 + 10) U6, (txsc l).getD (Int.toNat (Int.tmod (IntKind.wrap IntKind.i64 ((↑i : Int) + Int.tmod fr 1000)) (↑(l.length) : Int)) * 17 + 11) U6, (txsc l).getD (Int.toNat (Int.tmod (IntKind.wrap IntKind.i64 ((↑i : Int) + Int.tmod fr 1000)) (↑(l.length) : Int)) * 17 + 12) U6, (txsc l).getD (Int.toNat (Int.tmod (IntKind.wrap IntKind.i64 ((↑i : Int) + Int.tmod fr 1000)) (↑(l.length) : Int)) * 17 + 13) U6, (txsc l).getD (Int.toNat (Int.tmod (IntKind.wrap IntKind.i64 ((↑i : Int) + Int.tmod fr 1000)) (↑(l.length) : Int)) * 17 + 14) U6, (txsc l).getD (Int.toNat (Int.tmod (IntKind.wrap IntKind.i64 ((↑i : Int) + Int.tmod fr 1000)) (↑(l.length) : Int)) * 17 + 15) U6, (txsc l).getD (Int.toNat (Int.tmod (IntKind.wrap IntKind.i64 ((↑i : Int) + Int.tmod fr 1000)) (↑(l.length) : Int)) * 17 + 16) AVal.undef], .agg [(txsc l).getD (Int.toNat (Int.tmod (IntKind.wrap IntKind.i64 ((↑i : Int) + Int.tmod fr 1000)) (↑(l.length) : Int)) * 17 + 0) U6, (txsc l).getD (Int.toNat (Int.tmod (IntKind.wrap IntKind.i64 ((↑i : Int) + Int.tmod fr 1000)) (↑(l.length) : Int)) * 17 + 1) U6, (txsc l).getD (Int.toNat (Int.tmod (IntKind.wrap IntKind.i64 ((↑i : Int) + Int.tmod fr 1000)) (↑(l.length) : Int)) * 17 + 2) U6, (txsc l).getD (Int.toNat (Int.tmod (IntKind.wrap IntKind.i64 ((↑i : Int) + Int.tmod fr 1000)) (↑(l.length) : Int)) * 17 + 3) U6, (txsc l).getD (Int.toNat (Int.tmod (IntKind.wrap IntKind.i64 ((↑i : Int) + Int.tmod fr 1000)) (↑(l.length) : Int)) * 17 + 4) U6, (txsc l).getD (Int.toNat (Int.tmod (IntKind.wrap IntKind.i64 ((↑i : Int) + Int.tmod fr 1000)) (↑(l.length) : Int)) * 17 + 5) U6, (txsc l).getD (Int.toNat (Int.tmod (IntKind.wrap IntKind.i64 ((↑i : Int) + Int.tmod fr 1000)) (↑(l.length) : Int)) * 17 + 6) U6, (txsc l).getD (Int.toNat (Int.tmod (IntKind.wrap IntKind.i64 ((↑i : Int) + Int.tmod fr 1000)) (↑(l.length) : Int)) * 17 + 7) U6, (txsc l).getD (Int.toNat (Int.tmod (IntKind.wrap IntKind.i64 ((↑i : Int) + Int.tmod fr 1000)) (↑(l.length) : Int)) * 17 + 8) U6, (txsc l).getD (Int.toNat (Int.tmod (IntKind.wrap IntKind.i64 ((↑i : Int) + Int.tmod fr 1000)) (↑(l.length) : Int)) * 17 + 9) U6, (txsc l).getD (Int.toNat (Int.tmod (IntKind.wrap IntKind.i64 ((↑i : Int) + Int.tmod fr 1000)) (↑(l.length) : Int)) * 17 + 10) U6, (txsc l).getD (Int.toNat (Int.tmod (IntKind.wrap IntKind.i64 ((↑i : Int) + Int.tmod fr 1000)) (↑(l.length) : Int)) * 17 + 11) U6, (txsc l).getD (Int.toNat (Int.tmod (IntKind.wrap IntKind.i64 ((↑i : Int) + Int.tmod fr 1000)) (↑(l.length) : Int)) * 17 + 12) U6, (txsc l).getD (Int.toNat (Int.tmod (IntKind.wrap IntKind.i64 ((↑i : Int) + Int.tmod fr 1000)) (↑(l.length) : Int)) * 17 + 13) U6, (txsc l).getD (Int.toNat (Int.tmod (IntKind.wrap IntKind.i64 ((↑i : Int) + Int.tmod fr 1000)) (↑(l.length) : Int)) * 17 + 14) U6, (txsc l).getD (Int.toNat (Int.tmod (IntKind.wrap IntKind.i64 ((↑i : Int) + Int.tmod fr 1000)) (↑(l.length) : Int)) * 17 + 15) U6, (txsc l).getD (Int.toNat (Int.tmod (IntKind.wrap IntKind.i64 ((↑i : Int) + Int.tmod fr 1000)) (↑(l.length) : Int)) * 17 + 16) AVal.undef]] ⟨[.sl (txsc l) (l.length) .any, (I6 fr), U6, U6, (B6 false), .ptr 0 0, .sl (txsc (wC (rot l (rf fr)) i)) ((wC (rot l (rf fr)) i).length) kd, (I6 (↑((aC (rot l (rf fr)) i).length) : Int)), (I6 i)] ++ UU 31 ++ [(B6 (decide ((↑i : Int) < (↑(l.length) : Int)))), U6, U6, U6, .agg [(I6 (vC (rot l (rf fr)) i 0)), (I6 (vC (rot l (rf fr)) i 1)), (I6 (vC (rot l (rf fr)) i 2)), (I6 (vC (rot l (rf fr)) i 3)), (I6 (vC (rot l (rf fr)) i 4)), (I6 (vC (rot l (rf fr)) i 5)), (I6 (vC (rot l (rf fr)) i 6)), (I6 (vC (rot l (rf fr)) i 7)), (I6 (vC (rot l (rf fr)) i 8)), (I6 (vC (rot l (rf fr)) i 9)), (I6 (vC (rot l (rf fr)) i 10)), (I6 (vC (rot l (rf fr)) i 11)), (I6 (vC (rot l (rf fr)) i 12))], .sl (txsc (wC (rot l (rf fr)) i)) ((wC (rot l (rf fr)) i).length) kd, .sl (txsc l) (l.length) .any, (I6 i), (I6 fr), (I6 (Int.tmod fr 1000)), (I6 (IntKind.wrap IntKind.i64 ((↑i : Int) + Int.tmod fr 1000))), .sl (txsc l) (l.length) .any, (I6 (↑(l.length) : Int)), (I6 (Int.tmod (IntKind.wrap IntKind.i64 ((↑i : Int) + Int.tmod fr 1000)) (↑(l.length) : Int))), .dptr [(txsc l).getD (Int.toNat (Int.tmod (IntKind.wrap IntKind.i64 ((↑i : Int) + Int.tmod fr 1000)) (↑(l.length) : Int)) * 17 + 0) U6, (txsc l).getD (Int.toNat (Int.tmod (IntKind.wrap IntKind.i64 ((↑i : Int) + Int.tmod fr 1000)) (↑(l.length) : Int)) * 17 + 1) U6, (txsc l).getD (Int.toNat (Int.tmod (IntKind.wrap IntKind.i64 ((↑i : Int) + Int.tmod fr 1000)) (↑(l.length) : Int)) * 17 + 2) U6, (txsc l).getD (Int.toNat (Int.tmod (IntKind.wrap IntKind.i64 ((↑i : Int) + Int.tmod fr 1000)) (↑(l.length) : Int)) * 17 + 3) U6, (txsc l).getD (Int.toNat (Int.tmod (IntKind.wrap IntKind.i64 ((↑i : Int) + Int.tmod fr 1000)) (↑(l.length) : Int)) * 17 + 4) U6, (txsc l).getD (Int.toNat (Int.tmod (IntKind.wrap IntKind.i64 ((↑i : Int) + Int.tmod fr 1000)) (↑(l.length) : Int)) * 17 + 5) U6, (txsc l).getD (Int.toNat (Int.tmod (IntKind.wrap IntKind.i64 ((↑i : Int) + Int.tmod fr 1000)) (↑(l.length) : Int)) * 17 + 6) U6, (txsc l).getD (Int.toNat (Int.tmod (IntKind.wrap IntKind.i64 ((↑i : Int) + Int.tmod fr 1000)) (↑(l.length) : Int)) * 17 + 7) U6, (txsc l).getD (Int.toNat (Int.tmod (IntKind.wrap IntKind.i64 ((↑i : Int) + Int.tmod fr 1000)) (↑(l.length) : Int)) * 17 + 8) U6, (txsc l).getD (Int.toNat (Int.tmod (IntKind.wrap IntKind.i64 ((↑i : Int) + Int.tmod fr 1000)) (↑(l.length) : Int)) * 17 + 9) U6, (txsc l).getD (Int.toNat (Int.tmod (IntKind.wrap IntKind.i64 ((↑i : Int) + Int.tmod fr 1000)) (↑(l.length) : Int)) * 17 + 10) U6, (txsc l).getD (Int.toNat (Int.tmod (IntKind.wrap IntKind.i64 ((↑i : Int) + Int.tmod fr 1000)) (↑(l.length) : Int)) * 17 + 11) U6, (txsc l).getD (Int.toNat (Int.tmod (IntKind.wrap IntKind.i64 ((↑i : Int) + Int.tmod fr 1000)) (↑(l.length) : Int)) * 17 + 12) U6, (txsc l).getD (Int.toNat (Int.tmod (IntKind.wrap IntKind.i64 ((↑i : Int) + Int.tmod fr 1000)) (↑(l.length) : Int)) * 17 + 13) U6, (txsc l).getD (Int.toNat (Int.tmod (IntKind.wrap IntKind.i64 ((↑i : Int) + Int.tmod fr 1000)) (↑(l.length) : Int)) * 17 + 14) U6, (txsc l).getD (Int.toNat (Int.tmod (IntKind.wrap IntKind.i64 ((↑i : Int) + Int.tmod fr 1000)) (↑(l.length) : Int)) * 17 + 15) U6, (txsc l).getD (Int.toNat (Int.tmod (IntKind.wrap IntKind.i64 ((↑i : Int) + Int.tmod fr 1000)) (↑(l.length) : Int)) * 17 + 16) AVal.undef], .agg [(txsc l).getD (Int.toNat (Int.tmod (IntKind.wrap IntKind.i64 ((↑i : Int) + Int.tmod fr 1000)) (↑(l.length) : Int)) * 17 + 0) U6, (txsc l).getD (Int.toNat (Int.tmod (IntKind.wrap IntKind.i64 ((↑i : Int) + Int.tmod fr 1000)) (↑(l.length) : Int)) * 17 + 1) U6, (txsc l).getD (Int.toNat (Int.tmod (IntKind.wrap IntKind.i64 ((↑i : Int) + Int.tmod fr 1000)) (↑(l.length) : Int)) * 17 + 2) U6, (txsc l).getD (Int.toNat (Int.tmod (IntKind.wrap IntKind.i64 ((↑i : Int) + Int.tmod fr 1000)) (↑(l.length) : Int)) * 17 + 3) U6, (txsc l).getD (Int.toNat (Int.tmod (IntKind.wrap IntKind.i64 ((↑i : Int) + Int.tmod fr 1000)) (↑(l.length) : Int)) * 17 + 4) U6, (txsc l).getD (Int.toNat (Int.tmod (IntKind.wrap IntKind.i64 ((↑i : Int) + Int.tmod fr 1000)) (↑(l.length) : Int)) * 17 + 5) U6, (txsc l).getD (Int.toNat (Int.tmod (IntKind.wrap IntKind.i64 ((↑i : Int) + Int.tmod fr 1000)) (↑(l.length) : Int)) * 17 + 6) U6, (txsc l).getD (Int.toNat (Int.tmod (IntKind.wrap IntKind.i64 ((↑i : Int) + Int.tmod fr 1000)) (↑(l.length) : Int)) * 17 + 7) U6, (txsc l).getD (Int.toNat (Int.tmod (IntKind.wrap IntKind.i64 ((↑i : Int) + Int.tmod fr 1000)) (↑(l.length) : Int)) * 17 + 8) U6, (txsc l).getD (Int.toNat (Int.tmod (IntKind.wrap IntKind.i64 ((↑i : Int) + Int.tmod fr 1000)) (↑(l.length) : Int)) * 17 + 9) U6, (txsc l).getD (Int.toNat (Int.tmod (IntKind.wrap IntKind.i64 ((↑i : Int) + Int.tmod fr 1000)) (↑(l.length) : Int)) * 17 + 10) U6, (txsc l).getD (Int.toNat (Int.tmod (IntKind.wrap IntKind.i64 ((↑i : Int) + Int.tmod fr 1000)) (↑(l.length) : Int)) * 17 + 11) U6, (txsc l).getD (Int.toNat (Int.tmod (IntKind.wrap IntKind.i64 ((↑i : Int) + Int.tmod fr 1000)) (↑(l.length) : Int)) * 17 + 12) U6, (txsc l).getD (Int.toNat (Int.tmod (IntKind.wrap IntKind.i64 ((↑i : Int) + Int.tmod fr 1000)) (↑(l.length) : Int)) * 17 + 13) U6, (txsc l).getD (Int.toNat (Int.tmod (IntKind.wrap IntKind.i64 ((↑i : Int) + Int.tmod fr 1000)) (↑(l.length) : Int)) * 17 + 14) U6, (txsc l).getD (Int.toNat (Int.tmod (IntKind.wrap IntKind.i64 ((↑i : Int) + Int.tmod fr 1000)) (↑(l.length) : Int)) * 17 + 15) U6, (txsc l).getD (Int.toNat (Int.tmod (IntKind.wrap IntKind.i64 ((↑i : Int) + Int.tmod fr 1000)) (↑(l.length) : Int)) * 17 + 16) AVal.undef]] ++ UU 30, [⟨[(I6 (vC (rot l (rf fr)) i 0)), (I6 (vC (rot l (rf fr)) i 1)), (I6 (vC (rot l (rf fr)) i 2)), (I6 (vC (rot l (rf fr)) i 3)), (I6 (vC (rot l (rf fr)) i 4)), (I6 (vC (rot l (rf fr)) i 5)), (I6 (vC (rot l (rf fr)) i 6)), (I6 (vC (rot l (rf fr)) i 7)), (I6 (vC (rot l (rf fr)) i 8)), (I6 (vC (rot l (rf fr)) i 9)), (I6 (vC (rot l (rf fr)) i 10)), (I6 (vC (rot l (rf fr)) i 11)), (I6 (vC (rot l (rf fr)) i 12))], 1, .fresh⟩]⟩ (by intro ext; kernel_rfl) (by kernel_rfl) ⟨(by omega), ⟨trivial, ⟨trivial, ⟨trivial, ⟨trivial, ⟨(by omega), ⟨trivial, ⟨trivial, ⟨trivial, ⟨(by omega), ⟨⟨⟨(by (exact (ixs l fr i (by omega) (by omega) h32).1)), (by (exact (ixs l fr i (by omega) (by omega) h32).2.1))⟩, (by (exact (ixs l fr i (by omega) (by omega) h32).2.2))⟩, ⟨(by omega), trivial⟩⟩⟩⟩⟩⟩⟩⟩⟩⟩⟩⟩ ?_
          rw [IntWalk.i64_in ((↑i : Int) + Int.tmod fr 1000) (by omega)]
          rw [Nat.add_zero (Int.toNat (Int.tmod ((↑i : Int) + Int.tmod fr 1000) (↑(l.length) : Int)) * 17)]
          rw [Go.Ord.tmod_ix (l) (fr) (i) (by omega)]
          rw [Int.toNat_natCast (ix l (rf fr) i)]
          rw [Go.Ord.txs_cells (l) (ix l (rf fr) i) (by (exact hlt _ (by omega)))]
          refine DerX.callEI (offA (r := rf fr) hc h32 i (by omega)) ⟨by kernel_rfl, by kernel_rfl⟩ ?_
          refine DerX.preI 5 ((True) ∧ ((True) ∧ ((True) ∧ ((True) ∧ ((True) ∧ (True)))))) (by intro ext; kernel_rfl) ⟨trivial, ⟨trivial, ⟨trivial, ⟨trivial, ⟨trivial, trivial⟩⟩⟩⟩⟩ ?_
          refine DerX.nil ?_
          refine AWP.seq (AWP.seq (KL ([40] ++ NN 43 16) ⟨[.sl (txsc l) (l.length) .any, (I6 fr), U6, U6, (B6 false), .ptr 0 0, .sl (txsc (wC (rot l (rf fr)) i)) ((wC (rot l (rf fr)) i).length) kd, (I6 (↑((aC (rot l (rf fr)) i).length) : Int)), (I6 i), .sl (txsc (Mc (rot l (rf fr)) i)) ((Mc (rot l (rf fr)) i).length) .any, (I6 0)] ++ UU 75, [⟨[(I6 (vC (rot l (rf fr)) i 0)), (I6 (vC (rot l (rf fr)) i 1)), (I6 (vC (rot l (rf fr)) i 2)), (I6 (vC (rot l (rf fr)) i 3)), (I6 (vC (rot l (rf fr)) i 4)), (I6 (vC (rot l (rf fr)) i 5)), (I6 (vC (rot l (rf fr)) i 6)), (I6 (vC (rot l (rf fr)) i 7)), (I6 (vC (rot l (rf fr)) i 8)), (I6 (vC (rot l (rf fr)) i 9)), (I6 (vC (rot l (rf fr)) i 10)), (I6 (vC (rot l (rf fr)) i 11)), (I6 (vC (rot l (rf fr)) i 12))], 1, .fresh⟩]⟩ ?_))
          refine AWP.reg (RT 2 ?_)
          refine KL [10, 59] ⟨[.sl (txsc l) (l.length) .any, (I6 fr), U6, U6, (B6 false), .ptr 0 0, .sl (txsc (wC (rot l (rf fr)) i)) ((wC (rot l (rf fr)) i).length) kd, (I6 (↑((aC (rot l (rf fr)) i).length) : Int)), (I6 i), .sl (txsc (Mc (rot l (rf fr)) i)) ((Mc (rot l (rf fr)) i).length) .any] ++ UU 50 ++ [(B6 false)] ++ UU 25, [⟨[(I6 (vC (rot l (rf fr)) i 0)), (I6 (vC (rot l (rf fr)) i 1)), (I6 (vC (rot l (rf fr)) i 2)), (I6 (vC (rot l (rf fr)) i 3)), (I6 (vC (rot l (rf fr)) i 4)), (I6 (vC (rot l (rf fr)) i 5)), (I6 (vC (rot l (rf fr)) i 6)), (I6 (vC (rot l (rf fr)) i 7)), (I6 (vC (rot l (rf fr)) i 8)), (I6 (vC (rot l (rf fr)) i 9)), (I6 (vC (rot l (rf fr)) i 10)), (I6 (vC (rot l (rf fr)) i 11)), (I6 (vC (rot l (rf fr)) i 12))], 1, .fresh⟩]⟩ ?_
          refine CN false (fun h => nomatch h) (fun _ => ?_)
          refine AWP.skip (SQ (PI 2 (13 ≤ 13 ∧ True ∧ True) ⟨(by omega), trivial, trivial⟩ ?_))
          refine CD (drA (r := rf fr) hc h32 hts i (by omega)) ?_
          refine RI (True ∧ True ∧ True ∧ True ∧ True ∧ True ∧ True ∧ 13 ≤ 13 ∧ True) ⟨trivial, trivial, trivial, trivial, trivial, trivial, trivial, (by omega), trivial⟩ ?_
          refine AWP.seq (KL ([9] ++ NN 60 8) ⟨[.sl (txsc l) (l.length) .any, (I6 fr), U6, U6, (B6 false), .ptr 0 0, .sl (txsc (wC (rot l (rf fr)) i)) ((wC (rot l (rf fr)) i).length) kd, (I6 (↑((aC (rot l (rf fr)) i).length) : Int)), (I6 i), U6, U6, .sl (txsc (Gc (rot l (rf fr)) i)) ((Gc (rot l (rf fr)) i).length) .any, .sl (txsc (wY (rot l (rf fr)) i)) ((wY (rot l (rf fr)) i).length) .any, .ptr 1 0] ++ UU 72, [⟨[(I6 (vC (rot l (rf fr)) i 0)), (I6 (vC (rot l (rf fr)) i 1)), (I6 (vC (rot l (rf fr)) i 2)), (I6 (vC (rot l (rf fr)) i 3)), (I6 (vC (rot l (rf fr)) i 4)), (I6 (vC (rot l (rf fr)) i 5)), (I6 (vC (rot l (rf fr)) i 6)), (I6 (vC (rot l (rf fr)) i 7)), (I6 (vC (rot l (rf fr)) i 8)), (I6 (vC (rot l (rf fr)) i 9)), (I6 (vC (rot l (rf fr)) i 10)), (I6 (vC (rot l (rf fr)) i 11)), (I6 (vC (rot l (rf fr)) i 12))], 1, .fresh⟩, ⟨[(I6 (vY (rot l (rf fr)) i 0)), (I6 (vY (rot l (rf fr)) i 1)), (I6 (vY (rot l (rf fr)) i 2)), (I6 (vY (rot l (rf fr)) i 3)), (I6 (vY (rot l (rf fr)) i 4)), (I6 (vY (rot l (rf fr)) i 5)), (I6 (vY (rot l (rf fr)) i 6)), (I6 (vY (rot l (rf fr)) i 7)), (I6 (vY (rot l (rf fr)) i 8)), (I6 (vY (rot l (rf fr)) i 9)), (I6 (vY (rot l (rf fr)) i 10)), (I6 (vY (rot l (rf fr)) i 11)), (I6 (vY (rot l (rf fr)) i 12))], 1, .fresh⟩]⟩ ?_)
          refine AWP.reg ?_
          refine DerQ.run (TT 5) ⟨[.sl (txsc l) (l.length) .any, (I6 fr), U6, U6, (B6 false), .ptr 0 0, .sl (txsc (wC (rot l (rf fr)) i)) ((wC (rot l (rf fr)) i).length) kd, (I6 (IntKind.wrap IntKind.i64 ((↑((aC (rot l (rf fr)) i).length) : Int) + (↑((Gc (rot l (rf fr)) i).length) : Int)))), (I6 i), U6, U6, .sl (txsc (Gc (rot l (rf fr)) i)) ((Gc (rot l (rf fr)) i).length) .any, .sl (txsc (wY (rot l (rf fr)) i)) ((wY (rot l (rf fr)) i).length) .any, .ptr 1 0] ++ UU 54 ++ [(I6 (↑((aC (rot l (rf fr)) i).length) : Int)), .sl (txsc (Gc (rot l (rf fr)) i)) ((Gc (rot l (rf fr)) i).length) .any, (I6 (↑((Gc (rot l (rf fr)) i).length) : Int)), (I6 (IntKind.wrap IntKind.i64 ((↑((aC (rot l (rf fr)) i).length) : Int) + (↑((Gc (rot l (rf fr)) i).length) : Int))))] ++ UU 14, [⟨[(I6 (vC (rot l (rf fr)) i 0)), (I6 (vC (rot l (rf fr)) i 1)), (I6 (vC (rot l (rf fr)) i 2)), (I6 (vC (rot l (rf fr)) i 3)), (I6 (vC (rot l (rf fr)) i 4)), (I6 (vC (rot l (rf fr)) i 5)), (I6 (vC (rot l (rf fr)) i 6)), (I6 (vC (rot l (rf fr)) i 7)), (I6 (vC (rot l (rf fr)) i 8)), (I6 (vC (rot l (rf fr)) i 9)), (I6 (vC (rot l (rf fr)) i 10)), (I6 (vC (rot l (rf fr)) i 11)), (I6 (vC (rot l (rf fr)) i 12))], 1, .fresh⟩, ⟨[(I6 (vY (rot l (rf fr)) i 0)), (I6 (vY (rot l (rf fr)) i 1)), (I6 (vY (rot l (rf fr)) i 2)), (I6 (vY (rot l (rf fr)) i 3)), (I6 (vY (rot l (rf fr)) i 4)), (I6 (vY (rot l (rf fr)) i 5)), (I6 (vY (rot l (rf fr)) i 6)), (I6 (vY (rot l (rf fr)) i 7)), (I6 (vY (rot l (rf fr)) i 8)), (I6 (vY (rot l (rf fr)) i 9)), (I6 (vY (rot l (rf fr)) i 10)), (I6 (vY (rot l (rf fr)) i 11)), (I6 (vY (rot l (rf fr)) i 12))], 1, .fresh⟩]⟩ (by kernel_rfl) (tt 5) ?_
          rw [IntWalk.i64_in ((↑((aC (rot l (rf fr)) i).length) : Int) + (↑((Gc (rot l (rf fr)) i).length) : Int)) (by omega)]
          refine KL [11, 68, 69, 70, 71] ⟨[.sl (txsc l) (l.length) .any, (I6 fr), U6, U6, (B6 false), .ptr 0 0, .sl (txsc (wC (rot l (rf fr)) i)) ((wC (rot l (rf fr)) i).length) kd, (I6 ((↑((aC (rot l (rf fr)) i).length) : Int) + (↑((Gc (rot l (rf fr)) i).length) : Int))), (I6 i), U6, U6, U6, .sl (txsc (wY (rot l (rf fr)) i)) ((wY (rot l (rf fr)) i).length) .any, .ptr 1 0] ++ UU 72, [⟨[(I6 (vC (rot l (rf fr)) i 0)), (I6 (vC (rot l (rf fr)) i 1)), (I6 (vC (rot l (rf fr)) i 2)), (I6 (vC (rot l (rf fr)) i 3)), (I6 (vC (rot l (rf fr)) i 4)), (I6 (vC (rot l (rf fr)) i 5)), (I6 (vC (rot l (rf fr)) i 6)), (I6 (vC (rot l (rf fr)) i 7)), (I6 (vC (rot l (rf fr)) i 8)), (I6 (vC (rot l (rf fr)) i 9)), (I6 (vC (rot l (rf fr)) i 10)), (I6 (vC (rot l (rf fr)) i 11)), (I6 (vC (rot l (rf fr)) i 12))], 1, .fresh⟩, ⟨[(I6 (vY (rot l (rf fr)) i 0)), (I6 (vY (rot l (rf fr)) i 1)), (I6 (vY (rot l (rf fr)) i 2)), (I6 (vY (rot l (rf fr)) i 3)), (I6 (vY (rot l (rf fr)) i 4)), (I6 (vY (rot l (rf fr)) i 5)), (I6 (vY (rot l (rf fr)) i 6)), (I6 (vY (rot l (rf fr)) i 7)), (I6 (vY (rot l (rf fr)) i 8)), (I6 (vY (rot l (rf fr)) i 9)), (I6 (vY (rot l (rf fr)) i 10)), (I6 (vY (rot l (rf fr)) i 11)), (I6 (vY (rot l (rf fr)) i 12))], 1, .fresh⟩]⟩ ?_
          refine AWP.reg (RI (13 ≤ 13 ∧ True ∧ 13 ≤ 13 ∧ True ∧ True) ⟨(by omega), trivial, (by omega), trivial, trivial⟩ ?_)
          refine KL [12, 13, 72, 73] ⟨[.sl (txsc l) (l.length) .any, (I6 fr), U6, U6, (B6 false), .ptr 0 0, .sl (txsc (wY (rot l (rf fr)) i)) ((wY (rot l (rf fr)) i).length) .any, (I6 ((↑((aC (rot l (rf fr)) i).length) : Int) + (↑((Gc (rot l (rf fr)) i).length) : Int))), (I6 i)] ++ UU 77, [⟨[(I6 (vY (rot l (rf fr)) i 0)), (I6 (vY (rot l (rf fr)) i 1)), (I6 (vY (rot l (rf fr)) i 2)), (I6 (vY (rot l (rf fr)) i 3)), (I6 (vY (rot l (rf fr)) i 4)), (I6 (vY (rot l (rf fr)) i 5)), (I6 (vY (rot l (rf fr)) i 6)), (I6 (vY (rot l (rf fr)) i 7)), (I6 (vY (rot l (rf fr)) i 8)), (I6 (vY (rot l (rf fr)) i 9)), (I6 (vY (rot l (rf fr)) i 10)), (I6 (vY (rot l (rf fr)) i 11)), (I6 (vY (rot l (rf fr)) i 12))], 1, .fresh⟩, ⟨[(I6 (vY (rot l (rf fr)) i 0)), (I6 (vY (rot l (rf fr)) i 1)), (I6 (vY (rot l (rf fr)) i 2)), (I6 (vY (rot l (rf fr)) i 3)), (I6 (vY (rot l (rf fr)) i 4)), (I6 (vY (rot l (rf fr)) i 5)), (I6 (vY (rot l (rf fr)) i 6)), (I6 (vY (rot l (rf fr)) i 7)), (I6 (vY (rot l (rf fr)) i 8)), (I6 (vY (rot l (rf fr)) i 9)), (I6 (vY (rot l (rf fr)) i 10)), (I6 (vY (rot l (rf fr)) i 11)), (I6 (vY (rot l (rf fr)) i 12))], 1, .fresh⟩]⟩ ?_
          refine AWP.reg ?_
          refine DerQ.run (TT 3) ⟨[.sl (txsc l) (l.length) .any, (I6 fr), U6, U6, (B6 false), .ptr 0 0, .sl (txsc (wY (rot l (rf fr)) i)) ((wY (rot l (rf fr)) i).length) .any, (I6 ((↑((aC (rot l (rf fr)) i).length) : Int) + (↑((Gc (rot l (rf fr)) i).length) : Int))), (I6 (IntKind.wrap IntKind.i64 ((↑i : Int) + 1)))] ++ UU 32 ++ [(I6 i), (I6 (IntKind.wrap IntKind.i64 ((↑i : Int) + 1)))] ++ UU 43, [⟨[(I6 (vY (rot l (rf fr)) i 0)), (I6 (vY (rot l (rf fr)) i 1)), (I6 (vY (rot l (rf fr)) i 2)), (I6 (vY (rot l (rf fr)) i 3)), (I6 (vY (rot l (rf fr)) i 4)), (I6 (vY (rot l (rf fr)) i 5)), (I6 (vY (rot l (rf fr)) i 6)), (I6 (vY (rot l (rf fr)) i 7)), (I6 (vY (rot l (rf fr)) i 8)), (I6 (vY (rot l (rf fr)) i 9)), (I6 (vY (rot l (rf fr)) i 10)), (I6 (vY (rot l (rf fr)) i 11)), (I6 (vY (rot l (rf fr)) i 12))], 1, .fresh⟩, ⟨[(I6 (vY (rot l (rf fr)) i 0)), (I6 (vY (rot l (rf fr)) i 1)), (I6 (vY (rot l (rf fr)) i 2)), (I6 (vY (rot l (rf fr)) i 3)), (I6 (vY (rot l (rf fr)) i 4)), (I6 (vY (rot l (rf fr)) i 5)), (I6 (vY (rot l (rf fr)) i 6)), (I6 (vY (rot l (rf fr)) i 7)), (I6 (vY (rot l (rf fr)) i 8)), (I6 (vY (rot l (rf fr)) i 9)), (I6 (vY (rot l (rf fr)) i 10)), (I6 (vY (rot l (rf fr)) i 11)), (I6 (vY (rot l (rf fr)) i 12))], 1, .fresh⟩]⟩ (by kernel_rfl) (tt 3) ?_
          rw [IntWalk.i64_in ((↑i : Int) + 1) (by omega)]
          (exact ⟨_, by omega, _, Weak.cutW (rows2 := [⟨vce (vY (rot l (rf fr)) i), 1, .fresh⟩]) 1 (by kernel_rfl) (by simp) (by kernel_rfl) (WfRows.of (by intro r hr; rw [List.mem_singleton] at hr; subst hr; simp [vce, ltAll, AVal.refLt])), i + 1, .any, rfl, by omega, by rw [Y_int]; kernel_rfl⟩; done)
        · have h4' := of_decide_eq_false h4
          refine AWP.exit ?_
          refine AWP.seq (KL [1, 5, 8, 40] ⟨[.sl (txsc l) (l.length) .any, U6, U6, U6, (B6 false), U6, .sl (txsc (wC (rot l (rf fr)) i)) ((wC (rot l (rf fr)) i).length) kd, (I6 (↑((aC (rot l (rf fr)) i).length) : Int))] ++ UU 78, [⟨[(I6 (vC (rot l (rf fr)) i 0)), (I6 (vC (rot l (rf fr)) i 1)), (I6 (vC (rot l (rf fr)) i 2)), (I6 (vC (rot l (rf fr)) i 3)), (I6 (vC (rot l (rf fr)) i 4)), (I6 (vC (rot l (rf fr)) i 5)), (I6 (vC (rot l (rf fr)) i 6)), (I6 (vC (rot l (rf fr)) i 7)), (I6 (vC (rot l (rf fr)) i 8)), (I6 (vC (rot l (rf fr)) i 9)), (I6 (vC (rot l (rf fr)) i 10)), (I6 (vC (rot l (rf fr)) i 11)), (I6 (vC (rot l (rf fr)) i 12))], 1, .fresh⟩]⟩ ?_)
          refine AWP.reg (PT 5 5 ?_)
          refine DerQ.to ⟨[.sl (txsc l) (l.length) .any, U6, U6, U6, (B6 false), U6, .sl (txsc (wC (rot l (rf fr)) i)) ((wC (rot l (rf fr)) i).length) kd, (I6 (↑((aC (rot l (rf fr)) i).length) : Int))] ++ UU 66 ++ [(I6 (↑((aC (rot l (rf fr)) i).length) : Int)), .sl (txsc l) (l.length) .any, (I6 (↑(l.length) : Int)), (B6 ((↑((aC (rot l (rf fr)) i).length) : Int) == (↑(l.length) : Int))), (B6 ((↑((aC (rot l (rf fr)) i).length) : Int) == (↑(l.length) : Int)))] ++ UU 7, [⟨[(I6 (vC (rot l (rf fr)) i 0)), (I6 (vC (rot l (rf fr)) i 1)), (I6 (vC (rot l (rf fr)) i 2)), (I6 (vC (rot l (rf fr)) i 3)), (I6 (vC (rot l (rf fr)) i 4)), (I6 (vC (rot l (rf fr)) i 5)), (I6 (vC (rot l (rf fr)) i 6)), (I6 (vC (rot l (rf fr)) i 7)), (I6 (vC (rot l (rf fr)) i 8)), (I6 (vC (rot l (rf fr)) i 9)), (I6 (vC (rot l (rf fr)) i 10)), (I6 (vC (rot l (rf fr)) i 11)), (I6 (vC (rot l (rf fr)) i 12))], 1, .fresh⟩]⟩ (by kernel_rfl) ?_
          cases h5 : ((↑((aC (rot l (rf fr)) i).length) : Int) == (↑(l.length) : Int))
          · have h5' := ne_of_beq_false h5
            exfalso; omega
          · have h5' := eq_of_beq h5
            refine PT 5 5 ?_
            refine DerQ.to ⟨[.sl (txsc l) (l.length) .any, U6, U6, U6, (B6 false), U6, .sl (txsc (wC (rot l (rf fr)) i)) ((wC (rot l (rf fr)) i).length) kd, (I6 (↑((aC (rot l (rf fr)) i).length) : Int))] ++ UU 66 ++ [(I6 (↑((aC (rot l (rf fr)) i).length) : Int)), .sl (txsc l) (l.length) .any, (I6 (↑(l.length) : Int)), (B6 true), (B6 true), .sl (txsc (wC (rot l (rf fr)) i)) ((wC (rot l (rf fr)) i).length) kd, (I6 (↑((wC (rot l (rf fr)) i).length) : Int)), (B6 ((↑((wC (rot l (rf fr)) i).length) : Int) == 0)), (B6 ((↑((wC (rot l (rf fr)) i).length) : Int) == 0)), (B6 ((↑((wC (rot l (rf fr)) i).length) : Int) == 0)), U6, .undef], [⟨[(I6 (vC (rot l (rf fr)) i 0)), (I6 (vC (rot l (rf fr)) i 1)), (I6 (vC (rot l (rf fr)) i 2)), (I6 (vC (rot l (rf fr)) i 3)), (I6 (vC (rot l (rf fr)) i 4)), (I6 (vC (rot l (rf fr)) i 5)), (I6 (vC (rot l (rf fr)) i 6)), (I6 (vC (rot l (rf fr)) i 7)), (I6 (vC (rot l (rf fr)) i 8)), (I6 (vC (rot l (rf fr)) i 9)), (I6 (vC (rot l (rf fr)) i 10)), (I6 (vC (rot l (rf fr)) i 11)), (I6 (vC (rot l (rf fr)) i 12))], 1, .fresh⟩]⟩ (by kernel_rfl) ?_
            cases h6 : ((↑((wC (rot l (rf fr)) i).length) : Int) == 0)
            · have h6' := ne_of_beq_false h6
              exfalso; omega
            · have h6' := eq_of_beq h6
              refine CD (heads) ?_
              refine RT 2 ?_
              refine AWP.ret FA
      · have h3' := of_decide_eq_true h3
        exfalso; omega
    · have h2' := eq_of_beq h2
      exfalso; omega
  · have h1' := of_decide_eq_true h1
    exfalso; omega
end Go.Ord
