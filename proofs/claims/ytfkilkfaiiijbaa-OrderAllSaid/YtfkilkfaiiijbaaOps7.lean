/- Walks and laws. -/
import Derived.Test.YtfkilkfaiiijbaaOps6
import Derived.Test.YtfkilkfaiiijbaaLibC
set_option maxRecDepth 100000
set_option maxHeartbeats 0
set_option linter.unusedSimpArgs false
set_option linter.unusedVariables false
namespace Go.Ops
open Go Go.Abs Go.Proofs
def opOk (o : OpD) : Prop := opP o.k o.inner o.a o.n o.p o.s o.i o.key o.f o.t
instance (o : OpD) : Decidable (opOk o) := by unfold opOk; infer_instance
/-- the i-th op may be there -/
def itemP (t : TxD) (o : OpD) (i : Nat) : Prop := opOk o ∧ ((o.p = 0 ∧ o.s = 0 ∧ o.i = 0) ∨ befP o.p o.s o.i t ((i : Int) + 1))
instance (t : TxD) (o : OpD) (i : Nat) : Decidable (itemP t o i) := by unfold itemP; infer_instance
def restP (t : TxD) : Prop := t.ops.length ≤ 16 ∧ (1 ≤ t.time ∧ t.time ≤ 1099511627776) ∧ chkP t.v ∧ ∀ i, i < t.ops.length → itemP t (t.ops.getD i op0) i
instance (t : TxD) : Decidable (restP t) := by unfold restP; infer_instance
theorem o_op' (o : OpD) : EvD Try.prog 22 [.agg (opc o)] (.sc (.bool (decide (opOk o)))) := o_op o.k o.inner o.a o.n o.p o.s o.i o.key o.f o.t
theorem r_op' (o : OpD) : EvD Try.prog 23 [.agg (opc o)] (.sc (.bool (decide (opOk o)))) := r_op o.k o.inner o.a o.n o.p o.s o.i o.key o.f o.t
theorem rest_no (t : TxD) (i : Nat) (hi : i < t.ops.length) (h : ¬ itemP t (t.ops.getD i op0) i) : AVal.sc (.bool false) = .sc (.bool (decide (restP t))) := by
  have : decide (restP t) = false := decide_eq_false_iff_not.2 fun hc => h (hc.2.2.2 i hi)
  rw [this]
theorem rest_no' (t : TxD) (h : ¬ (t.ops.length ≤ 16 ∧ (1 ≤ t.time ∧ t.time ≤ 1099511627776) ∧ chkP t.v)) : AVal.sc (.bool false) = .sc (.bool (decide (restP t))) := by
  have : decide (restP t) = false := decide_eq_false_iff_not.2 fun hc => h ⟨hc.1, hc.2.1, hc.2.2.1⟩
  rw [this]
theorem rest_yes (t : TxD) (h1 : t.ops.length ≤ 16) (h2 : 1 ≤ t.time ∧ t.time ≤ 1099511627776) (h3 : chkP t.v) (h : ∀ j, j < t.ops.length → itemP t (t.ops.getD j op0) j) : AVal.sc (.bool true) = .sc (.bool (decide (restP t))) := by
  have : decide (restP t) = true := decide_eq_true_iff.2 ⟨h1, h2, h3, h⟩
  rw [this]
theorem item_succ {t : TxD} {i : Nat} (hd : ∀ j, j < i → itemP t (t.ops.getD j op0) j) (h : itemP t (t.ops.getD i op0) i) : ∀ j, j < i + 1 → itemP t (t.ops.getD j op0) j := by
  intro j hj
  by_cases e : j = i
  · subst e; exact h
  · exact hd j (by omega)
theorem o_rest (g : Gate) (t : TxD) : EvD Try.prog 67 [.agg (txc g t)] (.sc (.bool (decide (restP t)))) := by
  refine EvD.body Try.func67 rfl (by simp [dataAll, AVal.data]) rfl ?_
  refine AWP.seq ?_
  refine TO ⟨[.agg (txc g t)] ++ UU 51, []⟩ ?_
  refine AWP.reg (RT 2 ?_)
  refine AWP.seq (AWP.seq (KL [0] ⟨[U6, .ptr 0 0, (B6 false)] ++ UU 49, [⟨txc g t, 17, .fresh⟩]⟩ ?_))
  refine AWP.reg ?_
  refine DerQ.pre 2 (True ∧ (16 < (txc g t).length) ∧ True) ⟨[U6, .ptr 0 0, (B6 false), U6, U6, .ptr 0 16, (txc g t).getD 16 AVal.undef] ++ UU 45, [⟨txc g t, 17, .fresh⟩]⟩ (by kernel_rfl) ⟨trivial, (by simp), trivial⟩ ?_
  rw [Go.Ops.tx_16 (g) (t)]
  refine PT 3 3 ?_
  refine DerQ.to ⟨[U6, .ptr 0 0, (B6 false), U6, U6, .ptr 0 16, .sl (opsc t.ops) (t.ops.length) .any, (I6 (↑(t.ops.length) : Int)), (B6 (decide ((↑(t.ops.length) : Int) > 16))), (B6 (decide ((↑(t.ops.length) : Int) > 16)))] ++ UU 42, [⟨txc g t, 17, .fresh⟩]⟩ (by kernel_rfl) ?_
  cases h1 : (decide ((↑(t.ops.length) : Int) > 16))
  · have h1' := of_decide_eq_false h1
    refine DerQ.pre 2 (True ∧ (15 < (txc g t).length) ∧ True) ⟨[U6, .ptr 0 0, (B6 false), U6, U6, .ptr 0 16, .sl (opsc t.ops) (t.ops.length) .any, (I6 (↑(t.ops.length) : Int)), (B6 false), (B6 false), .ptr 0 15, (txc g t).getD 15 AVal.undef] ++ UU 40, [⟨txc g t, 17, .fresh⟩]⟩ (by kernel_rfl) ⟨trivial, (by simp), trivial⟩ ?_
    rw [Go.Ops.tx_15 (g) (t)]
    refine PT 3 3 ?_
    refine DerQ.to ⟨[U6, .ptr 0 0, (B6 false), U6, U6, .ptr 0 16, .sl (opsc t.ops) (t.ops.length) .any, (I6 (↑(t.ops.length) : Int)), (B6 false), (B6 false), .ptr 0 15, (I6 (t.time)), (B6 (decide (t.time < 1))), (B6 (decide (t.time < 1))), (B6 (decide (t.time < 1)))] ++ UU 37, [⟨txc g t, 17, .fresh⟩]⟩ (by kernel_rfl) ?_
    cases h2 : (decide (t.time < 1))
    · have h2' := of_decide_eq_false h2
      refine DerQ.pre 2 (True ∧ (15 < (txc g t).length) ∧ True) ⟨[U6, .ptr 0 0, (B6 false), U6, U6, .ptr 0 16, .sl (opsc t.ops) (t.ops.length) .any, (I6 (↑(t.ops.length) : Int)), (B6 false), (B6 false), .ptr 0 15, (I6 (t.time)), (B6 false), (B6 false), (B6 false), .ptr 0 15, (txc g t).getD 15 AVal.undef] ++ UU 35, [⟨txc g t, 17, .fresh⟩]⟩ (by kernel_rfl) ⟨trivial, (by simp), trivial⟩ ?_
      rw [Go.Ops.tx_15 (g) (t)]
      refine PT 3 3 ?_
      refine DerQ.to ⟨[U6, .ptr 0 0, (B6 false), U6, U6, .ptr 0 16, .sl (opsc t.ops) (t.ops.length) .any, (I6 (↑(t.ops.length) : Int)), (B6 false), (B6 false), .ptr 0 15, (I6 (t.time)), (B6 false), (B6 false), (B6 false), .ptr 0 15, (I6 (t.time)), (B6 (decide (t.time > 1099511627776))), (B6 (decide (t.time > 1099511627776))), (B6 (decide (t.time > 1099511627776)))] ++ UU 32, [⟨txc g t, 17, .fresh⟩]⟩ (by kernel_rfl) ?_
      cases h3 : (decide (t.time > 1099511627776))
      · have h3' := of_decide_eq_false h3
        refine DerQ.pre 2 (True ∧ (15 ≤ (txc g t).length) ∧ True) ⟨[U6, .ptr 0 0, (B6 false), U6, U6, .ptr 0 16, .sl (opsc t.ops) (t.ops.length) .any, (I6 (↑(t.ops.length) : Int)), (B6 false), (B6 false), .ptr 0 15, (I6 (t.time)), (B6 false), (B6 false), (B6 false), .ptr 0 15, (I6 (t.time)), (B6 false), (B6 false), (B6 false), .ptr 0 2, .agg (List.take 13 (List.drop 2 (txc g t)))] ++ UU 30, [⟨txc g t, 17, .fresh⟩]⟩ (by kernel_rfl) ⟨trivial, (by simp), trivial⟩ ?_
        rw [Go.Ops.tx_deps (g) (t)]
        refine CD (v_check g t.v) ?_
        refine RT 2 ?_
        refine KL (NN 5 19) ⟨[U6, .ptr 0 0, (B6 false)] ++ UU 21 ++ [(B6 (!decide (chkP t.v)))] ++ UU 27, [⟨txc g t, 17, .fresh⟩]⟩ ?_
        refine CN (!decide (chkP t.v)) (fun h4 => ?_) (fun h4 => ?_)
        · have h4' := h4
          simp only [Bool.and_eq_true, Bool.and_eq_false_iff, Bool.or_eq_true, Bool.or_eq_false_iff, Bool.not_eq_true', Bool.not_eq_false', beq_iff_eq, beq_eq_false_iff_ne, decide_eq_true_eq, decide_eq_false_iff_not, ne_eq] at h4'
          refine SQ (RT 1 ?_)
          refine AWP.ret ?_
          refine FI (B6 false) ?_
          refine Shrink.all ?_ rfl
          (exact rest_no' t (by grind); done)
        · have h4' := h4
          simp only [Bool.and_eq_true, Bool.and_eq_false_iff, Bool.or_eq_true, Bool.or_eq_false_iff, Bool.not_eq_true', Bool.not_eq_false', beq_iff_eq, beq_eq_false_iff_ne, decide_eq_true_eq, decide_eq_false_iff_not, ne_eq] at h4'
          refine AWP.skip (AWP.seq (SQ ?_))
          refine DerQ.pre 2 (True ∧ (16 < (txc g t).length) ∧ True) ⟨[U6, .ptr 0 0, (B6 false)] ++ UU 21 ++ [(B6 (!decide (chkP t.v))), .ptr 0 16, (txc g t).getD 16 AVal.undef] ++ UU 25, [⟨txc g t, 17, .fresh⟩]⟩ (by kernel_rfl) ⟨trivial, (by simp), trivial⟩ ?_
          rw [Go.Ops.tx_16 (g) (t)]
          refine RT 2 ?_
          refine AWP.block (KL [24, 25] ⟨[U6, .ptr 0 0, (B6 false)] ++ UU 23 ++ [.sl (opsc t.ops) (t.ops.length) .any, (I6 (↑(t.ops.length) : Int)), (I6 0)] ++ UU 23, [⟨txc g t, 17, .fresh⟩]⟩ ?_)
          refine AWP.loopW [false, true, true, false, false, false, false, false, false, false, false, false, false, false, false, false, false, false, false, false, false, false, false, false, false, false, true, true, true, false, false, false, false, false, false, false, false, false, false, false, false, false, false, false, false, false, false, false, false, false, false, false] (fun kk st => ∃ (i : Nat), kk = t.ops.length - i ∧ i ≤ t.ops.length ∧ (∀ j, j < i → itemP t (t.ops.getD j op0) j) ∧ st = ⟨[U6, .ptr 0 0, (B6 false), U6, U6, U6, U6, U6, U6, U6, U6, U6, U6, U6, U6, U6, U6, U6, U6, U6, U6, U6, U6, U6, U6, U6, .sl (opsc t.ops) (t.ops.length) .any, (I6 (↑(t.ops.length) : Int)), (I6 (i : Int)), U6, U6, U6, U6, U6, U6, U6, U6, U6, U6, U6, U6, U6, U6, U6, U6, U6, U6, U6, U6, U6, U6, .undef], [⟨txc g t, 17, .fresh⟩]⟩) _ ⟨0, rfl, by omega, by omega, rfl⟩ ?_
          rintro kk s ⟨i, rfl, hi, hd, rfl⟩
          refine SQ (RT 1 ?_)
          refine AWP.seq ?_
          refine TO ⟨[U6, .ptr 0 0, (B6 false)] ++ UU 23 ++ [.sl (opsc t.ops) (t.ops.length) .any, (I6 (↑(t.ops.length) : Int)), (I6 i), (B6 (decide ((↑i : Int) < (↑(t.ops.length) : Int))))] ++ UU 22, [⟨txc g t, 17, .fresh⟩]⟩ ?_
          refine CN (decide ((↑i : Int) < (↑(t.ops.length) : Int))) (fun h5 => ?_) (fun h5 => ?_)
          · have h5' := of_decide_eq_true h5
            refine AWP.skip (AWP.seq (AWP.block (SQ ?_)))
            refine DerQ.pre 5 (True ∧ (((0 ≤ (↑i : Int)) ∧ ((↑i : Int) < (↑(t.ops.length) : Int))) ∧ (Int.toNat i * 10 + 10 ≤ (opsc t.ops).length)) ∧ 10 ≤ 10 ∧ True ∧ True ∧ True) ⟨[U6, .ptr 0 0, (B6 false), (I6 i), .ptr 1 0] ++ UU 21 ++ [.sl (opsc t.ops) (t.ops.length) .any, (I6 (↑(t.ops.length) : Int)), (I6 i), (B6 (decide ((↑i : Int) < (↑(t.ops.length) : Int)))), (I6 i), .dptr [(opsc t.ops).getD (Int.toNat i * 10 + 0) U6, (opsc t.ops).getD (Int.toNat i * 10 + 1) U6, (opsc t.ops).getD (Int.toNat i * 10 + 2) U6, (opsc t.ops).getD (Int.toNat i * 10 + 3) U6, (opsc t.ops).getD (Int.toNat i * 10 + 4) U6, (opsc t.ops).getD (Int.toNat i * 10 + 5) U6, (opsc t.ops).getD (Int.toNat i * 10 + 6) U6, (opsc t.ops).getD (Int.toNat i * 10 + 7) U6, (opsc t.ops).getD (Int.toNat i * 10 + 8) U6, (opsc t.ops).getD (Int.toNat i * 10 + 9) AVal.undef], .agg [(opsc t.ops).getD (Int.toNat i * 10 + 0) U6, (opsc t.ops).getD (Int.toNat i * 10 + 1) U6, (opsc t.ops).getD (Int.toNat i * 10 + 2) U6, (opsc t.ops).getD (Int.toNat i * 10 + 3) U6, (opsc t.ops).getD (Int.toNat i * 10 + 4) U6, (opsc t.ops).getD (Int.toNat i * 10 + 5) U6, (opsc t.ops).getD (Int.toNat i * 10 + 6) U6, (opsc t.ops).getD (Int.toNat i * 10 + 7) U6, (opsc t.ops).getD (Int.toNat i * 10 + 8) U6, (opsc t.ops).getD (Int.toNat i * 10 + 9) AVal.undef]] ++ UU 19, [⟨txc g t, 17, .fresh⟩, ⟨[(I6 0), (S6 ({ data := #[] })), (S6 ({ data := #[] })), (I6 0), (I6 0), (I6 0), (S6 ({ data := #[] })), (I6 0), (I6 0), (I6 0)], 10, .fresh⟩]⟩ (by kernel_rfl) ⟨trivial, ⟨⟨(by omega), (by omega)⟩, (by (simp [spliceA_length] <;> omega))⟩, (by omega), trivial, trivial, trivial⟩ ?_
            rw [Int.toNat_natCast (i)]
            rw [Nat.add_zero (i * 10)]
            rw [Go.Ops.opsc_cells (t.ops) (i) (by omega)]
            refine RI (10 ≤ 10 ∧ True) ⟨(by omega), trivial⟩ ?_
            refine AWP.seq (KL [29, 30, 31, 32] ⟨[U6, .ptr 0 0, (B6 false), (I6 i), .ptr 1 0] ++ UU 21 ++ [.sl (opsc t.ops) (t.ops.length) .any, (I6 (↑(t.ops.length) : Int)), (I6 i)] ++ UU 23, [⟨txc g t, 17, .fresh⟩, ⟨[(I6 ((t.ops.getD i op0).k)), (S6 ((t.ops.getD i op0).key)), (S6 ((t.ops.getD i op0).f)), (I6 ((t.ops.getD i op0).inner)), (I6 ((t.ops.getD i op0).a)), (I6 ((t.ops.getD i op0).n)), (S6 ((t.ops.getD i op0).t)), (I6 ((t.ops.getD i op0).p)), (I6 ((t.ops.getD i op0).s)), (I6 ((t.ops.getD i op0).i))], 10, .fresh⟩]⟩ ?_)
            refine AWP.reg (PI 1 (10 ≤ 10 ∧ True) ⟨(by omega), trivial⟩ ?_)
            refine CD (o_op' (t.ops.getD i op0)) ?_
            refine PT 2 2 ?_
            refine DerQ.to ⟨[U6, .ptr 0 0, (B6 false), (I6 i), .ptr 1 0] ++ UU 21 ++ [.sl (opsc t.ops) (t.ops.length) .any, (I6 (↑(t.ops.length) : Int)), (I6 i), U6, U6, U6, U6, .agg [(I6 ((t.ops.getD i op0).k)), (S6 ((t.ops.getD i op0).key)), (S6 ((t.ops.getD i op0).f)), (I6 ((t.ops.getD i op0).inner)), (I6 ((t.ops.getD i op0).a)), (I6 ((t.ops.getD i op0).n)), (S6 ((t.ops.getD i op0).t)), (I6 ((t.ops.getD i op0).p)), (I6 ((t.ops.getD i op0).s)), (I6 ((t.ops.getD i op0).i))], (B6 (decide (opOk (t.ops.getD i op0)))), (B6 (!decide (opOk (t.ops.getD i op0)))), (B6 (!decide (opOk (t.ops.getD i op0))))] ++ UU 15, [⟨txc g t, 17, .fresh⟩, ⟨[(I6 ((t.ops.getD i op0).k)), (S6 ((t.ops.getD i op0).key)), (S6 ((t.ops.getD i op0).f)), (I6 ((t.ops.getD i op0).inner)), (I6 ((t.ops.getD i op0).a)), (I6 ((t.ops.getD i op0).n)), (S6 ((t.ops.getD i op0).t)), (I6 ((t.ops.getD i op0).p)), (I6 ((t.ops.getD i op0).s)), (I6 ((t.ops.getD i op0).i))], 10, .fresh⟩]⟩ (by kernel_rfl) ?_
            cases h6 : (!decide (opOk (t.ops.getD i op0)))
            · have h6' := h6
              simp only [Bool.and_eq_true, Bool.and_eq_false_iff, Bool.or_eq_true, Bool.or_eq_false_iff, Bool.not_eq_true', Bool.not_eq_false', beq_iff_eq, beq_eq_false_iff_ne, decide_eq_true_eq, decide_eq_false_iff_not, ne_eq] at h6'
              refine PI 5 (True ∧ 10 ≤ 10 ∧ True ∧ ((((2 : Nat) ≤ (3 : Nat)) ∧ (((2 : Nat) ≤ (3 : Nat)) ∧ ((((0 : Nat) < (2 : Nat)) ∧ (((0 : Nat) < (2 : Nat)) ∧ (True))) ∧ (((1 : Nat) < (2 : Nat)) ∧ (((1 : Nat) < (2 : Nat)) ∧ (True)))))) ∧ (((2 : Nat) < (3 : Nat)) ∧ (((2 : Nat) < (3 : Nat)) ∧ (True)))) ∧ True ∧ True) ⟨trivial, (by omega), trivial, ⟨⟨(by omega), ⟨(by omega), ⟨⟨(by omega), ⟨(by omega), trivial⟩⟩, ⟨(by omega), ⟨(by omega), trivial⟩⟩⟩⟩⟩, ⟨(by omega), ⟨(by omega), trivial⟩⟩⟩, trivial, trivial⟩ ?_
              refine DerQ.to ⟨[U6, .ptr 0 0, (B6 false), (I6 i), .ptr 1 0] ++ UU 21 ++ [.sl (opsc t.ops) (t.ops.length) .any, (I6 (↑(t.ops.length) : Int)), (I6 i), U6, U6, U6, U6, .agg [(I6 ((t.ops.getD i op0).k)), (S6 ((t.ops.getD i op0).key)), (S6 ((t.ops.getD i op0).f)), (I6 ((t.ops.getD i op0).inner)), (I6 ((t.ops.getD i op0).a)), (I6 ((t.ops.getD i op0).n)), (S6 ((t.ops.getD i op0).t)), (I6 ((t.ops.getD i op0).p)), (I6 ((t.ops.getD i op0).s)), (I6 ((t.ops.getD i op0).i))], (B6 (decide (opOk (t.ops.getD i op0)))), (B6 false), (B6 false), .ptr 1 7, .agg [(I6 ((t.ops.getD i op0).p)), (I6 ((t.ops.getD i op0).s)), (I6 ((t.ops.getD i op0).i))], .agg [(I6 0), (I6 0), (I6 0)], (B6 (!((t.ops.getD i op0).p == 0 && (t.ops.getD i op0).s == 0 && (t.ops.getD i op0).i == 0))), (B6 (!((t.ops.getD i op0).p == 0 && (t.ops.getD i op0).s == 0 && (t.ops.getD i op0).i == 0)))] ++ UU 10, [⟨txc g t, 17, .fresh⟩, ⟨[(I6 ((t.ops.getD i op0).k)), (S6 ((t.ops.getD i op0).key)), (S6 ((t.ops.getD i op0).f)), (I6 ((t.ops.getD i op0).inner)), (I6 ((t.ops.getD i op0).a)), (I6 ((t.ops.getD i op0).n)), (S6 ((t.ops.getD i op0).t)), (I6 ((t.ops.getD i op0).p)), (I6 ((t.ops.getD i op0).s)), (I6 ((t.ops.getD i op0).i))], 10, .fresh⟩]⟩ (by kernel_rfl) ?_
              cases h7 : (!((t.ops.getD i op0).p == 0 && (t.ops.getD i op0).s == 0 && (t.ops.getD i op0).i == 0))
              · have h7' := h7
                simp only [Bool.and_eq_true, Bool.and_eq_false_iff, Bool.or_eq_true, Bool.or_eq_false_iff, Bool.not_eq_true', Bool.not_eq_false', beq_iff_eq, beq_eq_false_iff_ne, decide_eq_true_eq, decide_eq_false_iff_not, ne_eq] at h7'
                refine RT 2 ?_
                refine KL ([3, 4] ++ NN 33 17) ⟨[U6, .ptr 0 0, (B6 false)] ++ UU 23 ++ [.sl (opsc t.ops) (t.ops.length) .any, (I6 (↑(t.ops.length) : Int)), (I6 i)] ++ UU 21 ++ [(B6 false), .undef], [⟨txc g t, 17, .fresh⟩, ⟨[(I6 ((t.ops.getD i op0).k)), (S6 ((t.ops.getD i op0).key)), (S6 ((t.ops.getD i op0).f)), (I6 ((t.ops.getD i op0).inner)), (I6 ((t.ops.getD i op0).a)), (I6 ((t.ops.getD i op0).n)), (S6 ((t.ops.getD i op0).t)), (I6 ((t.ops.getD i op0).p)), (I6 ((t.ops.getD i op0).s)), (I6 ((t.ops.getD i op0).i))], 10, .fresh⟩]⟩ ?_
                refine CN false (fun h => nomatch h) (fun _ => ?_)
                refine AWP.skip (AWP.reg ?_)
                refine DerQ.run (TT 2) ⟨[U6, .ptr 0 0, (B6 false)] ++ UU 23 ++ [.sl (opsc t.ops) (t.ops.length) .any, (I6 (↑(t.ops.length) : Int)), (I6 (IntKind.wrap IntKind.i64 ((↑i : Int) + 1)))] ++ UU 21 ++ [(B6 false), (I6 (IntKind.wrap IntKind.i64 ((↑i : Int) + 1)))], [⟨txc g t, 17, .fresh⟩, ⟨[(I6 ((t.ops.getD i op0).k)), (S6 ((t.ops.getD i op0).key)), (S6 ((t.ops.getD i op0).f)), (I6 ((t.ops.getD i op0).inner)), (I6 ((t.ops.getD i op0).a)), (I6 ((t.ops.getD i op0).n)), (S6 ((t.ops.getD i op0).t)), (I6 ((t.ops.getD i op0).p)), (I6 ((t.ops.getD i op0).s)), (I6 ((t.ops.getD i op0).i))], 10, .fresh⟩]⟩ (by kernel_rfl) (tt 2) ?_
                rw [IntWalk.i64_in ((↑i : Int) + 1) (by omega)]
                (exact ⟨_, by omega, _, Weak.cut 1 (by kernel_rfl) (by kernel_rfl) (by simp) (by simp [ltAll, AVal.refLt]) (by simp [dataAll, AVal.data]), i + 1, rfl, by omega, item_succ hd (by unfold itemP; grind), rfl⟩; done)
              · have h7' := h7
                simp only [Bool.and_eq_true, Bool.and_eq_false_iff, Bool.or_eq_true, Bool.or_eq_false_iff, Bool.not_eq_true', Bool.not_eq_false', beq_iff_eq, beq_eq_false_iff_ne, decide_eq_true_eq, decide_eq_false_iff_not, ne_eq] at h7'
                refine DerQ.pre 5 (True ∧ 10 ≤ 10 ∧ (17 ≤ (txc g t).length) ∧ True ∧ True ∧ True) ⟨[U6, .ptr 0 0, (B6 false), (I6 i), .ptr 1 0] ++ UU 21 ++ [.sl (opsc t.ops) (t.ops.length) .any, (I6 (↑(t.ops.length) : Int)), (I6 i), U6, U6, U6, U6, .agg [(I6 ((t.ops.getD i op0).k)), (S6 ((t.ops.getD i op0).key)), (S6 ((t.ops.getD i op0).f)), (I6 ((t.ops.getD i op0).inner)), (I6 ((t.ops.getD i op0).a)), (I6 ((t.ops.getD i op0).n)), (S6 ((t.ops.getD i op0).t)), (I6 ((t.ops.getD i op0).p)), (I6 ((t.ops.getD i op0).s)), (I6 ((t.ops.getD i op0).i))], (B6 (decide (opOk (t.ops.getD i op0)))), (B6 false), (B6 false), .ptr 1 7, .agg [(I6 ((t.ops.getD i op0).p)), (I6 ((t.ops.getD i op0).s)), (I6 ((t.ops.getD i op0).i))], .agg [(I6 0), (I6 0), (I6 0)], (B6 true), (B6 true), .ptr 1 7, .agg [(I6 ((t.ops.getD i op0).p)), (I6 ((t.ops.getD i op0).s)), (I6 ((t.ops.getD i op0).i))], .agg (List.take 17 (List.drop 0 (txc g t))), (I6 i), (I6 (IntKind.wrap IntKind.i64 ((↑i : Int) + 1)))] ++ UU 5, [⟨txc g t, 17, .fresh⟩, ⟨[(I6 ((t.ops.getD i op0).k)), (S6 ((t.ops.getD i op0).key)), (S6 ((t.ops.getD i op0).f)), (I6 ((t.ops.getD i op0).inner)), (I6 ((t.ops.getD i op0).a)), (I6 ((t.ops.getD i op0).n)), (S6 ((t.ops.getD i op0).t)), (I6 ((t.ops.getD i op0).p)), (I6 ((t.ops.getD i op0).s)), (I6 ((t.ops.getD i op0).i))], 10, .fresh⟩]⟩ (by kernel_rfl) ⟨trivial, (by omega), (by simp), trivial, trivial, trivial⟩ ?_
                rw [IntWalk.i64_in ((↑i : Int) + 1) (by omega)]
                rw [List.drop_zero]
                rw [Go.Ops.tx_take (g) (t)]
                refine CD (o_before g ((t.ops.getD i op0).p) ((t.ops.getD i op0).s) ((t.ops.getD i op0).i) t ((↑i : Int) + 1)) ?_
                refine RT 3 ?_
                refine KL ([3, 4] ++ NN 33 17) ⟨[U6, .ptr 0 0, (B6 false)] ++ UU 23 ++ [.sl (opsc t.ops) (t.ops.length) .any, (I6 (↑(t.ops.length) : Int)), (I6 i)] ++ UU 21 ++ [(B6 (!decide (befP (t.ops.getD i op0).p (t.ops.getD i op0).s (t.ops.getD i op0).i t ((↑i : Int) + 1)))), .undef], [⟨txc g t, 17, .fresh⟩, ⟨[(I6 ((t.ops.getD i op0).k)), (S6 ((t.ops.getD i op0).key)), (S6 ((t.ops.getD i op0).f)), (I6 ((t.ops.getD i op0).inner)), (I6 ((t.ops.getD i op0).a)), (I6 ((t.ops.getD i op0).n)), (S6 ((t.ops.getD i op0).t)), (I6 ((t.ops.getD i op0).p)), (I6 ((t.ops.getD i op0).s)), (I6 ((t.ops.getD i op0).i))], 10, .fresh⟩]⟩ ?_
                refine CN (!decide (befP (t.ops.getD i op0).p (t.ops.getD i op0).s (t.ops.getD i op0).i t ((↑i : Int) + 1))) (fun h8 => ?_) (fun h8 => ?_)
                · have h8' := h8
                  simp only [Bool.and_eq_true, Bool.and_eq_false_iff, Bool.or_eq_true, Bool.or_eq_false_iff, Bool.not_eq_true', Bool.not_eq_false', beq_iff_eq, beq_eq_false_iff_ne, decide_eq_true_eq, decide_eq_false_iff_not, ne_eq] at h8'
                  refine SQ (RT 1 ?_)
                  refine AWP.ret ?_
                  refine FI (B6 false) ?_
                  refine Shrink.all ?_ rfl
                  (exact rest_no t i (by omega) (by unfold itemP; grind); done)
                · have h8' := h8
                  simp only [Bool.and_eq_true, Bool.and_eq_false_iff, Bool.or_eq_true, Bool.or_eq_false_iff, Bool.not_eq_true', Bool.not_eq_false', beq_iff_eq, beq_eq_false_iff_ne, decide_eq_true_eq, decide_eq_false_iff_not, ne_eq] at h8'
                  refine AWP.skip (AWP.reg ?_)
                  refine DerQ.run (TT 2) ⟨[U6, .ptr 0 0, (B6 false)] ++ UU 23 ++ [.sl (opsc t.ops) (t.ops.length) .any, (I6 (↑(t.ops.length) : Int)), (I6 (IntKind.wrap IntKind.i64 ((↑i : Int) + 1)))] ++ UU 21 ++ [(B6 (!decide (befP (t.ops.getD i op0).p (t.ops.getD i op0).s (t.ops.getD i op0).i t ((↑i : Int) + 1)))), (I6 (IntKind.wrap IntKind.i64 ((↑i : Int) + 1)))], [⟨txc g t, 17, .fresh⟩, ⟨[(I6 ((t.ops.getD i op0).k)), (S6 ((t.ops.getD i op0).key)), (S6 ((t.ops.getD i op0).f)), (I6 ((t.ops.getD i op0).inner)), (I6 ((t.ops.getD i op0).a)), (I6 ((t.ops.getD i op0).n)), (S6 ((t.ops.getD i op0).t)), (I6 ((t.ops.getD i op0).p)), (I6 ((t.ops.getD i op0).s)), (I6 ((t.ops.getD i op0).i))], 10, .fresh⟩]⟩ (by kernel_rfl) (tt 2) ?_
                  rw [IntWalk.i64_in ((↑i : Int) + 1) (by omega)]
                  (exact ⟨_, by omega, _, Weak.cut 1 (by kernel_rfl) (by kernel_rfl) (by simp) (by simp [ltAll, AVal.refLt]) (by simp [dataAll, AVal.data]), i + 1, rfl, by omega, item_succ hd (by unfold itemP; grind), rfl⟩; done)
            · have h6' := h6
              simp only [Bool.and_eq_true, Bool.and_eq_false_iff, Bool.or_eq_true, Bool.or_eq_false_iff, Bool.not_eq_true', Bool.not_eq_false', beq_iff_eq, beq_eq_false_iff_ne, decide_eq_true_eq, decide_eq_false_iff_not, ne_eq] at h6'
              refine RT 1 ?_
              refine KL ([3, 4] ++ NN 33 17) ⟨[U6, .ptr 0 0, (B6 false)] ++ UU 23 ++ [.sl (opsc t.ops) (t.ops.length) .any, (I6 (↑(t.ops.length) : Int)), (I6 i)] ++ UU 21 ++ [(B6 true), .undef], [⟨txc g t, 17, .fresh⟩, ⟨[(I6 ((t.ops.getD i op0).k)), (S6 ((t.ops.getD i op0).key)), (S6 ((t.ops.getD i op0).f)), (I6 ((t.ops.getD i op0).inner)), (I6 ((t.ops.getD i op0).a)), (I6 ((t.ops.getD i op0).n)), (S6 ((t.ops.getD i op0).t)), (I6 ((t.ops.getD i op0).p)), (I6 ((t.ops.getD i op0).s)), (I6 ((t.ops.getD i op0).i))], 10, .fresh⟩]⟩ ?_
              refine CN true (fun _ => ?_) (fun h => nomatch h)
              refine SQ (RT 1 ?_)
              refine AWP.ret ?_
              refine FI (B6 false) ?_
              refine Shrink.all ?_ rfl
              (exact rest_no t i (by omega) (by unfold itemP; grind); done)
          · have h5' := of_decide_eq_false h5
            refine AWP.exit ?_
            refine AWP.seq (KL [1, 26, 27, 28, 29] ⟨[U6, U6, (B6 false)] ++ UU 49, [⟨txc g t, 17, .fresh⟩]⟩ ?_)
            refine AWP.reg (RT 1 ?_)
            refine AWP.ret ?_
            refine FI (B6 true) ?_
            refine Shrink.all ?_ rfl
            (exact rest_yes t (by omega) (by omega) (by grind) (fun j hj => hd j (by omega)); done)
      · have h3' := of_decide_eq_true h3
        refine RT 1 ?_
        refine KL (NN 5 19) ⟨[U6, .ptr 0 0, (B6 false)] ++ UU 21 ++ [(B6 true)] ++ UU 27, [⟨txc g t, 17, .fresh⟩]⟩ ?_
        refine CN true (fun _ => ?_) (fun h => nomatch h)
        refine SQ (RT 1 ?_)
        refine AWP.ret ?_
        refine FI (B6 false) ?_
        refine Shrink.all ?_ rfl
        (exact rest_no' t (by grind); done)
    · have h2' := of_decide_eq_true h2
      refine RT 3 ?_
      refine KL (NN 5 19) ⟨[U6, .ptr 0 0, (B6 false)] ++ UU 21 ++ [(B6 true)] ++ UU 27, [⟨txc g t, 17, .fresh⟩]⟩ ?_
      refine CN true (fun _ => ?_) (fun h => nomatch h)
      refine SQ (RT 1 ?_)
      refine AWP.ret ?_
      refine FI (B6 false) ?_
      refine Shrink.all ?_ rfl
      (exact rest_no' t (by grind); done)
  · have h1' := of_decide_eq_true h1
    refine RT 5 ?_
    refine KL (NN 5 19) ⟨[U6, .ptr 0 0, (B6 false)] ++ UU 21 ++ [(B6 true)] ++ UU 27, [⟨txc g t, 17, .fresh⟩]⟩ ?_
    refine CN true (fun _ => ?_) (fun h => nomatch h)
    refine SQ (RT 1 ?_)
    refine AWP.ret ?_
    refine FI (B6 false) ?_
    refine Shrink.all ?_ rfl
    (exact rest_no' t (by grind); done)
theorem r_rest (g : Gate) (t : TxD) : EvD Try.prog 56 [.agg (txc g t)] (.sc (.bool (decide (restP t)))) := by
  refine EvD.body Try.func56 rfl (by simp [dataAll, AVal.data]) rfl ?_
  refine AWP.seq ?_
  refine TO ⟨[.agg (txc g t)] ++ UU 56, []⟩ ?_
  refine AWP.reg (RT 2 ?_)
  refine AWP.seq (AWP.seq (KL [0] ⟨[U6, .ptr 0 0, (B6 false)] ++ UU 54, [⟨txc g t, 17, .fresh⟩]⟩ ?_))
  refine AWP.reg ?_
  refine DerQ.pre 2 (True ∧ (15 ≤ (txc g t).length) ∧ True) ⟨[U6, .ptr 0 0, (B6 false), U6, U6, U6, .ptr 0 2, .agg (List.take 13 (List.drop 2 (txc g t)))] ++ UU 49, [⟨txc g t, 17, .fresh⟩]⟩ (by kernel_rfl) ⟨trivial, (by simp), trivial⟩ ?_
  rw [Go.Ops.tx_deps (g) (t)]
  refine CD (r_check g t.v) ?_
  refine PT 2 2 ?_
  refine DerQ.to ⟨[U6, .ptr 0 0, (B6 false), U6, U6, U6, .ptr 0 2, .agg (vecc g t.v), (B6 (decide (chkP t.v))), (B6 (!decide (chkP t.v))), (B6 (!decide (chkP t.v)))] ++ UU 46, [⟨txc g t, 17, .fresh⟩]⟩ (by kernel_rfl) ?_
  cases h1 : (!decide (chkP t.v))
  · have h1' := h1
    simp only [Bool.and_eq_true, Bool.and_eq_false_iff, Bool.or_eq_true, Bool.or_eq_false_iff, Bool.not_eq_true', Bool.not_eq_false', beq_iff_eq, beq_eq_false_iff_ne, decide_eq_true_eq, decide_eq_false_iff_not, ne_eq] at h1'
    refine DerQ.pre 2 (True ∧ (15 < (txc g t).length) ∧ True) ⟨[U6, .ptr 0 0, (B6 false), U6, U6, U6, .ptr 0 2, .agg (vecc g t.v), (B6 (decide (chkP t.v))), (B6 false), (B6 false), .ptr 0 15, (txc g t).getD 15 AVal.undef] ++ UU 44, [⟨txc g t, 17, .fresh⟩]⟩ (by kernel_rfl) ⟨trivial, (by simp), trivial⟩ ?_
    rw [Go.Ops.tx_15 (g) (t)]
    refine PT 3 3 ?_
    refine DerQ.to ⟨[U6, .ptr 0 0, (B6 false), U6, U6, U6, .ptr 0 2, .agg (vecc g t.v), (B6 (decide (chkP t.v))), (B6 false), (B6 false), .ptr 0 15, (I6 (t.time)), (B6 (decide (t.time < 1))), (B6 (decide (t.time < 1))), (B6 (decide (t.time < 1)))] ++ UU 41, [⟨txc g t, 17, .fresh⟩]⟩ (by kernel_rfl) ?_
    cases h2 : (decide (t.time < 1))
    · have h2' := of_decide_eq_false h2
      refine DerQ.pre 2 (True ∧ (15 < (txc g t).length) ∧ True) ⟨[U6, .ptr 0 0, (B6 false), U6, U6, U6, .ptr 0 2, .agg (vecc g t.v), (B6 (decide (chkP t.v))), (B6 false), (B6 false), .ptr 0 15, (I6 (t.time)), (B6 false), (B6 false), (B6 false), .ptr 0 15, (txc g t).getD 15 AVal.undef] ++ UU 39, [⟨txc g t, 17, .fresh⟩]⟩ (by kernel_rfl) ⟨trivial, (by simp), trivial⟩ ?_
      rw [Go.Ops.tx_15 (g) (t)]
      refine PT 3 3 ?_
      refine DerQ.to ⟨[U6, .ptr 0 0, (B6 false), U6, U6, U6, .ptr 0 2, .agg (vecc g t.v), (B6 (decide (chkP t.v))), (B6 false), (B6 false), .ptr 0 15, (I6 (t.time)), (B6 false), (B6 false), (B6 false), .ptr 0 15, (I6 (t.time)), (B6 (decide (t.time > 1099511627776))), (B6 (decide (t.time > 1099511627776))), (B6 (decide (t.time > 1099511627776)))] ++ UU 36, [⟨txc g t, 17, .fresh⟩]⟩ (by kernel_rfl) ?_
      cases h3 : (decide (t.time > 1099511627776))
      · have h3' := of_decide_eq_false h3
        refine DerQ.pre 2 (True ∧ (16 < (txc g t).length) ∧ True) ⟨[U6, .ptr 0 0, (B6 false), U6, U6, U6, .ptr 0 2, .agg (vecc g t.v), (B6 (decide (chkP t.v))), (B6 false), (B6 false), .ptr 0 15, (I6 (t.time)), (B6 false), (B6 false), (B6 false), .ptr 0 15, (I6 (t.time)), (B6 false), (B6 false), (B6 false), .ptr 0 16, (txc g t).getD 16 AVal.undef] ++ UU 34, [⟨txc g t, 17, .fresh⟩]⟩ (by kernel_rfl) ⟨trivial, (by simp), trivial⟩ ?_
        rw [Go.Ops.tx_16 (g) (t)]
        refine RT 3 ?_
        refine KL (NN 6 19) ⟨[U6, .ptr 0 0, (B6 false)] ++ UU 22 ++ [(B6 (decide ((↑(t.ops.length) : Int) > 16)))] ++ UU 31, [⟨txc g t, 17, .fresh⟩]⟩ ?_
        refine CN (decide ((↑(t.ops.length) : Int) > 16)) (fun h4 => ?_) (fun h4 => ?_)
        · have h4' := of_decide_eq_true h4
          refine SQ (RT 1 ?_)
          refine AWP.ret ?_
          refine FI (B6 false) ?_
          refine Shrink.all ?_ rfl
          (exact rest_no' t (by grind); done)
        · have h4' := of_decide_eq_false h4
          refine AWP.skip (SQ (RI (True ∧ True ∧ 3 ≤ 3 ∧ True) ⟨trivial, trivial, (by omega), trivial⟩ ?_))
          refine AWP.seq (AWP.seq (KL [25, 26] ⟨[U6, .ptr 0 0, (B6 false), .ptr 1 0] ++ UU 53, [⟨txc g t, 17, .fresh⟩, ⟨[(I6 0), (I6 0), (I6 0)], 3, .fresh⟩]⟩ ?_))
          refine AWP.reg (RT 1 ?_)
          refine AWP.block ?_
          refine TO ⟨[U6, .ptr 0 0, (B6 false), .ptr 1 0, (I6 0)] ++ UU 52, [⟨txc g t, 17, .fresh⟩, ⟨[(I6 0), (I6 0), (I6 0)], 3, .fresh⟩]⟩ ?_
          refine AWP.loopW [false, true, true, true, true, false, false, false, false, false, false, false, false, false, false, false, false, false, false, false, false, false, false, false, false, false, false, false, false, false, false, false, false, false, false, false, false, false, false, false, false, false, false, false, false, false, false, false, false, false, false, false, false, false, false, false, false] (fun kk st => ∃ (i : Nat), kk = t.ops.length - i ∧ i ≤ t.ops.length ∧ (∀ j, j < i → itemP t (t.ops.getD j op0) j) ∧ st = ⟨[U6, .ptr 0 0, (B6 false), .ptr 1 0, (I6 (i : Int)), U6, U6, U6, U6, U6, U6, U6, U6, U6, U6, U6, U6, U6, U6, U6, U6, U6, U6, U6, U6, U6, U6, U6, U6, U6, U6, U6, U6, U6, U6, U6, U6, U6, U6, U6, U6, U6, U6, U6, U6, U6, U6, U6, U6, U6, U6, U6, U6, U6, U6, U6, .undef], [⟨txc g t, 17, .fresh⟩, ⟨[(I6 0), (I6 0), (I6 0)], 3, .fresh⟩]⟩) _ ⟨0, rfl, by omega, by omega, rfl⟩ ?_
          rintro kk s ⟨i, rfl, hi, hd, rfl⟩
          refine AWP.seq (SQ ?_)
          refine DerQ.pre 3 (True ∧ True ∧ (16 < (txc g t).length) ∧ True) ⟨[U6, .ptr 0 0, (B6 false), .ptr 1 0, (I6 i)] ++ UU 22 ++ [(I6 i), .ptr 0 16, (txc g t).getD 16 AVal.undef] ++ UU 27, [⟨txc g t, 17, .fresh⟩, ⟨[(I6 0), (I6 0), (I6 0)], 3, .fresh⟩]⟩ (by kernel_rfl) ⟨trivial, trivial, (by simp), trivial⟩ ?_
          rw [Go.Ops.tx_16 (g) (t)]
          refine RT 2 ?_
          refine KL [27, 28, 29, 30] ⟨[U6, .ptr 0 0, (B6 false), .ptr 1 0, (I6 i)] ++ UU 26 ++ [(B6 (decide ((↑i : Int) < (↑(t.ops.length) : Int))))] ++ UU 25, [⟨txc g t, 17, .fresh⟩, ⟨[(I6 0), (I6 0), (I6 0)], 3, .fresh⟩]⟩ ?_
          refine CN (decide ((↑i : Int) < (↑(t.ops.length) : Int))) (fun h5 => ?_) (fun h5 => ?_)
          · have h5' := of_decide_eq_true h5
            refine AWP.skip (AWP.seq (AWP.block (SQ ?_)))
            refine DerQ.pre 3 (True ∧ (16 < (txc g t).length) ∧ True ∧ True) ⟨[U6, .ptr 0 0, (B6 false), .ptr 1 0, (I6 i)] ++ UU 26 ++ [(B6 (decide ((↑i : Int) < (↑(t.ops.length) : Int)))), U6, U6, .ptr 0 16, (txc g t).getD 16 U6, (I6 i)] ++ UU 20, [⟨txc g t, 17, .fresh⟩, ⟨[(I6 0), (I6 0), (I6 0)], 3, .fresh⟩]⟩ (by kernel_rfl) ⟨trivial, (by simp), trivial, trivial⟩ ?_
            rw [Go.Ops.tx_16 (g) (t)]
            refine DerQ.pre 3 ((((0 ≤ (↑i : Int)) ∧ ((↑i : Int) < (↑(t.ops.length) : Int))) ∧ (Int.toNat i * 10 + 10 ≤ (opsc t.ops).length)) ∧ 10 ≤ 10 ∧ True ∧ True) ⟨[U6, .ptr 0 0, (B6 false), .ptr 1 0, (I6 i), .ptr 2 0] ++ UU 25 ++ [(B6 (decide ((↑i : Int) < (↑(t.ops.length) : Int)))), U6, U6, .ptr 0 16, .sl (opsc t.ops) (t.ops.length) .any, (I6 i), .dptr [(opsc t.ops).getD (Int.toNat i * 10 + 0) U6, (opsc t.ops).getD (Int.toNat i * 10 + 1) U6, (opsc t.ops).getD (Int.toNat i * 10 + 2) U6, (opsc t.ops).getD (Int.toNat i * 10 + 3) U6, (opsc t.ops).getD (Int.toNat i * 10 + 4) U6, (opsc t.ops).getD (Int.toNat i * 10 + 5) U6, (opsc t.ops).getD (Int.toNat i * 10 + 6) U6, (opsc t.ops).getD (Int.toNat i * 10 + 7) U6, (opsc t.ops).getD (Int.toNat i * 10 + 8) U6, (opsc t.ops).getD (Int.toNat i * 10 + 9) AVal.undef], .agg [(opsc t.ops).getD (Int.toNat i * 10 + 0) U6, (opsc t.ops).getD (Int.toNat i * 10 + 1) U6, (opsc t.ops).getD (Int.toNat i * 10 + 2) U6, (opsc t.ops).getD (Int.toNat i * 10 + 3) U6, (opsc t.ops).getD (Int.toNat i * 10 + 4) U6, (opsc t.ops).getD (Int.toNat i * 10 + 5) U6, (opsc t.ops).getD (Int.toNat i * 10 + 6) U6, (opsc t.ops).getD (Int.toNat i * 10 + 7) U6, (opsc t.ops).getD (Int.toNat i * 10 + 8) U6, (opsc t.ops).getD (Int.toNat i * 10 + 9) AVal.undef]] ++ UU 18, [⟨txc g t, 17, .fresh⟩, ⟨[(I6 0), (I6 0), (I6 0)], 3, .fresh⟩, ⟨[(I6 0), (S6 ({ data := #[] })), (S6 ({ data := #[] })), (I6 0), (I6 0), (I6 0), (S6 ({ data := #[] })), (I6 0), (I6 0), (I6 0)], 10, .fresh⟩]⟩ (by kernel_rfl) ⟨⟨⟨(by omega), (by omega)⟩, (by (simp [spliceA_length] <;> omega))⟩, (by omega), trivial, trivial⟩ ?_
            rw [Int.toNat_natCast (i)]
            rw [Nat.add_zero (i * 10)]
            rw [Go.Ops.opsc_cells (t.ops) (i) (by omega)]
            refine RI (10 ≤ 10 ∧ True) ⟨(by omega), trivial⟩ ?_
            refine AWP.seq (KL ([31] ++ NN 34 5) ⟨[U6, .ptr 0 0, (B6 false), .ptr 1 0, (I6 i), .ptr 2 0] ++ UU 51, [⟨txc g t, 17, .fresh⟩, ⟨[(I6 0), (I6 0), (I6 0)], 3, .fresh⟩, ⟨[(I6 ((t.ops.getD i op0).k)), (S6 ((t.ops.getD i op0).key)), (S6 ((t.ops.getD i op0).f)), (I6 ((t.ops.getD i op0).inner)), (I6 ((t.ops.getD i op0).a)), (I6 ((t.ops.getD i op0).n)), (S6 ((t.ops.getD i op0).t)), (I6 ((t.ops.getD i op0).p)), (I6 ((t.ops.getD i op0).s)), (I6 ((t.ops.getD i op0).i))], 10, .fresh⟩]⟩ ?_)
            refine AWP.reg (PI 1 (10 ≤ 10 ∧ True) ⟨(by omega), trivial⟩ ?_)
            refine CD (r_op' (t.ops.getD i op0)) ?_
            refine PT 2 2 ?_
            refine DerQ.to ⟨[U6, .ptr 0 0, (B6 false), .ptr 1 0, (I6 i), .ptr 2 0] ++ UU 33 ++ [.agg [(I6 ((t.ops.getD i op0).k)), (S6 ((t.ops.getD i op0).key)), (S6 ((t.ops.getD i op0).f)), (I6 ((t.ops.getD i op0).inner)), (I6 ((t.ops.getD i op0).a)), (I6 ((t.ops.getD i op0).n)), (S6 ((t.ops.getD i op0).t)), (I6 ((t.ops.getD i op0).p)), (I6 ((t.ops.getD i op0).s)), (I6 ((t.ops.getD i op0).i))], (B6 (decide (opOk (t.ops.getD i op0)))), (B6 (!decide (opOk (t.ops.getD i op0)))), (B6 (!decide (opOk (t.ops.getD i op0))))] ++ UU 14, [⟨txc g t, 17, .fresh⟩, ⟨[(I6 0), (I6 0), (I6 0)], 3, .fresh⟩, ⟨[(I6 ((t.ops.getD i op0).k)), (S6 ((t.ops.getD i op0).key)), (S6 ((t.ops.getD i op0).f)), (I6 ((t.ops.getD i op0).inner)), (I6 ((t.ops.getD i op0).a)), (I6 ((t.ops.getD i op0).n)), (S6 ((t.ops.getD i op0).t)), (I6 ((t.ops.getD i op0).p)), (I6 ((t.ops.getD i op0).s)), (I6 ((t.ops.getD i op0).i))], 10, .fresh⟩]⟩ (by kernel_rfl) ?_
            cases h6 : (!decide (opOk (t.ops.getD i op0)))
            · have h6' := h6
              simp only [Bool.and_eq_true, Bool.and_eq_false_iff, Bool.or_eq_true, Bool.or_eq_false_iff, Bool.not_eq_true', Bool.not_eq_false', beq_iff_eq, beq_eq_false_iff_ne, decide_eq_true_eq, decide_eq_false_iff_not, ne_eq] at h6'
              refine PI 5 (True ∧ 10 ≤ 10 ∧ 3 ≤ 3 ∧ ((((2 : Nat) ≤ (3 : Nat)) ∧ (((2 : Nat) ≤ (3 : Nat)) ∧ ((((0 : Nat) < (2 : Nat)) ∧ (((0 : Nat) < (2 : Nat)) ∧ (True))) ∧ (((1 : Nat) < (2 : Nat)) ∧ (((1 : Nat) < (2 : Nat)) ∧ (True)))))) ∧ (((2 : Nat) < (3 : Nat)) ∧ (((2 : Nat) < (3 : Nat)) ∧ (True)))) ∧ True ∧ True) ⟨trivial, (by omega), (by omega), ⟨⟨(by omega), ⟨(by omega), ⟨⟨(by omega), ⟨(by omega), trivial⟩⟩, ⟨(by omega), ⟨(by omega), trivial⟩⟩⟩⟩⟩, ⟨(by omega), ⟨(by omega), trivial⟩⟩⟩, trivial, trivial⟩ ?_
              refine DerQ.to ⟨[U6, .ptr 0 0, (B6 false), .ptr 1 0, (I6 i), .ptr 2 0] ++ UU 33 ++ [.agg [(I6 ((t.ops.getD i op0).k)), (S6 ((t.ops.getD i op0).key)), (S6 ((t.ops.getD i op0).f)), (I6 ((t.ops.getD i op0).inner)), (I6 ((t.ops.getD i op0).a)), (I6 ((t.ops.getD i op0).n)), (S6 ((t.ops.getD i op0).t)), (I6 ((t.ops.getD i op0).p)), (I6 ((t.ops.getD i op0).s)), (I6 ((t.ops.getD i op0).i))], (B6 (decide (opOk (t.ops.getD i op0)))), (B6 false), (B6 false), .ptr 2 7, .agg [(I6 ((t.ops.getD i op0).p)), (I6 ((t.ops.getD i op0).s)), (I6 ((t.ops.getD i op0).i))], .agg [(I6 0), (I6 0), (I6 0)], (B6 (!((t.ops.getD i op0).p == 0 && (t.ops.getD i op0).s == 0 && (t.ops.getD i op0).i == 0))), (B6 (!((t.ops.getD i op0).p == 0 && (t.ops.getD i op0).s == 0 && (t.ops.getD i op0).i == 0)))] ++ UU 9, [⟨txc g t, 17, .fresh⟩, ⟨[(I6 0), (I6 0), (I6 0)], 3, .fresh⟩, ⟨[(I6 ((t.ops.getD i op0).k)), (S6 ((t.ops.getD i op0).key)), (S6 ((t.ops.getD i op0).f)), (I6 ((t.ops.getD i op0).inner)), (I6 ((t.ops.getD i op0).a)), (I6 ((t.ops.getD i op0).n)), (S6 ((t.ops.getD i op0).t)), (I6 ((t.ops.getD i op0).p)), (I6 ((t.ops.getD i op0).s)), (I6 ((t.ops.getD i op0).i))], 10, .fresh⟩]⟩ (by kernel_rfl) ?_
              cases h7 : (!((t.ops.getD i op0).p == 0 && (t.ops.getD i op0).s == 0 && (t.ops.getD i op0).i == 0))
              · have h7' := h7
                simp only [Bool.and_eq_true, Bool.and_eq_false_iff, Bool.or_eq_true, Bool.or_eq_false_iff, Bool.not_eq_true', Bool.not_eq_false', beq_iff_eq, beq_eq_false_iff_ne, decide_eq_true_eq, decide_eq_false_iff_not, ne_eq] at h7'
                refine RT 2 ?_
                refine KL ([5] ++ NN 39 17) ⟨[U6, .ptr 0 0, (B6 false), .ptr 1 0, (I6 i)] ++ UU 51 ++ [(B6 false)], [⟨txc g t, 17, .fresh⟩, ⟨[(I6 0), (I6 0), (I6 0)], 3, .fresh⟩, ⟨[(I6 ((t.ops.getD i op0).k)), (S6 ((t.ops.getD i op0).key)), (S6 ((t.ops.getD i op0).f)), (I6 ((t.ops.getD i op0).inner)), (I6 ((t.ops.getD i op0).a)), (I6 ((t.ops.getD i op0).n)), (S6 ((t.ops.getD i op0).t)), (I6 ((t.ops.getD i op0).p)), (I6 ((t.ops.getD i op0).s)), (I6 ((t.ops.getD i op0).i))], 10, .fresh⟩]⟩ ?_
                refine CN false (fun h => nomatch h) (fun _ => ?_)
                refine AWP.skip (AWP.reg ?_)
                refine DerQ.run (TT 3) ⟨[U6, .ptr 0 0, (B6 false), .ptr 1 0, (I6 (IntKind.wrap IntKind.i64 ((↑i : Int) + 1)))] ++ UU 27 ++ [(I6 i), (I6 (IntKind.wrap IntKind.i64 ((↑i : Int) + 1)))] ++ UU 22 ++ [(B6 false)], [⟨txc g t, 17, .fresh⟩, ⟨[(I6 0), (I6 0), (I6 0)], 3, .fresh⟩, ⟨[(I6 ((t.ops.getD i op0).k)), (S6 ((t.ops.getD i op0).key)), (S6 ((t.ops.getD i op0).f)), (I6 ((t.ops.getD i op0).inner)), (I6 ((t.ops.getD i op0).a)), (I6 ((t.ops.getD i op0).n)), (S6 ((t.ops.getD i op0).t)), (I6 ((t.ops.getD i op0).p)), (I6 ((t.ops.getD i op0).s)), (I6 ((t.ops.getD i op0).i))], 10, .fresh⟩]⟩ (by kernel_rfl) (tt 3) ?_
                rw [IntWalk.i64_in ((↑i : Int) + 1) (by omega)]
                (exact ⟨_, by omega, _, Weak.cut 2 (by kernel_rfl) (by kernel_rfl) (by simp) (by simp [ltAll, AVal.refLt]) (by simp [dataAll, AVal.data]), i + 1, rfl, by omega, item_succ hd (by unfold itemP; grind), rfl⟩; done)
              · have h7' := h7
                simp only [Bool.and_eq_true, Bool.and_eq_false_iff, Bool.or_eq_true, Bool.or_eq_false_iff, Bool.not_eq_true', Bool.not_eq_false', beq_iff_eq, beq_eq_false_iff_ne, decide_eq_true_eq, decide_eq_false_iff_not, ne_eq] at h7'
                refine DerQ.pre 5 (True ∧ 10 ≤ 10 ∧ (17 ≤ (txc g t).length) ∧ True ∧ True ∧ True) ⟨[U6, .ptr 0 0, (B6 false), .ptr 1 0, (I6 i), .ptr 2 0] ++ UU 33 ++ [.agg [(I6 ((t.ops.getD i op0).k)), (S6 ((t.ops.getD i op0).key)), (S6 ((t.ops.getD i op0).f)), (I6 ((t.ops.getD i op0).inner)), (I6 ((t.ops.getD i op0).a)), (I6 ((t.ops.getD i op0).n)), (S6 ((t.ops.getD i op0).t)), (I6 ((t.ops.getD i op0).p)), (I6 ((t.ops.getD i op0).s)), (I6 ((t.ops.getD i op0).i))], (B6 (decide (opOk (t.ops.getD i op0)))), (B6 false), (B6 false), .ptr 2 7, .agg [(I6 ((t.ops.getD i op0).p)), (I6 ((t.ops.getD i op0).s)), (I6 ((t.ops.getD i op0).i))], .agg [(I6 0), (I6 0), (I6 0)], (B6 true), (B6 true), .ptr 2 7, .agg [(I6 ((t.ops.getD i op0).p)), (I6 ((t.ops.getD i op0).s)), (I6 ((t.ops.getD i op0).i))], .agg (List.take 17 (List.drop 0 (txc g t))), (I6 i), (I6 (IntKind.wrap IntKind.i64 ((↑i : Int) + 1))), U6, U6, U6, .undef], [⟨txc g t, 17, .fresh⟩, ⟨[(I6 0), (I6 0), (I6 0)], 3, .fresh⟩, ⟨[(I6 ((t.ops.getD i op0).k)), (S6 ((t.ops.getD i op0).key)), (S6 ((t.ops.getD i op0).f)), (I6 ((t.ops.getD i op0).inner)), (I6 ((t.ops.getD i op0).a)), (I6 ((t.ops.getD i op0).n)), (S6 ((t.ops.getD i op0).t)), (I6 ((t.ops.getD i op0).p)), (I6 ((t.ops.getD i op0).s)), (I6 ((t.ops.getD i op0).i))], 10, .fresh⟩]⟩ (by kernel_rfl) ⟨trivial, (by omega), (by simp), trivial, trivial, trivial⟩ ?_
                rw [IntWalk.i64_in ((↑i : Int) + 1) (by omega)]
                rw [List.drop_zero]
                rw [Go.Ops.tx_take (g) (t)]
                refine CD (r_before g ((t.ops.getD i op0).p) ((t.ops.getD i op0).s) ((t.ops.getD i op0).i) t ((↑i : Int) + 1)) ?_
                refine RT 3 ?_
                refine KL ([5] ++ NN 39 17) ⟨[U6, .ptr 0 0, (B6 false), .ptr 1 0, (I6 i)] ++ UU 51 ++ [(B6 (!decide (befP (t.ops.getD i op0).p (t.ops.getD i op0).s (t.ops.getD i op0).i t ((↑i : Int) + 1))))], [⟨txc g t, 17, .fresh⟩, ⟨[(I6 0), (I6 0), (I6 0)], 3, .fresh⟩, ⟨[(I6 ((t.ops.getD i op0).k)), (S6 ((t.ops.getD i op0).key)), (S6 ((t.ops.getD i op0).f)), (I6 ((t.ops.getD i op0).inner)), (I6 ((t.ops.getD i op0).a)), (I6 ((t.ops.getD i op0).n)), (S6 ((t.ops.getD i op0).t)), (I6 ((t.ops.getD i op0).p)), (I6 ((t.ops.getD i op0).s)), (I6 ((t.ops.getD i op0).i))], 10, .fresh⟩]⟩ ?_
                refine CN (!decide (befP (t.ops.getD i op0).p (t.ops.getD i op0).s (t.ops.getD i op0).i t ((↑i : Int) + 1))) (fun h8 => ?_) (fun h8 => ?_)
                · have h8' := h8
                  simp only [Bool.and_eq_true, Bool.and_eq_false_iff, Bool.or_eq_true, Bool.or_eq_false_iff, Bool.not_eq_true', Bool.not_eq_false', beq_iff_eq, beq_eq_false_iff_ne, decide_eq_true_eq, decide_eq_false_iff_not, ne_eq] at h8'
                  refine SQ (RT 1 ?_)
                  refine AWP.ret ?_
                  refine FI (B6 false) ?_
                  refine Shrink.all ?_ rfl
                  (exact rest_no t i (by omega) (by unfold itemP; grind); done)
                · have h8' := h8
                  simp only [Bool.and_eq_true, Bool.and_eq_false_iff, Bool.or_eq_true, Bool.or_eq_false_iff, Bool.not_eq_true', Bool.not_eq_false', beq_iff_eq, beq_eq_false_iff_ne, decide_eq_true_eq, decide_eq_false_iff_not, ne_eq] at h8'
                  refine AWP.skip (AWP.reg ?_)
                  refine DerQ.run (TT 3) ⟨[U6, .ptr 0 0, (B6 false), .ptr 1 0, (I6 (IntKind.wrap IntKind.i64 ((↑i : Int) + 1)))] ++ UU 27 ++ [(I6 i), (I6 (IntKind.wrap IntKind.i64 ((↑i : Int) + 1)))] ++ UU 22 ++ [(B6 (!decide (befP (t.ops.getD i op0).p (t.ops.getD i op0).s (t.ops.getD i op0).i t ((↑i : Int) + 1))))], [⟨txc g t, 17, .fresh⟩, ⟨[(I6 0), (I6 0), (I6 0)], 3, .fresh⟩, ⟨[(I6 ((t.ops.getD i op0).k)), (S6 ((t.ops.getD i op0).key)), (S6 ((t.ops.getD i op0).f)), (I6 ((t.ops.getD i op0).inner)), (I6 ((t.ops.getD i op0).a)), (I6 ((t.ops.getD i op0).n)), (S6 ((t.ops.getD i op0).t)), (I6 ((t.ops.getD i op0).p)), (I6 ((t.ops.getD i op0).s)), (I6 ((t.ops.getD i op0).i))], 10, .fresh⟩]⟩ (by kernel_rfl) (tt 3) ?_
                  rw [IntWalk.i64_in ((↑i : Int) + 1) (by omega)]
                  (exact ⟨_, by omega, _, Weak.cut 2 (by kernel_rfl) (by kernel_rfl) (by simp) (by simp [ltAll, AVal.refLt]) (by simp [dataAll, AVal.data]), i + 1, rfl, by omega, item_succ hd (by unfold itemP; grind), rfl⟩; done)
            · have h6' := h6
              simp only [Bool.and_eq_true, Bool.and_eq_false_iff, Bool.or_eq_true, Bool.or_eq_false_iff, Bool.not_eq_true', Bool.not_eq_false', beq_iff_eq, beq_eq_false_iff_ne, decide_eq_true_eq, decide_eq_false_iff_not, ne_eq] at h6'
              refine RT 1 ?_
              refine KL ([5] ++ NN 39 17) ⟨[U6, .ptr 0 0, (B6 false), .ptr 1 0, (I6 i)] ++ UU 51 ++ [(B6 true)], [⟨txc g t, 17, .fresh⟩, ⟨[(I6 0), (I6 0), (I6 0)], 3, .fresh⟩, ⟨[(I6 ((t.ops.getD i op0).k)), (S6 ((t.ops.getD i op0).key)), (S6 ((t.ops.getD i op0).f)), (I6 ((t.ops.getD i op0).inner)), (I6 ((t.ops.getD i op0).a)), (I6 ((t.ops.getD i op0).n)), (S6 ((t.ops.getD i op0).t)), (I6 ((t.ops.getD i op0).p)), (I6 ((t.ops.getD i op0).s)), (I6 ((t.ops.getD i op0).i))], 10, .fresh⟩]⟩ ?_
              refine CN true (fun _ => ?_) (fun h => nomatch h)
              refine SQ (RT 1 ?_)
              refine AWP.ret ?_
              refine FI (B6 false) ?_
              refine Shrink.all ?_ rfl
              (exact rest_no t i (by omega) (by unfold itemP; grind); done)
          · have h5' := of_decide_eq_false h5
            refine AWP.exit ?_
            refine AWP.seq (KL [1, 3, 4, 31] ⟨[U6, U6, (B6 false)] ++ UU 54, [⟨txc g t, 17, .fresh⟩, ⟨[(I6 0), (I6 0), (I6 0)], 3, .fresh⟩]⟩ ?_)
            refine AWP.reg (RT 1 ?_)
            refine AWP.ret ?_
            refine FI (B6 true) ?_
            refine Shrink.all ?_ rfl
            (exact rest_yes t (by omega) (by omega) (by grind) (fun j hj => hd j (by omega)); done)
      · have h3' := of_decide_eq_true h3
        refine RT 1 ?_
        refine KL (NN 6 19) ⟨[U6, .ptr 0 0, (B6 false)] ++ UU 22 ++ [(B6 true)] ++ UU 31, [⟨txc g t, 17, .fresh⟩]⟩ ?_
        refine CN true (fun _ => ?_) (fun h => nomatch h)
        refine SQ (RT 1 ?_)
        refine AWP.ret ?_
        refine FI (B6 false) ?_
        refine Shrink.all ?_ rfl
        (exact rest_no' t (by grind); done)
    · have h2' := of_decide_eq_true h2
      refine RT 3 ?_
      refine KL (NN 6 19) ⟨[U6, .ptr 0 0, (B6 false)] ++ UU 22 ++ [(B6 true)] ++ UU 31, [⟨txc g t, 17, .fresh⟩]⟩ ?_
      refine CN true (fun _ => ?_) (fun h => nomatch h)
      refine SQ (RT 1 ?_)
      refine AWP.ret ?_
      refine FI (B6 false) ?_
      refine Shrink.all ?_ rfl
      (exact rest_no' t (by grind); done)
  · have h1' := h1
    simp only [Bool.and_eq_true, Bool.and_eq_false_iff, Bool.or_eq_true, Bool.or_eq_false_iff, Bool.not_eq_true', Bool.not_eq_false', beq_iff_eq, beq_eq_false_iff_ne, decide_eq_true_eq, decide_eq_false_iff_not, ne_eq] at h1'
    refine RT 5 ?_
    refine KL (NN 6 19) ⟨[U6, .ptr 0 0, (B6 false)] ++ UU 22 ++ [(B6 true)] ++ UU 31, [⟨txc g t, 17, .fresh⟩]⟩ ?_
    refine CN true (fun _ => ?_) (fun h => nomatch h)
    refine SQ (RT 1 ?_)
    refine AWP.ret ?_
    refine FI (B6 false) ?_
    refine Shrink.all ?_ rfl
    (exact rest_no' t (by grind); done)
end Go.Ops
