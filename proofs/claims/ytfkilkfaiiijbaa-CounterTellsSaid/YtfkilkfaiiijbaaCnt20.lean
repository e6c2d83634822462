/- Walks and laws. -/
import Derived.Test.YtfkilkfaiiijbaaCnt19
import Derived.Test.YtfkilkfaiiijbaaLibC
set_option maxRecDepth 100000
set_option maxHeartbeats 0
set_option linter.unusedSimpArgs false
set_option linter.unusedVariables false
namespace Go.Cnt
open Go Go.Abs Go.Proofs Go.Ops
theorem do_no (g : Gate) (t : TxD) (v : Nat → Int) (k n : Int) (kind base : Int) (am : List AmtD) (w m e : Nat) (wc mc ec : List AVal) (hw : dataAll wc = true) (hm : dataAll mc = true) (he : dataAll ec = true) (hx : am.length ≤ 60) (hc : ¬ chkP kind base am w m e ∨ k < 1 ∨ ¬ (-1073741824 ≤ n ∧ n ≤ 1073741824)) :
    EvD Try.prog 37 [.agg [.sc (.int .i64 kind), .sc (.int .i64 base), .sl (amsc am) am.length .any, .sl wc w .any, .sl mc m .any, .sl ec e .any], .agg (txc g t), .sc (.int .i64 k), .sc (.int .i64 n)] (.agg [.sc (.int .i64 kind), .sc (.int .i64 base), .sl (amsc am) am.length .any, .sl wc w .any, .sl mc m .any, .sl ec e .any]) := by
  refine EvD.body Try.func37 rfl (by simp [dataAll, AVal.data, *]) (by simp [dataAll, AVal.data, *]) ?_
  refine AWP.seq ?_
  refine TO ⟨[.agg (Go.Cnt.CA kind base am wc w mc m ec e), .agg (txc g t), (I6 k), (I6 n)] ++ UU 68, []⟩ ?_
  refine AWP.reg (RT 3 ?_)
  refine AWP.seq (AWP.seq (KL [0, 1] ⟨[U6, U6, (I6 k), (I6 n), .ptr 0 0, .ptr 1 0, U6, U6, .ptr 2 0] ++ UU 63, [⟨(Go.Cnt.CA kind base am wc w mc m ec e), 6, .fresh⟩, ⟨txc g t, 17, .fresh⟩, ⟨[(I6 0), (I6 0), .sl [] 0 .nil, .sl [] 0 .nil, .sl [] 0 .nil, .sl [] 0 .nil], 6, .fresh⟩]⟩ ?_))
  refine AWP.reg (PT 3 3 ?_)
  refine DerQ.to ⟨[U6, U6, (I6 k), (I6 n), .ptr 0 0, .ptr 1 0, U6, U6, .ptr 2 0, U6, U6, (I6 k), (B6 (decide (k < 1))), (B6 (decide (k < 1)))] ++ UU 58, [⟨(Go.Cnt.CA kind base am wc w mc m ec e), 6, .fresh⟩, ⟨txc g t, 17, .fresh⟩, ⟨[(I6 0), (I6 0), .sl [] 0 .nil, .sl [] 0 .nil, .sl [] 0 .nil, .sl [] 0 .nil], 6, .fresh⟩]⟩ (by kernel_rfl) ?_
  cases h1 : (decide (k < 1))
  · have h1' := of_decide_eq_false h1
    refine PT 1 1 ?_
    refine CD (within n 1073741824 ⟨(by omega), (by omega)⟩) ?_
    refine PT 3 3 ?_
    refine DerQ.to ⟨[U6, U6, (I6 k), (I6 n), .ptr 0 0, .ptr 1 0, U6, U6, .ptr 2 0, U6, U6, (I6 k), (B6 false), (B6 false), (I6 n), (B6 (decide (-1073741824 ≤ n ∧ n ≤ 1073741824))), (B6 (!decide (-1073741824 ≤ n ∧ n ≤ 1073741824))), (B6 (!decide (-1073741824 ≤ n ∧ n ≤ 1073741824))), (B6 (!decide (-1073741824 ≤ n ∧ n ≤ 1073741824)))] ++ UU 53, [⟨(Go.Cnt.CA kind base am wc w mc m ec e), 6, .fresh⟩, ⟨txc g t, 17, .fresh⟩, ⟨[(I6 0), (I6 0), .sl [] 0 .nil, .sl [] 0 .nil, .sl [] 0 .nil, .sl [] 0 .nil], 6, .fresh⟩]⟩ (by kernel_rfl) ?_
    cases h2 : (!decide (-1073741824 ≤ n ∧ n ≤ 1073741824))
    · have h2' := h2
      simp only [Bool.and_eq_true, Bool.and_eq_false_iff, Bool.or_eq_true, Bool.or_eq_false_iff, Bool.not_eq_true', Bool.not_eq_false', beq_iff_eq, beq_eq_false_iff_ne, decide_eq_true_eq, decide_eq_false_iff_not, ne_eq] at h2'
      refine PI 1 (6 ≤ 6 ∧ True) ⟨(by omega), trivial⟩ ?_
      refine CD (check kind base am w m e wc mc ec hw hm he (by omega)) ?_
      refine RT 2 ?_
      refine KL (NN 11 11) ⟨[U6, U6, (I6 k), (I6 n), .ptr 0 0, .ptr 1 0, U6, U6, .ptr 2 0] ++ UU 13 ++ [(B6 (!decide (chkP kind base am w m e)))] ++ UU 49, [⟨(Go.Cnt.CA kind base am wc w mc m ec e), 6, .fresh⟩, ⟨txc g t, 17, .fresh⟩, ⟨[(I6 0), (I6 0), .sl [] 0 .nil, .sl [] 0 .nil, .sl [] 0 .nil, .sl [] 0 .nil], 6, .fresh⟩]⟩ ?_
      refine CN (!decide (chkP kind base am w m e)) (fun h3 => ?_) (fun h3 => ?_)
      · have h3' := h3
        simp only [Bool.and_eq_true, Bool.and_eq_false_iff, Bool.or_eq_true, Bool.or_eq_false_iff, Bool.not_eq_true', Bool.not_eq_false', beq_iff_eq, beq_eq_false_iff_ne, decide_eq_true_eq, decide_eq_false_iff_not, ne_eq] at h3'
        refine SQ (RI (6 ≤ 6 ∧ 6 ≤ 6 ∧ True) ⟨(by omega), (by omega), trivial⟩ ?_)
        refine AWP.ret FA
      · have h3' := h3
        simp only [Bool.and_eq_true, Bool.and_eq_false_iff, Bool.or_eq_true, Bool.or_eq_false_iff, Bool.not_eq_true', Bool.not_eq_false', beq_iff_eq, beq_eq_false_iff_ne, decide_eq_true_eq, decide_eq_false_iff_not, ne_eq] at h3'
        (exfalso; (exfalso; simp_all; done); done)
    · have h2' := h2
      simp only [Bool.and_eq_true, Bool.and_eq_false_iff, Bool.or_eq_true, Bool.or_eq_false_iff, Bool.not_eq_true', Bool.not_eq_false', beq_iff_eq, beq_eq_false_iff_ne, decide_eq_true_eq, decide_eq_false_iff_not, ne_eq] at h2'
      refine RT 1 ?_
      refine KL (NN 11 11) ⟨[U6, U6, (I6 k), (I6 n), .ptr 0 0, .ptr 1 0, U6, U6, .ptr 2 0] ++ UU 13 ++ [(B6 true)] ++ UU 49, [⟨(Go.Cnt.CA kind base am wc w mc m ec e), 6, .fresh⟩, ⟨txc g t, 17, .fresh⟩, ⟨[(I6 0), (I6 0), .sl [] 0 .nil, .sl [] 0 .nil, .sl [] 0 .nil, .sl [] 0 .nil], 6, .fresh⟩]⟩ ?_
      refine CN true (fun _ => ?_) (fun h => nomatch h)
      refine SQ (RI (6 ≤ 6 ∧ 6 ≤ 6 ∧ True) ⟨(by omega), (by omega), trivial⟩ ?_)
      refine AWP.ret FA
  · have h1' := of_decide_eq_true h1
    refine RT 3 ?_
    refine KL (NN 11 11) ⟨[U6, U6, (I6 k), (I6 n), .ptr 0 0, .ptr 1 0, U6, U6, .ptr 2 0] ++ UU 13 ++ [(B6 true)] ++ UU 49, [⟨(Go.Cnt.CA kind base am wc w mc m ec e), 6, .fresh⟩, ⟨txc g t, 17, .fresh⟩, ⟨[(I6 0), (I6 0), .sl [] 0 .nil, .sl [] 0 .nil, .sl [] 0 .nil, .sl [] 0 .nil], 6, .fresh⟩]⟩ ?_
    refine CN true (fun _ => ?_) (fun h => nomatch h)
    refine SQ (RI (6 ≤ 6 ∧ 6 ≤ 6 ∧ True) ⟨(by omega), (by omega), trivial⟩ ?_)
    refine AWP.ret FA
theorem do_same (g : Gate) (t : TxD) (v : Nat → Int) (k n : Int) (kind base : Int) (am : List AmtD) (w m e : Nat) (wc mc ec : List AVal) (hw : dataAll wc = true) (hm : dataAll mc = true) (he : dataAll ec = true) (hx : am.length ≤ 60) (hc : chkP kind base am w m e) (hk : 1 ≤ k) (hn : -1073741824 ≤ n ∧ n ≤ 1073741824) (i : Nat) (hi : i < am.length) (hbef : ∀ j, j < i → lessA (am.getD j am0) ⟨t.p, t.s, k, n⟩) (heq : (am.getD i am0).p = t.p ∧ (am.getD i am0).s = t.s ∧ (am.getD i am0).i = k) :
    EvD Try.prog 37 [.agg [.sc (.int .i64 kind), .sc (.int .i64 base), .sl (amsc am) am.length .any, .sl wc w .any, .sl mc m .any, .sl ec e .any], .agg (txc g t), .sc (.int .i64 k), .sc (.int .i64 n)] (.agg [.sc (.int .i64 kind), .sc (.int .i64 base), .sl (amsc am) am.length .any, .sl wc w .any, .sl mc m .any, .sl ec e .any]) := by
  have hstop : i < am.length → ¬ lessA (am.getD i am0) ⟨t.p, t.s, k, n⟩ := fun _ h => by
    obtain ⟨e1, e2, e3⟩ := heq
    change lessP _ _ _ t.p t.s k at h
    rw [e1, e2, e3] at h; unfold lessP at h; omega
  refine EvD.body Try.func37 rfl (by simp [dataAll, AVal.data, *]) (by simp [dataAll, AVal.data, *]) ?_
  refine AWP.seq ?_
  refine TO ⟨[.agg (Go.Cnt.CA kind base am wc w mc m ec e), .agg (txc g t), (I6 k), (I6 n)] ++ UU 68, []⟩ ?_
  refine AWP.reg (RT 3 ?_)
  refine AWP.seq (AWP.seq (KL [0, 1] ⟨[U6, U6, (I6 k), (I6 n), .ptr 0 0, .ptr 1 0, U6, U6, .ptr 2 0] ++ UU 63, [⟨(Go.Cnt.CA kind base am wc w mc m ec e), 6, .fresh⟩, ⟨txc g t, 17, .fresh⟩, ⟨[(I6 0), (I6 0), .sl [] 0 .nil, .sl [] 0 .nil, .sl [] 0 .nil, .sl [] 0 .nil], 6, .fresh⟩]⟩ ?_))
  refine AWP.reg (PT 3 3 ?_)
  refine DerQ.to ⟨[U6, U6, (I6 k), (I6 n), .ptr 0 0, .ptr 1 0, U6, U6, .ptr 2 0, U6, U6, (I6 k), (B6 (decide (k < 1))), (B6 (decide (k < 1)))] ++ UU 58, [⟨(Go.Cnt.CA kind base am wc w mc m ec e), 6, .fresh⟩, ⟨txc g t, 17, .fresh⟩, ⟨[(I6 0), (I6 0), .sl [] 0 .nil, .sl [] 0 .nil, .sl [] 0 .nil, .sl [] 0 .nil], 6, .fresh⟩]⟩ (by kernel_rfl) ?_
  cases h1 : (decide (k < 1))
  · have h1' := of_decide_eq_false h1
    refine PT 1 1 ?_
    refine CD (within n 1073741824 ⟨(by omega), (by omega)⟩) ?_
    refine PT 3 3 ?_
    refine DerQ.to ⟨[U6, U6, (I6 k), (I6 n), .ptr 0 0, .ptr 1 0, U6, U6, .ptr 2 0, U6, U6, (I6 k), (B6 false), (B6 false), (I6 n), (B6 (decide (-1073741824 ≤ n ∧ n ≤ 1073741824))), (B6 (!decide (-1073741824 ≤ n ∧ n ≤ 1073741824))), (B6 (!decide (-1073741824 ≤ n ∧ n ≤ 1073741824))), (B6 (!decide (-1073741824 ≤ n ∧ n ≤ 1073741824)))] ++ UU 53, [⟨(Go.Cnt.CA kind base am wc w mc m ec e), 6, .fresh⟩, ⟨txc g t, 17, .fresh⟩, ⟨[(I6 0), (I6 0), .sl [] 0 .nil, .sl [] 0 .nil, .sl [] 0 .nil, .sl [] 0 .nil], 6, .fresh⟩]⟩ (by kernel_rfl) ?_
    cases h2 : (!decide (-1073741824 ≤ n ∧ n ≤ 1073741824))
    · have h2' := h2
      simp only [Bool.and_eq_true, Bool.and_eq_false_iff, Bool.or_eq_true, Bool.or_eq_false_iff, Bool.not_eq_true', Bool.not_eq_false', beq_iff_eq, beq_eq_false_iff_ne, decide_eq_true_eq, decide_eq_false_iff_not, ne_eq] at h2'
      refine PI 1 (6 ≤ 6 ∧ True) ⟨(by omega), trivial⟩ ?_
      refine CD (check kind base am w m e wc mc ec hw hm he (by omega)) ?_
      refine RT 2 ?_
      refine KL (NN 11 11) ⟨[U6, U6, (I6 k), (I6 n), .ptr 0 0, .ptr 1 0, U6, U6, .ptr 2 0] ++ UU 13 ++ [(B6 (!decide (chkP kind base am w m e)))] ++ UU 49, [⟨(Go.Cnt.CA kind base am wc w mc m ec e), 6, .fresh⟩, ⟨txc g t, 17, .fresh⟩, ⟨[(I6 0), (I6 0), .sl [] 0 .nil, .sl [] 0 .nil, .sl [] 0 .nil, .sl [] 0 .nil], 6, .fresh⟩]⟩ ?_
      refine CN (!decide (chkP kind base am w m e)) (fun h3 => ?_) (fun h3 => ?_)
      · have h3' := h3
        simp only [Bool.and_eq_true, Bool.and_eq_false_iff, Bool.or_eq_true, Bool.or_eq_false_iff, Bool.not_eq_true', Bool.not_eq_false', beq_iff_eq, beq_eq_false_iff_ne, decide_eq_true_eq, decide_eq_false_iff_not, ne_eq] at h3'
        exact absurd h3 (by simp [*])
      · have h3' := h3
        simp only [Bool.and_eq_true, Bool.and_eq_false_iff, Bool.or_eq_true, Bool.or_eq_false_iff, Bool.not_eq_true', Bool.not_eq_false', beq_iff_eq, beq_eq_false_iff_ne, decide_eq_true_eq, decide_eq_false_iff_not, ne_eq] at h3'
        refine AWP.skip (SQ ?_)
        refine DerQ.pre 3 (True ∧ (2 ≤ List.length (txc g t)) ∧ True ∧ True) ⟨[U6, U6, (I6 k), (I6 n), .ptr 0 0, .ptr 1 0, U6, U6, .ptr 2 0] ++ UU 13 ++ [(B6 (!decide (chkP kind base am w m e))), U6, .ptr 1 0, .agg (List.take 2 (List.drop 0 (txc g t))), (I6 k)] ++ UU 45, [⟨(Go.Cnt.CA kind base am wc w mc m ec e), 6, .fresh⟩, ⟨txc g t, 17, .fresh⟩, ⟨[(I6 0), (I6 0), .sl [] 0 .nil, .sl [] 0 .nil, .sl [] 0 .nil, .sl [] 0 .nil], 6, .fresh⟩]⟩ (by kernel_rfl) ⟨trivial, (by simp), trivial, trivial⟩ ?_
        rw [List.drop_zero]
        rw [Go.Ops.tx_dot (g) (t)]
        refine RI (True ∧ True ∧ True ∧ True ∧ 4 ≤ 4 ∧ True) ⟨trivial, trivial, trivial, trivial, (by omega), trivial⟩ ?_
        refine AWP.seq (KL ([2, 3, 5, 22] ++ NN 24 6) ⟨[U6, U6, U6, U6, .ptr 0 0, U6, U6, U6, .ptr 2 0, .ptr 3 0] ++ UU 62, [⟨(Go.Cnt.CA kind base am wc w mc m ec e), 6, .fresh⟩, ⟨txc g t, 17, .fresh⟩, ⟨[(I6 0), (I6 0), .sl [] 0 .nil, .sl [] 0 .nil, .sl [] 0 .nil, .sl [] 0 .nil], 6, .fresh⟩, ⟨[(I6 (t.p)), (I6 (t.s)), (I6 k), (I6 n)], 4, .fresh⟩]⟩ ?_)
        refine AWP.reg (RT 1 ?_)
        refine AWP.seq (AWP.block ?_)
        refine TO ⟨[U6, U6, U6, U6, .ptr 0 0, U6, U6, U6, .ptr 2 0, .ptr 3 0, (I6 0)] ++ UU 61, [⟨(Go.Cnt.CA kind base am wc w mc m ec e), 6, .fresh⟩, ⟨txc g t, 17, .fresh⟩, ⟨[(I6 0), (I6 0), .sl [] 0 .nil, .sl [] 0 .nil, .sl [] 0 .nil, .sl [] 0 .nil], 6, .fresh⟩, ⟨[(I6 (t.p)), (I6 (t.s)), (I6 k), (I6 n)], 4, .fresh⟩]⟩ ?_
        refine AWP.loopM [false, false, false, false, true, false, false, false, true, true, true, false, false, false, false, false, false, false, false, false, false, false, false, false, false, false, false, false, false, false, false, false, false, false, false, false, false, false, false, false, false, false, false, false, false, false, false, false, false, false, false, false, false, false, false, false, false, false, false, false, false, false, false, false, false, false, false, false, false, false, false, false] (fun kk st => ∃ (j : Nat), kk = am.length - j ∧ j ≤ i ∧ st = ⟨[U6, U6, U6, U6, .ptr 0 0, U6, U6, U6, .ptr 2 0, .ptr 3 0, (I6 (j : Int)), U6, U6, U6, U6, U6, U6, U6, U6, U6, U6, U6, U6, U6, U6, U6, U6, U6, U6, U6, U6, U6, U6, U6, U6, U6, U6, U6, U6, U6, U6, U6, U6, U6, U6, U6, U6, U6, U6, U6, U6, U6, U6, U6, U6, U6, U6, U6, U6, U6, U6, U6, U6, U6, U6, U6, U6, U6, U6, U6, U6, .undef], [⟨(Go.Cnt.CA kind base am wc w mc m ec e), 6, .fresh⟩, ⟨txc g t, 17, .fresh⟩, ⟨[(I6 0), (I6 0), .sl [] 0 .nil, .sl [] 0 .nil, .sl [] 0 .nil, .sl [] 0 .nil], 6, .fresh⟩, ⟨[(I6 (t.p)), (I6 (t.s)), (I6 k), (I6 n)], 4, .fresh⟩]⟩) _ ⟨0, rfl, by omega, by kernel_rfl⟩ ?_
        rintro kk s ⟨j, rfl, hj, rfl⟩
        have hl := hbef j
        have hpr : lessA (am.getD j am0) ⟨t.p, t.s, k, n⟩ ↔ lessA (List.getD am j am0) (AmtD.mk t.p t.s k n) := Iff.rfl
        have hji := at_stop (x := AmtD.mk t.p t.s k n) hbef hj
        have hjn := at_go (x := AmtD.mk t.p t.s k n) hstop hj
        refine AWP.seq (AWP.seq ?_)
        refine AWP.drawX mixed (fun o => [42].contains (o.dst.getD 0)) (by kernel_rfl) ?_
        refine DerX.preI 6 ((True) ∧ ((True) ∧ (((2 : Nat) < (6 : Nat)) ∧ ((True) ∧ ((True) ∧ ((True) ∧ (True))))))) (by intro ext; kernel_rfl) ⟨trivial, ⟨trivial, ⟨(by omega), ⟨trivial, ⟨trivial, ⟨trivial, trivial⟩⟩⟩⟩⟩⟩ ?_
        refine AWP.toX ⟨[U6, U6, U6, U6, .ptr 0 0, U6, U6, U6, .ptr 2 0, .ptr 3 0, (I6 (↑j : Int))] ++ UU 19 ++ [(I6 (↑j : Int)), .ptr 0 2, .sl (amsc am) (List.length am) .any, (I6 (↑(List.length am) : Int)), (B6 (decide ((↑j : Int) < (↑(List.length am) : Int)))), (B6 (decide ((↑j : Int) < (↑(List.length am) : Int))))] ++ UU 36, [⟨(Go.Cnt.CA kind base am wc w mc m ec e), 6, .fresh⟩, ⟨txc g t, 17, .fresh⟩, ⟨[(I6 0), (I6 0), .sl [] 0 .nil, .sl [] 0 .nil, .sl [] 0 .nil, .sl [] 0 .nil], 6, .fresh⟩, ⟨[(I6 (t.p)), (I6 (t.s)), (I6 k), (I6 n)], 4, .fresh⟩]⟩ (by kernel_rfl) ?_
        cases h4 : (decide ((↑j : Int) < (↑(List.length am) : Int)))
        · have h4' := of_decide_eq_false h4
          exfalso; omega
        · have h4' := of_decide_eq_true h4
          refine DerX.pre 6 ((True) ∧ (((2 : Nat) < (6 : Nat)) ∧ ((True) ∧ ((((0 ≤ (↑j : Int)) ∧ ((↑j : Int) < (↑(List.length am) : Int))) ∧ (Int.toNat (↑j : Int) * 4 + 4 ≤ List.length (amsc am))) ∧ (((4 : Nat) ≤ (4 : Nat)) ∧ (((4 : Nat) ≤ (4 : Nat)) ∧ (True))))))) [.ptr 0 2, .sl (amsc am) (List.length am) .any, (I6 (↑j : Int)), .dptr [List.getD (amsc am) (Int.toNat (↑j : Int) * 4 + 0) U6, List.getD (amsc am) (Int.toNat (↑j : Int) * 4 + 1) U6, List.getD (amsc am) (Int.toNat (↑j : Int) * 4 + 2) U6, List.getD (amsc am) (Int.toNat (↑j : Int) * 4 + 3) AVal.undef], .agg [List.getD (amsc am) (Int.toNat (↑j : Int) * 4 + 0) U6, List.getD (amsc am) (Int.toNat (↑j : Int) * 4 + 1) U6, List.getD (amsc am) (Int.toNat (↑j : Int) * 4 + 2) U6, List.getD (amsc am) (Int.toNat (↑j : Int) * 4 + 3) AVal.undef], .agg [(I6 (t.p)), (I6 (t.s)), (I6 k), (I6 n)]] ⟨[U6, U6, U6, U6, .ptr 0 0, U6, U6, U6, .ptr 2 0, .ptr 3 0, (I6 (↑j : Int))] ++ UU 19 ++ [(I6 (↑j : Int)), .ptr 0 2, .sl (amsc am) (List.length am) .any, (I6 (↑(List.length am) : Int)), (B6 true), (B6 true), .ptr 0 2, .sl (amsc am) (List.length am) .any, (I6 (↑j : Int)), .dptr [List.getD (amsc am) (Int.toNat (↑j : Int) * 4 + 0) U6, List.getD (amsc am) (Int.toNat (↑j : Int) * 4 + 1) U6, List.getD (amsc am) (Int.toNat (↑j : Int) * 4 + 2) U6, List.getD (amsc am) (Int.toNat (↑j : Int) * 4 + 3) AVal.undef], .agg [List.getD (amsc am) (Int.toNat (↑j : Int) * 4 + 0) U6, List.getD (amsc am) (Int.toNat (↑j : Int) * 4 + 1) U6, List.getD (amsc am) (Int.toNat (↑j : Int) * 4 + 2) U6, List.getD (amsc am) (Int.toNat (↑j : Int) * 4 + 3) AVal.undef], .agg [(I6 (t.p)), (I6 (t.s)), (I6 k), (I6 n)]] ++ UU 30, [⟨(Go.Cnt.CA kind base am wc w mc m ec e), 6, .fresh⟩, ⟨txc g t, 17, .fresh⟩, ⟨[(I6 0), (I6 0), .sl [] 0 .nil, .sl [] 0 .nil, .sl [] 0 .nil, .sl [] 0 .nil], 6, .fresh⟩, ⟨[(I6 (t.p)), (I6 (t.s)), (I6 k), (I6 n)], 4, .fresh⟩]⟩ (by intro ext; kernel_rfl) (by kernel_rfl) ⟨trivial, ⟨(by omega), ⟨trivial, ⟨⟨⟨(by omega), (by omega)⟩, (by (simp [spliceA_length] <;> omega))⟩, ⟨(by omega), ⟨(by omega), trivial⟩⟩⟩⟩⟩⟩ ?_
          rw [Int.toNat_natCast (j)]
          rw [Nat.add_zero (j * 4)]
          rw [Go.Cnt.amsc_cells (am) (j) (by omega)]
          refine DerX.callDI (ahead (List.getD am j am0) ⟨t.p, t.s, k, n⟩) ⟨by kernel_rfl, by kernel_rfl⟩ ?_
          refine DerX.quietI (True) (by intro ext; kernel_rfl) (by kernel_rfl) trivial ?_
          refine DerX.nil ?_
          refine KL (NN 30 13) ⟨[U6, U6, U6, U6, .ptr 0 0, U6, U6, U6, .ptr 2 0, .ptr 3 0, (I6 (↑j : Int))] ++ UU 32 ++ [(B6 (decide (lessA (List.getD am j am0) { p := t.p, s := t.s, i := k, n := n })))] ++ UU 28, [⟨(Go.Cnt.CA kind base am wc w mc m ec e), 6, .fresh⟩, ⟨txc g t, 17, .fresh⟩, ⟨[(I6 0), (I6 0), .sl [] 0 .nil, .sl [] 0 .nil, .sl [] 0 .nil, .sl [] 0 .nil], 6, .fresh⟩, ⟨[(I6 (t.p)), (I6 (t.s)), (I6 k), (I6 n)], 4, .fresh⟩]⟩ ?_
          refine CN (decide (lessA (List.getD am j am0) { p := t.p, s := t.s, i := k, n := n })) (fun h5 => ?_) (fun h5 => ?_)
          · have h5' := of_decide_eq_true h5
            refine AWP.skip (AWP.block (AWP.reg ?_))
            refine DerQ.run (TT 3) ⟨[U6, U6, U6, U6, .ptr 0 0, U6, U6, U6, .ptr 2 0, .ptr 3 0, (I6 (IntKind.wrap IntKind.i64 ((↑j : Int) + 1)))] ++ UU 32 ++ [(B6 (decide (lessA (List.getD am j am0) { p := t.p, s := t.s, i := k, n := n }))), (I6 (↑j : Int)), (I6 (IntKind.wrap IntKind.i64 ((↑j : Int) + 1)))] ++ UU 26, [⟨(Go.Cnt.CA kind base am wc w mc m ec e), 6, .fresh⟩, ⟨txc g t, 17, .fresh⟩, ⟨[(I6 0), (I6 0), .sl [] 0 .nil, .sl [] 0 .nil, .sl [] 0 .nil, .sl [] 0 .nil], 6, .fresh⟩, ⟨[(I6 (t.p)), (I6 (t.s)), (I6 k), (I6 n)], 4, .fresh⟩]⟩ (by kernel_rfl) (tt 3) ?_
            rw [IntWalk.i64_in ((↑j : Int) + 1) (by omega)]
            (exact ⟨_, by omega, j + 1, rfl, hjn (by assumption) (by omega), by kernel_rfl⟩; done)
          · have h5' := of_decide_eq_false h5
            refine AWP.exit ?_
            refine AWP.seq (AWP.seq ?_)
            refine AWP.drawX mixed (fun _ => false) (by kernel_rfl) ?_
            refine DerX.preI 6 ((True) ∧ ((True) ∧ (((2 : Nat) < (6 : Nat)) ∧ ((True) ∧ ((True) ∧ ((True) ∧ (True))))))) (by intro ext; kernel_rfl) ⟨trivial, ⟨trivial, ⟨(by omega), ⟨trivial, ⟨trivial, ⟨trivial, trivial⟩⟩⟩⟩⟩⟩ ?_
            refine AWP.toX ⟨[U6, U6, U6, U6, .ptr 0 0, U6, U6, U6, .ptr 2 0, .ptr 3 0, (I6 (↑j : Int))] ++ UU 32 ++ [(B6 (decide (lessA (List.getD am j am0) { p := t.p, s := t.s, i := k, n := n }))), U6, U6, (I6 (↑j : Int)), .ptr 0 2, .sl (amsc am) (List.length am) .any, (I6 (↑(List.length am) : Int)), (B6 (decide ((↑j : Int) < (↑(List.length am) : Int)))), (B6 (decide ((↑j : Int) < (↑(List.length am) : Int))))] ++ UU 20, [⟨(Go.Cnt.CA kind base am wc w mc m ec e), 6, .fresh⟩, ⟨txc g t, 17, .fresh⟩, ⟨[(I6 0), (I6 0), .sl [] 0 .nil, .sl [] 0 .nil, .sl [] 0 .nil, .sl [] 0 .nil], 6, .fresh⟩, ⟨[(I6 (t.p)), (I6 (t.s)), (I6 k), (I6 n)], 4, .fresh⟩]⟩ (by kernel_rfl) ?_
            rw [h4]
            refine DerX.pre 8 ((True) ∧ (((2 : Nat) < (6 : Nat)) ∧ ((True) ∧ ((((0 ≤ (↑j : Int)) ∧ ((↑j : Int) < (↑(List.length am) : Int))) ∧ (Int.toNat (↑j : Int) * 4 + 4 ≤ List.length (amsc am))) ∧ (((3 : Nat) ≤ (4 : Nat)) ∧ (((3 : Nat) ≤ (3 : Nat)) ∧ ((True) ∧ (((3 : Nat) ≤ (4 : Nat)) ∧ (True))))))))) [.ptr 0 2, .sl (amsc am) (List.length am) .any, (I6 (↑j : Int)), .dptr [List.getD (amsc am) (Int.toNat (↑j : Int) * 4 + 0) U6, List.getD (amsc am) (Int.toNat (↑j : Int) * 4 + 1) U6, List.getD (amsc am) (Int.toNat (↑j : Int) * 4 + 2) U6, List.getD (amsc am) (Int.toNat (↑j : Int) * 4 + 3) AVal.undef], .dptr [List.getD (amsc am) (Int.toNat (↑j : Int) * 4 + 0) U6, List.getD (amsc am) (Int.toNat (↑j : Int) * 4 + 1) U6, List.getD (amsc am) (Int.toNat (↑j : Int) * 4 + 2) AVal.undef], .agg [List.getD (amsc am) (Int.toNat (↑j : Int) * 4 + 0) U6, List.getD (amsc am) (Int.toNat (↑j : Int) * 4 + 1) U6, List.getD (amsc am) (Int.toNat (↑j : Int) * 4 + 2) AVal.undef], .ptr 3 0, .agg [(I6 (t.p)), (I6 (t.s)), (I6 k)]] ⟨[U6, U6, U6, U6, .ptr 0 0, U6, U6, U6, .ptr 2 0, .ptr 3 0, (I6 (↑j : Int))] ++ UU 32 ++ [(B6 (decide (lessA (List.getD am j am0) { p := t.p, s := t.s, i := k, n := n }))), U6, U6, (I6 (↑j : Int)), .ptr 0 2, .sl (amsc am) (List.length am) .any, (I6 (↑(List.length am) : Int)), (B6 true), (B6 true), .ptr 0 2, .sl (amsc am) (List.length am) .any, (I6 (↑j : Int)), .dptr [List.getD (amsc am) (Int.toNat (↑j : Int) * 4 + 0) U6, List.getD (amsc am) (Int.toNat (↑j : Int) * 4 + 1) U6, List.getD (amsc am) (Int.toNat (↑j : Int) * 4 + 2) U6, List.getD (amsc am) (Int.toNat (↑j : Int) * 4 + 3) AVal.undef], .dptr [List.getD (amsc am) (Int.toNat (↑j : Int) * 4 + 0) U6, List.getD (amsc am) (Int.toNat (↑j : Int) * 4 + 1) U6, List.getD (amsc am) (Int.toNat (↑j : Int) * 4 + 2) AVal.undef], .agg [List.getD (amsc am) (Int.toNat (↑j : Int) * 4 + 0) U6, List.getD (amsc am) (Int.toNat (↑j : Int) * 4 + 1) U6, List.getD (amsc am) (Int.toNat (↑j : Int) * 4 + 2) AVal.undef], .ptr 3 0, .agg [(I6 (t.p)), (I6 (t.s)), (I6 k)]] ++ UU 12, [⟨(Go.Cnt.CA kind base am wc w mc m ec e), 6, .fresh⟩, ⟨txc g t, 17, .fresh⟩, ⟨[(I6 0), (I6 0), .sl [] 0 .nil, .sl [] 0 .nil, .sl [] 0 .nil, .sl [] 0 .nil], 6, .fresh⟩, ⟨[(I6 (t.p)), (I6 (t.s)), (I6 k), (I6 n)], 4, .fresh⟩]⟩ (by intro ext; kernel_rfl) (by kernel_rfl) ⟨trivial, ⟨(by omega), ⟨trivial, ⟨⟨⟨(by omega), (by omega)⟩, (by (simp [spliceA_length] <;> omega))⟩, ⟨(by omega), ⟨(by omega), ⟨trivial, ⟨(by omega), trivial⟩⟩⟩⟩⟩⟩⟩⟩ ?_
            rw [Int.toNat_natCast (j)]
            rw [Nat.add_zero (j * 4)]
            rw [Go.Cnt.amsc_cells (am) (j) (by omega)]
            rw [Go.Cnt.amsc_mark (am) (j) (by omega)]
            refine DerX.preI 2 (((((2 : Nat) ≤ (3 : Nat)) ∧ (((2 : Nat) ≤ (3 : Nat)) ∧ ((((0 : Nat) < (2 : Nat)) ∧ (((0 : Nat) < (2 : Nat)) ∧ (True))) ∧ (((1 : Nat) < (2 : Nat)) ∧ (((1 : Nat) < (2 : Nat)) ∧ (True)))))) ∧ (((2 : Nat) < (3 : Nat)) ∧ (((2 : Nat) < (3 : Nat)) ∧ (True)))) ∧ ((True) ∧ (True))) (by intro ext; kernel_rfl) ⟨⟨⟨(by omega), ⟨(by omega), ⟨⟨(by omega), ⟨(by omega), trivial⟩⟩, ⟨(by omega), ⟨(by omega), trivial⟩⟩⟩⟩⟩, ⟨(by omega), ⟨(by omega), trivial⟩⟩⟩, ⟨trivial, trivial⟩⟩ ?_
            refine DerX.nil ?_
            refine KL ([43] ++ NN 46 15) ⟨[U6, U6, U6, U6, .ptr 0 0, U6, U6, U6, .ptr 2 0, .ptr 3 0, (I6 (↑j : Int))] ++ UU 50 ++ [(B6 ((List.getD am j am0).p == t.p && (List.getD am j am0).s == t.s && (List.getD am j am0).i == k))] ++ UU 10, [⟨(Go.Cnt.CA kind base am wc w mc m ec e), 6, .fresh⟩, ⟨txc g t, 17, .fresh⟩, ⟨[(I6 0), (I6 0), .sl [] 0 .nil, .sl [] 0 .nil, .sl [] 0 .nil, .sl [] 0 .nil], 6, .fresh⟩, ⟨[(I6 (t.p)), (I6 (t.s)), (I6 k), (I6 n)], 4, .fresh⟩]⟩ ?_
            refine CN ((List.getD am j am0).p == t.p && (List.getD am j am0).s == t.s && (List.getD am j am0).i == k) (fun h6 => ?_) (fun h6 => ?_)
            · have h6' := h6
              simp only [Bool.and_eq_true, Bool.and_eq_false_iff, Bool.or_eq_true, Bool.or_eq_false_iff, Bool.not_eq_true', Bool.not_eq_false', beq_iff_eq, beq_eq_false_iff_ne, decide_eq_true_eq, decide_eq_false_iff_not, ne_eq] at h6'
              refine SQ (RI (6 ≤ 6 ∧ 6 ≤ 6 ∧ True) ⟨(by omega), (by omega), trivial⟩ ?_)
              refine AWP.ret FA
            · have h6' := h6
              simp only [Bool.and_eq_true, Bool.and_eq_false_iff, Bool.or_eq_true, Bool.or_eq_false_iff, Bool.not_eq_true', Bool.not_eq_false', beq_iff_eq, beq_eq_false_iff_ne, decide_eq_true_eq, decide_eq_false_iff_not, ne_eq] at h6'
              (exfalso; (obtain rfl : j = i := hji (by assumption); simp_all; done); done)
    · have h2' := h2
      simp only [Bool.and_eq_true, Bool.and_eq_false_iff, Bool.or_eq_true, Bool.or_eq_false_iff, Bool.not_eq_true', Bool.not_eq_false', beq_iff_eq, beq_eq_false_iff_ne, decide_eq_true_eq, decide_eq_false_iff_not, ne_eq] at h2'
      exfalso; omega
  · have h1' := of_decide_eq_true h1
    exfalso; omega
theorem clear_no (g : Gate) (t : TxD) (v : Nat → Int) (k n : Int) (kind base : Int) (am : List AmtD) (w m e : Nat) (wc mc ec : List AVal) (hw : dataAll wc = true) (hm : dataAll mc = true) (he : dataAll ec = true) (hx : am.length ≤ 60) (hc : ¬ chkP kind base am w m e) :
    EvD Try.prog 33 [.agg [.sc (.int .i64 kind), .sc (.int .i64 base), .sl (amsc am) am.length .any, .sl wc w .any, .sl mc m .any, .sl ec e .any], .agg (txc g t), .sc (.int .i64 k)] (.agg [.sc (.int .i64 kind), .sc (.int .i64 base), .sl (amsc am) am.length .any, .sl wc w .any, .sl mc m .any, .sl ec e .any]) := by
  refine EvD.body Try.func33 rfl (by simp [dataAll, AVal.data, *]) (by simp [dataAll, AVal.data, *]) ?_
  refine AWP.seq ?_
  refine TO ⟨[.agg (Go.Cnt.CA kind base am wc w mc m ec e), .agg (txc g t), (I6 k)] ++ UU 16, []⟩ ?_
  refine AWP.reg (RT 4 ?_)
  refine AWP.seq (AWP.seq (KL [0, 1, 2] ⟨[U6, U6, U6, .ptr 0 0, .ptr 1 0, .ptr 2 0, .ptr 3 0] ++ UU 12, [⟨(Go.Cnt.CA kind base am wc w mc m ec e), 6, .fresh⟩, ⟨txc g t, 17, .fresh⟩, ⟨[(I6 k)], 1, .fresh⟩, ⟨[(I6 0), (I6 0), .sl [] 0 .nil, .sl [] 0 .nil, .sl [] 0 .nil, .sl [] 0 .nil], 6, .fresh⟩]⟩ ?_))
  refine AWP.reg (PI 1 (6 ≤ 6 ∧ True) ⟨(by omega), trivial⟩ ?_)
  refine CD (check kind base am w m e wc mc ec hw hm he (by omega)) ?_
  refine DerQ.nil ?_
  refine KL [7] ⟨[U6, U6, U6, .ptr 0 0, .ptr 1 0, .ptr 2 0, .ptr 3 0, U6, (B6 (decide (chkP kind base am w m e)))] ++ UU 10, [⟨(Go.Cnt.CA kind base am wc w mc m ec e), 6, .fresh⟩, ⟨txc g t, 17, .fresh⟩, ⟨[(I6 k)], 1, .fresh⟩, ⟨[(I6 0), (I6 0), .sl [] 0 .nil, .sl [] 0 .nil, .sl [] 0 .nil, .sl [] 0 .nil], 6, .fresh⟩]⟩ ?_
  refine CN (decide (chkP kind base am w m e)) (fun h1 => ?_) (fun h1 => ?_)
  · have h1' := of_decide_eq_true h1
    (exfalso; exact absurd (by assumption) hc; done)
  · have h1' := of_decide_eq_false h1
    refine AWP.skip (SQ (RI (6 ≤ 6 ∧ 6 ≤ 6 ∧ True) ⟨(by omega), (by omega), trivial⟩ ?_))
    refine AWP.ret FA
theorem fold_no (g : Gate) (t : TxD) (v : Nat → Int) (k n : Int) (kind base : Int) (am : List AmtD) (w m e : Nat) (wc mc ec : List AVal) (hw : dataAll wc = true) (hm : dataAll mc = true) (he : dataAll ec = true) (hx : am.length ≤ 60) (hc : ¬ chkP kind base am w m e) :
    EvD Try.prog 40 [.agg [.sc (.int .i64 kind), .sc (.int .i64 base), .sl (amsc am) am.length .any, .sl wc w .any, .sl mc m .any, .sl ec e .any], .agg (vecc g v)] (.agg [.sc (.int .i64 kind), .sc (.int .i64 base), .sl (amsc am) am.length .any, .sl wc w .any, .sl mc m .any, .sl ec e .any]) := by
  refine EvD.body Try.func40 rfl (by simp [dataAll, AVal.data, *]) (by simp [dataAll, AVal.data, *]) ?_
  refine AWP.seq ?_
  refine TO ⟨[.agg (Go.Cnt.CA kind base am wc w mc m ec e), .agg (vecc g v)] ++ UU 31, []⟩ ?_
  refine AWP.reg (RT 3 ?_)
  refine AWP.seq (AWP.seq (KL [0, 1] ⟨[U6, U6, .ptr 0 0, .ptr 1 0, .ptr 2 0] ++ UU 28, [⟨(Go.Cnt.CA kind base am wc w mc m ec e), 6, .fresh⟩, ⟨vecc g v, 1, .fresh⟩, ⟨[(I6 0), (I6 0), .sl [] 0 .nil, .sl [] 0 .nil, .sl [] 0 .nil, .sl [] 0 .nil], 6, .fresh⟩]⟩ ?_))
  refine AWP.reg (PI 1 (6 ≤ 6 ∧ True) ⟨(by omega), trivial⟩ ?_)
  refine CD (check kind base am w m e wc mc ec hw hm he (by omega)) ?_
  refine RT 1 ?_
  refine KL [7, 8] ⟨[U6, U6, .ptr 0 0, .ptr 1 0, .ptr 2 0, U6, U6, U6, U6, (B6 (!decide (chkP kind base am w m e)))] ++ UU 23, [⟨(Go.Cnt.CA kind base am wc w mc m ec e), 6, .fresh⟩, ⟨vecc g v, 1, .fresh⟩, ⟨[(I6 0), (I6 0), .sl [] 0 .nil, .sl [] 0 .nil, .sl [] 0 .nil, .sl [] 0 .nil], 6, .fresh⟩]⟩ ?_
  refine CN (!decide (chkP kind base am w m e)) (fun h1 => ?_) (fun h1 => ?_)
  · have h1' := h1
    simp only [Bool.and_eq_true, Bool.and_eq_false_iff, Bool.or_eq_true, Bool.or_eq_false_iff, Bool.not_eq_true', Bool.not_eq_false', beq_iff_eq, beq_eq_false_iff_ne, decide_eq_true_eq, decide_eq_false_iff_not, ne_eq] at h1'
    refine SQ (RI (6 ≤ 6 ∧ 6 ≤ 6 ∧ True) ⟨(by omega), (by omega), trivial⟩ ?_)
    refine AWP.ret FA
  · have h1' := h1
    simp only [Bool.and_eq_true, Bool.and_eq_false_iff, Bool.or_eq_true, Bool.or_eq_false_iff, Bool.not_eq_true', Bool.not_eq_false', beq_iff_eq, beq_eq_false_iff_ne, decide_eq_true_eq, decide_eq_false_iff_not, ne_eq] at h1'
    (exfalso; exact absurd (by assumption) hc; done)
theorem read_no (g : Gate) (t : TxD) (v : Nat → Int) (k n : Int) (kind base : Int) (am : List AmtD) (w m e : Nat) (wc mc ec : List AVal) (hw : dataAll wc = true) (hm : dataAll mc = true) (he : dataAll ec = true) (hx : am.length ≤ 60) (hc : ¬ chkP kind base am w m e) :
    EvD Try.prog 34 [.agg [.sc (.int .i64 kind), .sc (.int .i64 base), .sl (amsc am) am.length .any, .sl wc w .any, .sl mc m .any, .sl ec e .any]] (.agg [.sc (.int .i64 0), .sc (.int .i64 0), .sl [] 0 .any, .sl [] 0 .any]) := by
  refine EvD.body Try.func34 rfl (by simp [dataAll, AVal.data, *]) (by simp [dataAll, AVal.data, *]) ?_
  refine AWP.seq ?_
  refine TO ⟨[.agg (Go.Cnt.CA kind base am wc w mc m ec e)] ++ UU 19, []⟩ ?_
  refine AWP.reg (RT 2 ?_)
  refine AWP.seq (AWP.seq (KL [0] ⟨[U6, .ptr 0 0, .ptr 1 0] ++ UU 17, [⟨(Go.Cnt.CA kind base am wc w mc m ec e), 6, .fresh⟩, ⟨[(I6 0), (I6 0), .sl [] 0 .nil, .sl [] 0 .nil], 4, .fresh⟩]⟩ ?_))
  refine AWP.reg (PI 1 (6 ≤ 6 ∧ True) ⟨(by omega), trivial⟩ ?_)
  refine CD (check kind base am w m e wc mc ec hw hm he (by omega)) ?_
  refine RT 1 ?_
  refine KL [5, 6] ⟨[U6, .ptr 0 0, .ptr 1 0, U6, U6, U6, U6, (B6 (!decide (chkP kind base am w m e)))] ++ UU 12, [⟨(Go.Cnt.CA kind base am wc w mc m ec e), 6, .fresh⟩, ⟨[(I6 0), (I6 0), .sl [] 0 .nil, .sl [] 0 .nil], 4, .fresh⟩]⟩ ?_
  refine CN (!decide (chkP kind base am w m e)) (fun h1 => ?_) (fun h1 => ?_)
  · have h1' := h1
    simp only [Bool.and_eq_true, Bool.and_eq_false_iff, Bool.or_eq_true, Bool.or_eq_false_iff, Bool.not_eq_true', Bool.not_eq_false', beq_iff_eq, beq_eq_false_iff_ne, decide_eq_true_eq, decide_eq_false_iff_not, ne_eq] at h1'
    refine SQ (RI (True ∧ 4 ≤ 4 ∧ True) ⟨trivial, (by omega), trivial⟩ ?_)
    refine AWP.ret ?_
    refine FI (.agg [(I6 0), (I6 0), .sl [] 0 .nil, .sl [] 0 .nil]) ?_
    refine Shrink.dataK [] (True) (.agg [(I6 0), (I6 0), .sl [] 0 .nil, .sl [] 0 .nil]) (by kernel_rfl) trivial ?_ rfl
    kernel_rfl
  · have h1' := h1
    simp only [Bool.and_eq_true, Bool.and_eq_false_iff, Bool.or_eq_true, Bool.or_eq_false_iff, Bool.not_eq_true', Bool.not_eq_false', beq_iff_eq, beq_eq_false_iff_ne, decide_eq_true_eq, decide_eq_false_iff_not, ne_eq] at h1'
    (exfalso; exact absurd (by assumption) hc; done)
theorem r_clear_no (g : Gate) (t : TxD) (v : Nat → Int) (k n : Int) (kind base : Int) (am : List AmtD) (w m e : Nat) (wc mc ec : List AVal) (hw : dataAll wc = true) (hm : dataAll mc = true) (he : dataAll ec = true) (hxs : am.length + w + m + e ≤ 60) (hc : ¬ chkP kind base am w m e) :
    EvD Try.prog 39 [.agg [.sc (.int .i64 kind), .sc (.int .i64 base), .sl (amsc am) am.length .any, .sl wc w .any, .sl mc m .any, .sl ec e .any], .agg (txc g t), .sc (.int .i64 k)] (.agg [.sc (.int .i64 kind), .sc (.int .i64 base), .sl (amsc am) am.length .any, .sl wc w .any, .sl mc m .any, .sl ec e .any]) := by
  refine EvD.body Try.func39 rfl (by simp [dataAll, AVal.data, *]) (by simp [dataAll, AVal.data, *]) ?_
  refine AWP.seq ?_
  refine TO ⟨[.agg (Go.Cnt.CA kind base am wc w mc m ec e), .agg (txc g t), (I6 k)] ++ UU 39, []⟩ ?_
  refine AWP.reg (RT 3 ?_)
  refine AWP.seq (AWP.seq (KL [0, 1] ⟨[U6, U6, (I6 k), .ptr 0 0, .ptr 1 0, U6, .ptr 2 0] ++ UU 35, [⟨(Go.Cnt.CA kind base am wc w mc m ec e), 6, .fresh⟩, ⟨txc g t, 17, .fresh⟩, ⟨[(I6 0), (I6 0), .sl [] 0 .nil, .sl [] 0 .nil, .sl [] 0 .nil, .sl [] 0 .nil], 6, .fresh⟩]⟩ ?_))
  refine AWP.reg (PI 1 (6 ≤ 6 ∧ True) ⟨(by omega), trivial⟩ ?_)
  refine CD (r_chk kind base am w m e wc mc ec hw hm he hxs) ?_
  refine RT 1 ?_
  refine KL [9, 10] ⟨[U6, U6, (I6 k), .ptr 0 0, .ptr 1 0, U6, .ptr 2 0, U6, U6, U6, U6, (B6 (!decide (chkP kind base am w m e)))] ++ UU 30, [⟨(Go.Cnt.CA kind base am wc w mc m ec e), 6, .fresh⟩, ⟨txc g t, 17, .fresh⟩, ⟨[(I6 0), (I6 0), .sl [] 0 .nil, .sl [] 0 .nil, .sl [] 0 .nil, .sl [] 0 .nil], 6, .fresh⟩]⟩ ?_
  refine CN (!decide (chkP kind base am w m e)) (fun h1 => ?_) (fun h1 => ?_)
  · have h1' := h1
    simp only [Bool.and_eq_true, Bool.and_eq_false_iff, Bool.or_eq_true, Bool.or_eq_false_iff, Bool.not_eq_true', Bool.not_eq_false', beq_iff_eq, beq_eq_false_iff_ne, decide_eq_true_eq, decide_eq_false_iff_not, ne_eq] at h1'
    refine SQ (RI (6 ≤ 6 ∧ 6 ≤ 6 ∧ True) ⟨(by omega), (by omega), trivial⟩ ?_)
    refine AWP.ret FA
  · have h1' := h1
    simp only [Bool.and_eq_true, Bool.and_eq_false_iff, Bool.or_eq_true, Bool.or_eq_false_iff, Bool.not_eq_true', Bool.not_eq_false', beq_iff_eq, beq_eq_false_iff_ne, decide_eq_true_eq, decide_eq_false_iff_not, ne_eq] at h1'
    (exfalso; exact absurd (by assumption) hc; done)
theorem r_fold_no (g : Gate) (t : TxD) (v : Nat → Int) (k n : Int) (kind base : Int) (am : List AmtD) (w m e : Nat) (wc mc ec : List AVal) (hw : dataAll wc = true) (hm : dataAll mc = true) (he : dataAll ec = true) (hxs : am.length + w + m + e ≤ 60) (hc : ¬ chkP kind base am w m e) :
    EvD Try.prog 41 [.agg [.sc (.int .i64 kind), .sc (.int .i64 base), .sl (amsc am) am.length .any, .sl wc w .any, .sl mc m .any, .sl ec e .any], .agg (vecc g v)] (.agg [.sc (.int .i64 kind), .sc (.int .i64 base), .sl (amsc am) am.length .any, .sl wc w .any, .sl mc m .any, .sl ec e .any]) := by
  refine EvD.body Try.func41 rfl (by simp [dataAll, AVal.data, *]) (by simp [dataAll, AVal.data, *]) ?_
  refine AWP.seq ?_
  refine TO ⟨[.agg (Go.Cnt.CA kind base am wc w mc m ec e), .agg (vecc g v)] ++ UU 56, []⟩ ?_
  refine AWP.reg (RT 3 ?_)
  refine AWP.seq (AWP.seq (KL [0, 1] ⟨[U6, U6, .ptr 0 0, .ptr 1 0, .ptr 2 0] ++ UU 53, [⟨(Go.Cnt.CA kind base am wc w mc m ec e), 6, .fresh⟩, ⟨vecc g v, 1, .fresh⟩, ⟨[(I6 0), (I6 0), .sl [] 0 .nil, .sl [] 0 .nil, .sl [] 0 .nil, .sl [] 0 .nil], 6, .fresh⟩]⟩ ?_))
  refine AWP.reg (PI 1 (6 ≤ 6 ∧ True) ⟨(by omega), trivial⟩ ?_)
  refine CD (r_chk kind base am w m e wc mc ec hw hm he hxs) ?_
  refine RT 1 ?_
  refine KL [8, 9] ⟨[U6, U6, .ptr 0 0, .ptr 1 0, .ptr 2 0] ++ UU 5 ++ [(B6 (!decide (chkP kind base am w m e)))] ++ UU 47, [⟨(Go.Cnt.CA kind base am wc w mc m ec e), 6, .fresh⟩, ⟨vecc g v, 1, .fresh⟩, ⟨[(I6 0), (I6 0), .sl [] 0 .nil, .sl [] 0 .nil, .sl [] 0 .nil, .sl [] 0 .nil], 6, .fresh⟩]⟩ ?_
  refine CN (!decide (chkP kind base am w m e)) (fun h1 => ?_) (fun h1 => ?_)
  · have h1' := h1
    simp only [Bool.and_eq_true, Bool.and_eq_false_iff, Bool.or_eq_true, Bool.or_eq_false_iff, Bool.not_eq_true', Bool.not_eq_false', beq_iff_eq, beq_eq_false_iff_ne, decide_eq_true_eq, decide_eq_false_iff_not, ne_eq] at h1'
    refine SQ (RI (6 ≤ 6 ∧ 6 ≤ 6 ∧ True) ⟨(by omega), (by omega), trivial⟩ ?_)
    refine AWP.ret FA
  · have h1' := h1
    simp only [Bool.and_eq_true, Bool.and_eq_false_iff, Bool.or_eq_true, Bool.or_eq_false_iff, Bool.not_eq_true', Bool.not_eq_false', beq_iff_eq, beq_eq_false_iff_ne, decide_eq_true_eq, decide_eq_false_iff_not, ne_eq] at h1'
    (exfalso; exact absurd (by assumption) hc; done)
theorem r_read_no (g : Gate) (t : TxD) (v : Nat → Int) (k n : Int) (kind base : Int) (am : List AmtD) (w m e : Nat) (wc mc ec : List AVal) (hw : dataAll wc = true) (hm : dataAll mc = true) (he : dataAll ec = true) (hxs : am.length + w + m + e ≤ 60) (hc : ¬ chkP kind base am w m e) :
    EvD Try.prog 43 [.agg [.sc (.int .i64 kind), .sc (.int .i64 base), .sl (amsc am) am.length .any, .sl wc w .any, .sl mc m .any, .sl ec e .any]] (.agg [.sc (.int .i64 0), .sc (.int .i64 0), .sl [] 0 .any, .sl [] 0 .any]) := by
  refine EvD.body Try.func43 rfl (by simp [dataAll, AVal.data, *]) (by simp [dataAll, AVal.data, *]) ?_
  refine AWP.seq ?_
  refine TO ⟨[.agg (Go.Cnt.CA kind base am wc w mc m ec e)] ++ UU 27, []⟩ ?_
  refine AWP.reg (RT 2 ?_)
  refine AWP.seq (AWP.seq (KL [0] ⟨[U6, .ptr 0 0, .ptr 1 0] ++ UU 25, [⟨(Go.Cnt.CA kind base am wc w mc m ec e), 6, .fresh⟩, ⟨[(I6 0), (I6 0), .sl [] 0 .nil, .sl [] 0 .nil], 4, .fresh⟩]⟩ ?_))
  refine AWP.reg (PI 1 (6 ≤ 6 ∧ True) ⟨(by omega), trivial⟩ ?_)
  refine CD (r_chk kind base am w m e wc mc ec hw hm he hxs) ?_
  refine RT 1 ?_
  refine KL [5, 6] ⟨[U6, .ptr 0 0, .ptr 1 0, U6, U6, U6, U6, (B6 (!decide (chkP kind base am w m e)))] ++ UU 20, [⟨(Go.Cnt.CA kind base am wc w mc m ec e), 6, .fresh⟩, ⟨[(I6 0), (I6 0), .sl [] 0 .nil, .sl [] 0 .nil], 4, .fresh⟩]⟩ ?_
  refine CN (!decide (chkP kind base am w m e)) (fun h1 => ?_) (fun h1 => ?_)
  · have h1' := h1
    simp only [Bool.and_eq_true, Bool.and_eq_false_iff, Bool.or_eq_true, Bool.or_eq_false_iff, Bool.not_eq_true', Bool.not_eq_false', beq_iff_eq, beq_eq_false_iff_ne, decide_eq_true_eq, decide_eq_false_iff_not, ne_eq] at h1'
    refine SQ (RI (True ∧ 4 ≤ 4 ∧ True) ⟨trivial, (by omega), trivial⟩ ?_)
    refine AWP.ret ?_
    refine FI (.agg [(I6 0), (I6 0), .sl [] 0 .nil, .sl [] 0 .nil]) ?_
    refine Shrink.dataK [] (True) (.agg [(I6 0), (I6 0), .sl [] 0 .nil, .sl [] 0 .nil]) (by kernel_rfl) trivial ?_ rfl
    kernel_rfl
  · have h1' := h1
    simp only [Bool.and_eq_true, Bool.and_eq_false_iff, Bool.or_eq_true, Bool.or_eq_false_iff, Bool.not_eq_true', Bool.not_eq_false', beq_iff_eq, beq_eq_false_iff_ne, decide_eq_true_eq, decide_eq_false_iff_not, ne_eq] at h1'
    (exfalso; exact absurd (by assumption) hc; done)
theorem fold_out (g : Gate) (t : TxD) (v : Nat → Int) (k n : Int) (kind base : Int) (am : List AmtD) (w m e : Nat) (wc mc ec : List AVal) (hw : dataAll wc = true) (hm : dataAll mc = true) (he : dataAll ec = true) (hx : am.length ≤ 60) (hc : chkP kind base am w m e)
    (hn : ¬ (-1152921504606846976 ≤ base + tot (fun a => hasP v a.p a.s) am am.length ∧ base + tot (fun a => hasP v a.p a.s) am am.length ≤ 1152921504606846976)) :
    EvD Try.prog 40 [.agg [.sc (.int .i64 kind), .sc (.int .i64 base), .sl (amsc am) am.length .any, .sl wc w .any, .sl mc m .any, .sl ec e .any], .agg (vecc g v)] (.agg [.sc (.int .i64 kind), .sc (.int .i64 base), .sl (amsc am) am.length .any, .sl wc w .any, .sl mc m .any, .sl ec e .any]) := by
  have hr := rng_of hc.2.2.2.2.2.1
  have ht := tot_rng (fun a => hasP v a.p a.s) am hr am.length (Nat.le_refl _)
  have hb := hc.2.2.2.2.1
  refine EvD.body Try.func40 rfl (by simp [dataAll, AVal.data, *]) (by simp [dataAll, AVal.data, *]) ?_
  refine AWP.seq ?_
  refine TO ⟨[.agg (Go.Cnt.CA kind base am wc w mc m ec e), .agg (vecc g v)] ++ UU 31, []⟩ ?_
  refine AWP.reg (RT 3 ?_)
  refine AWP.seq (AWP.seq (KL [0, 1] ⟨[U6, U6, .ptr 0 0, .ptr 1 0, .ptr 2 0] ++ UU 28, [⟨(Go.Cnt.CA kind base am wc w mc m ec e), 6, .fresh⟩, ⟨vecc g v, 1, .fresh⟩, ⟨[(I6 0), (I6 0), .sl [] 0 .nil, .sl [] 0 .nil, .sl [] 0 .nil, .sl [] 0 .nil], 6, .fresh⟩]⟩ ?_))
  refine AWP.reg (PI 1 (6 ≤ 6 ∧ True) ⟨(by omega), trivial⟩ ?_)
  refine CD (check kind base am w m e wc mc ec hw hm he (by omega)) ?_
  refine RT 1 ?_
  refine KL [7, 8] ⟨[U6, U6, .ptr 0 0, .ptr 1 0, .ptr 2 0, U6, U6, U6, U6, (B6 (!decide (chkP kind base am w m e)))] ++ UU 23, [⟨(Go.Cnt.CA kind base am wc w mc m ec e), 6, .fresh⟩, ⟨vecc g v, 1, .fresh⟩, ⟨[(I6 0), (I6 0), .sl [] 0 .nil, .sl [] 0 .nil, .sl [] 0 .nil, .sl [] 0 .nil], 6, .fresh⟩]⟩ ?_
  refine CN (!decide (chkP kind base am w m e)) (fun h1 => ?_) (fun h1 => ?_)
  · have h1' := h1
    simp only [Bool.and_eq_true, Bool.and_eq_false_iff, Bool.or_eq_true, Bool.or_eq_false_iff, Bool.not_eq_true', Bool.not_eq_false', beq_iff_eq, beq_eq_false_iff_ne, decide_eq_true_eq, decide_eq_false_iff_not, ne_eq] at h1'
    exact absurd h1 (by simp [*])
  · have h1' := h1
    simp only [Bool.and_eq_true, Bool.and_eq_false_iff, Bool.or_eq_true, Bool.or_eq_false_iff, Bool.not_eq_true', Bool.not_eq_false', beq_iff_eq, beq_eq_false_iff_ne, decide_eq_true_eq, decide_eq_false_iff_not, ne_eq] at h1'
    refine AWP.skip (SQ (PI 3 (True ∧ 2 < 6 ∧ True ∧ True) ⟨trivial, (by omega), trivial, trivial⟩ ?_))
    refine DerQ.callG (left_fold g v am (by omega) hr) [1] [.sl (amsc am) (List.length am) .any, .fn 81 [.ptr 1 0]] [.sl (amsc am) (List.length am) .any, .fn 81 [.dptr (List.drop 0 (vecc g v))]] ((dataAll (vecc g v) = true) ∧ (True)) [⟨(Go.Cnt.CA kind base am wc w mc m ec e), 6, .fresh⟩, ⟨vecc g v, 1, .frozen⟩, ⟨[(I6 0), (I6 0), .sl [] 0 .nil, .sl [] 0 .nil, .sl [] 0 .nil, .sl [] 0 .nil], 6, .fresh⟩] ⟨[U6, U6, .ptr 0 0, .ptr 1 0, .ptr 2 0, U6, U6, U6, U6, (B6 (!decide (chkP kind base am w m e))), U6, U6, .ptr 0 2, .sl (amsc am) (List.length am) .any, .fn 81 [.ptr 1 0], .tup [.sl (amsc (keep (fun (a : AmtD) => hasP v a.p a.s) am (List.length am))) (List.length (keep (fun (a : AmtD) => hasP v a.p a.s) am (List.length am))) .any, (I6 (tot (fun (a : AmtD) => hasP v a.p a.s) am (List.length am)))]] ++ UU 17, [⟨(Go.Cnt.CA kind base am wc w mc m ec e), 6, .fresh⟩, ⟨vecc g v, 1, .frozen⟩, ⟨[(I6 0), (I6 0), .sl [] 0 .nil, .sl [] 0 .nil, .sl [] 0 .nil, .sl [] 0 .nil], 6, .fresh⟩]⟩ ⟨by kernel_rfl, by kernel_rfl, by kernel_rfl, by kernel_rfl⟩ (by kernel_rfl) ⟨(by simp), trivial⟩ ?_
    refine RT 5 ?_
    refine AWP.seq (AWP.seq (KL ([3, 9] ++ NN 11 7) ⟨[U6, U6, .ptr 0 0, U6, .ptr 2 0, .sl (amsc (keep (fun (a : AmtD) => hasP v a.p a.s) am (List.length am))) (List.length (keep (fun (a : AmtD) => hasP v a.p a.s) am (List.length am))) .any, (I6 (tot (fun (a : AmtD) => hasP v a.p a.s) am (List.length am)))] ++ UU 26, [⟨(Go.Cnt.CA kind base am wc w mc m ec e), 6, .fresh⟩, ⟨vecc g v, 1, .frozen⟩, ⟨[(I6 0), (I6 0), .sl [] 0 .nil, .sl [] 0 .nil, .sl [] 0 .nil, .sl [] 0 .nil], 6, .fresh⟩]⟩ ?_))
    refine AWP.reg ?_
    refine DerQ.pre 4 (True ∧ 1 < 6 ∧ True ∧ True ∧ True) ⟨[U6, U6, .ptr 0 0, U6, .ptr 2 0, .sl (amsc (keep (fun (a : AmtD) => hasP v a.p a.s) am (List.length am))) (List.length (keep (fun (a : AmtD) => hasP v a.p a.s) am (List.length am))) .any, (I6 (tot (fun (a : AmtD) => hasP v a.p a.s) am (List.length am)))] ++ UU 11 ++ [.ptr 0 1, (I6 base), (I6 (tot (fun (a : AmtD) => hasP v a.p a.s) am (List.length am))), (I6 (IntKind.wrap IntKind.i64 (base + tot (fun (a : AmtD) => hasP v a.p a.s) am (List.length am))))] ++ UU 11, [⟨(Go.Cnt.CA kind base am wc w mc m ec e), 6, .fresh⟩, ⟨vecc g v, 1, .frozen⟩, ⟨[(I6 0), (I6 0), .sl [] 0 .nil, .sl [] 0 .nil, .sl [] 0 .nil, .sl [] 0 .nil], 6, .fresh⟩]⟩ (by kernel_rfl) ⟨trivial, (by omega), trivial, trivial, trivial⟩ ?_
    rw [IntWalk.i64_in (base + tot (fun (a : AmtD) => hasP v a.p a.s) am (List.length am)) (by omega)]
    refine CD (within (base + tot (fun a => hasP v a.p a.s) am am.length) 1152921504606846976 ⟨(by omega), (by omega)⟩) ?_
    refine RT 1 ?_
    refine KL (NN 18 5) ⟨[U6, U6, .ptr 0 0, U6, .ptr 2 0, .sl (amsc (keep (fun (a : AmtD) => hasP v a.p a.s) am (List.length am))) (List.length (keep (fun (a : AmtD) => hasP v a.p a.s) am (List.length am))) .any, (I6 (tot (fun (a : AmtD) => hasP v a.p a.s) am (List.length am)))] ++ UU 16 ++ [(B6 (!decide (-1152921504606846976 ≤ base + tot (fun (a : AmtD) => hasP v a.p a.s) am (List.length am) ∧ base + tot (fun (a : AmtD) => hasP v a.p a.s) am (List.length am) ≤ 1152921504606846976)))] ++ UU 9, [⟨(Go.Cnt.CA kind base am wc w mc m ec e), 6, .fresh⟩, ⟨vecc g v, 1, .frozen⟩, ⟨[(I6 0), (I6 0), .sl [] 0 .nil, .sl [] 0 .nil, .sl [] 0 .nil, .sl [] 0 .nil], 6, .fresh⟩]⟩ ?_
    refine CN (!decide (-1152921504606846976 ≤ base + tot (fun (a : AmtD) => hasP v a.p a.s) am (List.length am) ∧ base + tot (fun (a : AmtD) => hasP v a.p a.s) am (List.length am) ≤ 1152921504606846976)) (fun h2 => ?_) (fun h2 => ?_)
    · have h2' := h2
      simp only [Bool.and_eq_true, Bool.and_eq_false_iff, Bool.or_eq_true, Bool.or_eq_false_iff, Bool.not_eq_true', Bool.not_eq_false', beq_iff_eq, beq_eq_false_iff_ne, decide_eq_true_eq, decide_eq_false_iff_not, ne_eq] at h2'
      refine SQ (RI (6 ≤ 6 ∧ 6 ≤ 6 ∧ True) ⟨(by omega), (by omega), trivial⟩ ?_)
      refine AWP.ret FA
    · have h2' := h2
      simp only [Bool.and_eq_true, Bool.and_eq_false_iff, Bool.or_eq_true, Bool.or_eq_false_iff, Bool.not_eq_true', Bool.not_eq_false', beq_iff_eq, beq_eq_false_iff_ne, decide_eq_true_eq, decide_eq_false_iff_not, ne_eq] at h2'
      exfalso; omega
end Go.Cnt
