/- Walks and laws. -/
import Derived.Test.YtfkilkfaiiijbaaOps8
import Derived.Test.YtfkilkfaiiijbaaLibC
set_option maxRecDepth 100000
set_option maxHeartbeats 0
set_option linter.unusedSimpArgs false
set_option linter.unusedVariables false
namespace Go.Ops
open Go Go.Abs Go.Proofs
def rs (p s : Int) (o : OpD) : OpD := if (o.p = 0 ∧ o.s = 0) ∧ o.i ≠ 0 then { o with p := p, s := s } else o
def smallO (o : OpD) : Prop := o.key.size ≤ 100 ∧ o.f.size ≤ 100 ∧ o.t.size ≤ 100
def smallP (t : TxD) : Prop := t.ops.length ≤ 40 ∧ ∀ i, i < t.ops.length → smallO (t.ops.getD i op0)
instance (o : OpD) : Decidable (smallO o) := by unfold smallO; infer_instance
instance (t : TxD) : Decidable (smallP t) := by unfold smallP; infer_instance
theorem dec_no {p : Prop} [Decidable p] (h : ¬ p) : AVal.sc (.bool false) = .sc (.bool (decide p)) := by rw [decide_eq_false h]
theorem dec_yes {p : Prop} [Decidable p] (h : p) : AVal.sc (.bool true) = .sc (.bool (decide p)) := by rw [decide_eq_true h]
theorem small_fin (t : TxD) (h : t.ops.length ≤ 40 → ∀ i, i < t.ops.length → smallO (t.ops.getD i op0)) : AVal.sc (.bool (decide ((↑(List.length t.ops) : Int) ≤ 40))) = .sc (.bool (decide (smallP t))) := by
  congr 2
  refine decide_eq_decide.2 ⟨fun h1 => ⟨by omega, h (by omega)⟩, fun h1 => by have := h1.1; omega⟩
theorem succ_all {P : Nat → Prop} {i : Nat} (hd : ∀ j, j < i → P j) (h : P i) : ∀ j, j < i + 1 → P j := by
  intro j hj
  by_cases e : j = i
  · subst e; exact h
  · exact hd j (by omega)
theorem ops_eq (a b : List OpD) (hl : a.length = b.length) (h : ∀ j, j < a.length → a.getD j op0 = b.getD j op0) : a = b := by
  apply List.ext_getElem hl
  intro j h1 h2
  have := h j h1
  simpa [List.getD_eq_getElem?_getD, h1, h2] using this
theorem r_small (g : Gate) (t : TxD) : EvD Try.prog 13 [.agg (txc g t)] (.sc (.bool (decide (smallP t)))) := by
  refine EvD.body Try.func13 rfl (by simp [dataAll, AVal.data]) rfl ?_
  refine AWP.seq ?_
  refine TO ⟨[.agg (txc g t)] ++ UU 42, []⟩ ?_
  refine AWP.reg (RT 2 ?_)
  refine AWP.seq (AWP.seq (KL [0] ⟨[U6, .ptr 0 0, (B6 false)] ++ UU 40, [⟨txc g t, 17, .fresh⟩]⟩ ?_))
  refine AWP.reg (RT 1 ?_)
  refine AWP.block ?_
  refine TO ⟨[U6, .ptr 0 0, (B6 false), (I6 0)] ++ UU 39, [⟨txc g t, 17, .fresh⟩]⟩ ?_
  refine AWP.loopW [false, true, true, true, false, false, false, false, false, false, false, false, false, false, false, false, false, false, false, false, false, false, false, false, false, false, false, false, false, false, false, false, false, false, false, false, false, false, false, false, false, false, false] (fun kk st => ∃ (i : Nat), kk = t.ops.length - i ∧ i ≤ t.ops.length ∧ (i = 0 ∨ t.ops.length ≤ 40) ∧ (∀ j, j < i → smallO (t.ops.getD j op0)) ∧ st = ⟨[U6, .ptr 0 0, (B6 false), (I6 (i : Int)), U6, U6, U6, U6, U6, U6, U6, U6, U6, U6, U6, U6, U6, U6, U6, U6, U6, U6, U6, U6, U6, U6, U6, U6, U6, U6, U6, U6, U6, U6, U6, U6, U6, U6, U6, U6, U6, U6, .undef], [⟨txc g t, 17, .fresh⟩]⟩) _ ⟨0, rfl, by omega, by omega, by omega, rfl⟩ ?_
  rintro kk s ⟨i, rfl, hi, hm, hd, rfl⟩
  refine AWP.seq (SQ ?_)
  refine DerQ.pre 3 (True ∧ True ∧ (16 < (txc g t).length) ∧ True) ⟨[U6, .ptr 0 0, (B6 false), (I6 i), U6, (I6 i), .ptr 0 16, (txc g t).getD 16 AVal.undef] ++ UU 35, [⟨txc g t, 17, .fresh⟩]⟩ (by kernel_rfl) ⟨trivial, trivial, (by simp), trivial⟩ ?_
  rw [Go.Ops.tx_16 (g) (t)]
  refine PT 3 3 ?_
  refine DerQ.to ⟨[U6, .ptr 0 0, (B6 false), (I6 i), U6, (I6 i), .ptr 0 16, .sl (opsc t.ops) (t.ops.length) .any, (I6 (↑(t.ops.length) : Int)), (B6 (decide ((↑i : Int) < (↑(t.ops.length) : Int)))), (B6 (decide ((↑i : Int) < (↑(t.ops.length) : Int))))] ++ UU 32, [⟨txc g t, 17, .fresh⟩]⟩ (by kernel_rfl) ?_
  cases h1 : (decide ((↑i : Int) < (↑(t.ops.length) : Int)))
  · have h1' := of_decide_eq_false h1
    refine RT 1 ?_
    refine KL (NN 5 10) ⟨[U6, .ptr 0 0, (B6 false), (I6 i)] ++ UU 11 ++ [(B6 false)] ++ UU 27, [⟨txc g t, 17, .fresh⟩]⟩ ?_
    refine CN false (fun h => nomatch h) (fun _ => ?_)
    refine AWP.exit ?_
    refine SQ ?_
    refine DerQ.pre 2 (True ∧ (16 < (txc g t).length) ∧ True) ⟨[U6, .ptr 0 0, (B6 false), (I6 i)] ++ UU 11 ++ [(B6 false)] ++ UU 23 ++ [.ptr 0 16, (txc g t).getD 16 U6, U6, .undef], [⟨txc g t, 17, .fresh⟩]⟩ (by kernel_rfl) ⟨trivial, (by simp), trivial⟩ ?_
    rw [Go.Ops.tx_16 (g) (t)]
    refine RT 3 ?_
    refine AWP.ret ?_
    refine FI (B6 (decide ((↑(t.ops.length) : Int) ≤ 40))) ?_
    refine Shrink.all ?_ rfl
    (exact small_fin t (fun h1 j hj => hd j (by omega)); done)
  · have h1' := of_decide_eq_true h1
    refine DerQ.pre 2 (True ∧ (16 < (txc g t).length) ∧ True) ⟨[U6, .ptr 0 0, (B6 false), (I6 i), U6, (I6 i), .ptr 0 16, .sl (opsc t.ops) (t.ops.length) .any, (I6 (↑(t.ops.length) : Int)), (B6 true), (B6 true), .ptr 0 16, (txc g t).getD 16 AVal.undef] ++ UU 30, [⟨txc g t, 17, .fresh⟩]⟩ (by kernel_rfl) ⟨trivial, (by simp), trivial⟩ ?_
    rw [Go.Ops.tx_16 (g) (t)]
    refine RT 3 ?_
    refine KL (NN 5 10) ⟨[U6, .ptr 0 0, (B6 false), (I6 i)] ++ UU 11 ++ [(B6 (decide ((↑(t.ops.length) : Int) ≤ 40)))] ++ UU 27, [⟨txc g t, 17, .fresh⟩]⟩ ?_
    refine CN (decide ((↑(t.ops.length) : Int) ≤ 40)) (fun h2 => ?_) (fun h2 => ?_)
    · have h2' := of_decide_eq_true h2
      refine AWP.skip (AWP.seq (AWP.block (SQ ?_)))
      refine DerQ.pre 3 (True ∧ (16 < (txc g t).length) ∧ True ∧ True) ⟨[U6, .ptr 0 0, (B6 false), (I6 i)] ++ UU 11 ++ [(B6 (decide ((↑(t.ops.length) : Int) ≤ 40))), U6, U6, .ptr 0 16, (txc g t).getD 16 U6, (I6 i)] ++ UU 22, [⟨txc g t, 17, .fresh⟩]⟩ (by kernel_rfl) ⟨trivial, (by simp), trivial, trivial⟩ ?_
      rw [Go.Ops.tx_16 (g) (t)]
      refine DerQ.pre 3 ((((0 ≤ (↑i : Int)) ∧ ((↑i : Int) < (↑(t.ops.length) : Int))) ∧ (Int.toNat i * 10 + 10 ≤ (opsc t.ops).length)) ∧ 10 ≤ 10 ∧ True ∧ True) ⟨[U6, .ptr 0 0, (B6 false), (I6 i), .ptr 1 0] ++ UU 10 ++ [(B6 (decide ((↑(t.ops.length) : Int) ≤ 40))), U6, U6, .ptr 0 16, .sl (opsc t.ops) (t.ops.length) .any, (I6 i), .dptr [(opsc t.ops).getD (Int.toNat i * 10 + 0) U6, (opsc t.ops).getD (Int.toNat i * 10 + 1) U6, (opsc t.ops).getD (Int.toNat i * 10 + 2) U6, (opsc t.ops).getD (Int.toNat i * 10 + 3) U6, (opsc t.ops).getD (Int.toNat i * 10 + 4) U6, (opsc t.ops).getD (Int.toNat i * 10 + 5) U6, (opsc t.ops).getD (Int.toNat i * 10 + 6) U6, (opsc t.ops).getD (Int.toNat i * 10 + 7) U6, (opsc t.ops).getD (Int.toNat i * 10 + 8) U6, (opsc t.ops).getD (Int.toNat i * 10 + 9) AVal.undef], .agg [(opsc t.ops).getD (Int.toNat i * 10 + 0) U6, (opsc t.ops).getD (Int.toNat i * 10 + 1) U6, (opsc t.ops).getD (Int.toNat i * 10 + 2) U6, (opsc t.ops).getD (Int.toNat i * 10 + 3) U6, (opsc t.ops).getD (Int.toNat i * 10 + 4) U6, (opsc t.ops).getD (Int.toNat i * 10 + 5) U6, (opsc t.ops).getD (Int.toNat i * 10 + 6) U6, (opsc t.ops).getD (Int.toNat i * 10 + 7) U6, (opsc t.ops).getD (Int.toNat i * 10 + 8) U6, (opsc t.ops).getD (Int.toNat i * 10 + 9) AVal.undef]] ++ UU 20, [⟨txc g t, 17, .fresh⟩, ⟨[(I6 0), (S6 ({ data := #[] })), (S6 ({ data := #[] })), (I6 0), (I6 0), (I6 0), (S6 ({ data := #[] })), (I6 0), (I6 0), (I6 0)], 10, .fresh⟩]⟩ (by kernel_rfl) ⟨⟨⟨(by omega), (by omega)⟩, (by (simp [spliceA_length] <;> omega))⟩, (by omega), trivial, trivial⟩ ?_
      rw [Int.toNat_natCast (i)]
      rw [Nat.add_zero (i * 10)]
      rw [Go.Ops.opsc_cells (t.ops) (i) (by omega)]
      refine RI (10 ≤ 10 ∧ True) ⟨(by omega), trivial⟩ ?_
      refine AWP.seq (KL ([15] ++ NN 18 5) ⟨[U6, .ptr 0 0, (B6 false), (I6 i), .ptr 1 0] ++ UU 38, [⟨txc g t, 17, .fresh⟩, ⟨[(I6 ((t.ops.getD i op0).k)), (S6 ((t.ops.getD i op0).key)), (S6 ((t.ops.getD i op0).f)), (I6 ((t.ops.getD i op0).inner)), (I6 ((t.ops.getD i op0).a)), (I6 ((t.ops.getD i op0).n)), (S6 ((t.ops.getD i op0).t)), (I6 ((t.ops.getD i op0).p)), (I6 ((t.ops.getD i op0).s)), (I6 ((t.ops.getD i op0).i))], 10, .fresh⟩]⟩ ?_)
      refine AWP.reg (PI 5 (True ∧ 1 < 10 ∧ True ∧ True ∧ True ∧ True) ⟨trivial, (by omega), trivial, trivial, trivial, trivial⟩ ?_)
      refine DerQ.to ⟨[U6, .ptr 0 0, (B6 false), (I6 i), .ptr 1 0] ++ UU 18 ++ [.ptr 1 1, (S6 ((t.ops.getD i op0).key)), (I6 (↑(ByteArray.size (t.ops.getD i op0).key) : Int)), (B6 (decide ((↑(ByteArray.size (t.ops.getD i op0).key) : Int) > 100))), (B6 (decide ((↑(ByteArray.size (t.ops.getD i op0).key) : Int) > 100)))] ++ UU 15, [⟨txc g t, 17, .fresh⟩, ⟨[(I6 ((t.ops.getD i op0).k)), (S6 ((t.ops.getD i op0).key)), (S6 ((t.ops.getD i op0).f)), (I6 ((t.ops.getD i op0).inner)), (I6 ((t.ops.getD i op0).a)), (I6 ((t.ops.getD i op0).n)), (S6 ((t.ops.getD i op0).t)), (I6 ((t.ops.getD i op0).p)), (I6 ((t.ops.getD i op0).s)), (I6 ((t.ops.getD i op0).i))], 10, .fresh⟩]⟩ (by kernel_rfl) ?_
      cases h3 : (decide ((↑(ByteArray.size (t.ops.getD i op0).key) : Int) > 100))
      · have h3' := of_decide_eq_false h3
        refine PI 6 (True ∧ 2 < 10 ∧ True ∧ True ∧ True ∧ True ∧ True) ⟨trivial, (by omega), trivial, trivial, trivial, trivial, trivial⟩ ?_
        refine DerQ.to ⟨[U6, .ptr 0 0, (B6 false), (I6 i), .ptr 1 0] ++ UU 18 ++ [.ptr 1 1, (S6 ((t.ops.getD i op0).key)), (I6 (↑(ByteArray.size (t.ops.getD i op0).key) : Int)), (B6 false), (B6 false), .ptr 1 2, (S6 ((t.ops.getD i op0).f)), (I6 (↑(ByteArray.size (t.ops.getD i op0).f) : Int)), (B6 (decide ((↑(ByteArray.size (t.ops.getD i op0).f) : Int) > 100))), (B6 (decide ((↑(ByteArray.size (t.ops.getD i op0).f) : Int) > 100))), (B6 (decide ((↑(ByteArray.size (t.ops.getD i op0).f) : Int) > 100)))] ++ UU 9, [⟨txc g t, 17, .fresh⟩, ⟨[(I6 ((t.ops.getD i op0).k)), (S6 ((t.ops.getD i op0).key)), (S6 ((t.ops.getD i op0).f)), (I6 ((t.ops.getD i op0).inner)), (I6 ((t.ops.getD i op0).a)), (I6 ((t.ops.getD i op0).n)), (S6 ((t.ops.getD i op0).t)), (I6 ((t.ops.getD i op0).p)), (I6 ((t.ops.getD i op0).s)), (I6 ((t.ops.getD i op0).i))], 10, .fresh⟩]⟩ (by kernel_rfl) ?_
        cases h4 : (decide ((↑(ByteArray.size (t.ops.getD i op0).f) : Int) > 100))
        · have h4' := of_decide_eq_false h4
          refine RI (True ∧ 6 < 10 ∧ True ∧ True ∧ True ∧ True) ⟨trivial, (by omega), trivial, trivial, trivial, trivial⟩ ?_
          refine KL ([4] ++ NN 23 15) ⟨[U6, .ptr 0 0, (B6 false), (I6 i)] ++ UU 34 ++ [(B6 (decide ((↑(ByteArray.size (t.ops.getD i op0).t) : Int) > 100))), U6, U6, U6, .undef], [⟨txc g t, 17, .fresh⟩, ⟨[(I6 ((t.ops.getD i op0).k)), (S6 ((t.ops.getD i op0).key)), (S6 ((t.ops.getD i op0).f)), (I6 ((t.ops.getD i op0).inner)), (I6 ((t.ops.getD i op0).a)), (I6 ((t.ops.getD i op0).n)), (S6 ((t.ops.getD i op0).t)), (I6 ((t.ops.getD i op0).p)), (I6 ((t.ops.getD i op0).s)), (I6 ((t.ops.getD i op0).i))], 10, .fresh⟩]⟩ ?_
          refine CN (decide ((↑(ByteArray.size (t.ops.getD i op0).t) : Int) > 100)) (fun h5 => ?_) (fun h5 => ?_)
          · have h5' := of_decide_eq_true h5
            refine SQ (RT 1 ?_)
            refine AWP.ret ?_
            refine FI (B6 false) ?_
            refine Shrink.all ?_ rfl
            (exact dec_no (fun hc => by have := hc.2 i (by omega); unfold smallO at this; omega); done)
          · have h5' := of_decide_eq_false h5
            refine AWP.skip (AWP.reg ?_)
            refine DerQ.run (TT 3) ⟨[U6, .ptr 0 0, (B6 false), (I6 (IntKind.wrap IntKind.i64 ((↑i : Int) + 1)))] ++ UU 12 ++ [(I6 i), (I6 (IntKind.wrap IntKind.i64 ((↑i : Int) + 1)))] ++ UU 20 ++ [(B6 (decide ((↑(ByteArray.size (t.ops.getD i op0).t) : Int) > 100))), U6, U6, U6, .undef], [⟨txc g t, 17, .fresh⟩, ⟨[(I6 ((t.ops.getD i op0).k)), (S6 ((t.ops.getD i op0).key)), (S6 ((t.ops.getD i op0).f)), (I6 ((t.ops.getD i op0).inner)), (I6 ((t.ops.getD i op0).a)), (I6 ((t.ops.getD i op0).n)), (S6 ((t.ops.getD i op0).t)), (I6 ((t.ops.getD i op0).p)), (I6 ((t.ops.getD i op0).s)), (I6 ((t.ops.getD i op0).i))], 10, .fresh⟩]⟩ (by kernel_rfl) (tt 3) ?_
            rw [IntWalk.i64_in ((↑i : Int) + 1) (by omega)]
            (exact ⟨_, by omega, _, Weak.cut 1 (by kernel_rfl) (by kernel_rfl) (by simp) (by simp [ltAll, AVal.refLt]) (by simp [dataAll, AVal.data]), i + 1, rfl, by omega, by omega, succ_all hd (by unfold smallO; omega), rfl⟩; done)
        · have h4' := of_decide_eq_true h4
          refine RT 1 ?_
          refine KL ([4] ++ NN 23 15) ⟨[U6, .ptr 0 0, (B6 false), (I6 i)] ++ UU 34 ++ [(B6 true), U6, U6, U6, .undef], [⟨txc g t, 17, .fresh⟩, ⟨[(I6 ((t.ops.getD i op0).k)), (S6 ((t.ops.getD i op0).key)), (S6 ((t.ops.getD i op0).f)), (I6 ((t.ops.getD i op0).inner)), (I6 ((t.ops.getD i op0).a)), (I6 ((t.ops.getD i op0).n)), (S6 ((t.ops.getD i op0).t)), (I6 ((t.ops.getD i op0).p)), (I6 ((t.ops.getD i op0).s)), (I6 ((t.ops.getD i op0).i))], 10, .fresh⟩]⟩ ?_
          refine CN true (fun _ => ?_) (fun h => nomatch h)
          refine SQ (RT 1 ?_)
          refine AWP.ret ?_
          refine FI (B6 false) ?_
          refine Shrink.all ?_ rfl
          (exact dec_no (fun hc => by have := hc.2 i (by omega); unfold smallO at this; omega); done)
      · have h3' := of_decide_eq_true h3
        refine RT 3 ?_
        refine KL ([4] ++ NN 23 15) ⟨[U6, .ptr 0 0, (B6 false), (I6 i)] ++ UU 34 ++ [(B6 true), U6, U6, U6, .undef], [⟨txc g t, 17, .fresh⟩, ⟨[(I6 ((t.ops.getD i op0).k)), (S6 ((t.ops.getD i op0).key)), (S6 ((t.ops.getD i op0).f)), (I6 ((t.ops.getD i op0).inner)), (I6 ((t.ops.getD i op0).a)), (I6 ((t.ops.getD i op0).n)), (S6 ((t.ops.getD i op0).t)), (I6 ((t.ops.getD i op0).p)), (I6 ((t.ops.getD i op0).s)), (I6 ((t.ops.getD i op0).i))], 10, .fresh⟩]⟩ ?_
        refine CN true (fun _ => ?_) (fun h => nomatch h)
        refine SQ (RT 1 ?_)
        refine AWP.ret ?_
        refine FI (B6 false) ?_
        refine Shrink.all ?_ rfl
        (exact dec_no (fun hc => by have := hc.2 i (by omega); unfold smallO at this; omega); done)
    · have h2' := of_decide_eq_false h2
      refine AWP.exit ?_
      refine SQ ?_
      refine DerQ.pre 2 (True ∧ (16 < (txc g t).length) ∧ True) ⟨[U6, .ptr 0 0, (B6 false), (I6 i)] ++ UU 11 ++ [(B6 (decide ((↑(t.ops.length) : Int) ≤ 40)))] ++ UU 23 ++ [.ptr 0 16, (txc g t).getD 16 U6, U6, .undef], [⟨txc g t, 17, .fresh⟩]⟩ (by kernel_rfl) ⟨trivial, (by simp), trivial⟩ ?_
      rw [Go.Ops.tx_16 (g) (t)]
      refine RT 3 ?_
      refine AWP.ret ?_
      refine FI (B6 (decide ((↑(t.ops.length) : Int) ≤ 40))) ?_
      refine Shrink.all ?_ rfl
      (exact small_fin t (fun h1 j hj => hd j (by omega)); done)
theorem r_ops (a b : List OpD) (hx : a.length ≤ 100) : EvD Try.prog 16 [.sl (opsc a) a.length .any, .sl (opsc b) b.length .any] (.sc (.bool (decide (a = b)))) := by
  refine EvD.body Try.func16 rfl rfl rfl ?_
  refine AWP.seq ?_
  refine TO ⟨[.sl (opsc a) (a.length) .any, .sl (opsc b) (b.length) .any] ++ UU 24, []⟩ ?_
  refine AWP.reg (RT 1 ?_)
  refine AWP.seq (AWP.seq ?_)
  refine TO ⟨[.sl (opsc a) (a.length) .any, .sl (opsc b) (b.length) .any, U6, U6, (B6 false)] ++ UU 21, []⟩ ?_
  refine AWP.reg (RT 5 ?_)
  refine KL [6, 7, 8, 9] ⟨[.sl (opsc a) (a.length) .any, .sl (opsc b) (b.length) .any, U6, U6, (B6 false)] ++ UU 5 ++ [(B6 ((↑(a.length) : Int) != (↑(b.length) : Int)))] ++ UU 15, []⟩ ?_
  refine CN ((↑(a.length) : Int) != (↑(b.length) : Int)) (fun h1 => ?_) (fun h1 => ?_)
  · have h1' := bne_iff_ne.1 h1
    refine SQ (RT 1 ?_)
    refine AWP.ret ?_
    refine FI (B6 false) ?_
    refine Shrink.all ?_ rfl
    (exact dec_no (fun hc => by subst hc; simp at *); done)
  · have h1' := bne_eq_false_iff_eq.1 h1
    refine AWP.skip (AWP.seq (SQ (RT 1 ?_)))
    refine AWP.block (KL [10] ⟨[.sl (opsc a) (a.length) .any, .sl (opsc b) (b.length) .any, U6, U6, (B6 false), (I6 0)] ++ UU 20, []⟩ ?_)
    refine AWP.loopM [true, true, false, false, true, true, false, false, false, false, false, false, false, false, false, false, false, false, false, false, false, false, false, false, false, false] (fun kk st => ∃ (i : Nat), kk = a.length - i ∧ i ≤ a.length ∧ (∀ j, j < i → a.getD j op0 = b.getD j op0) ∧ st = ⟨[.sl (opsc a) (a.length) .any, .sl (opsc b) (b.length) .any, U6, U6, (B6 false), (I6 (i : Int)), U6, U6, U6, U6, U6, U6, U6, U6, U6, U6, U6, U6, U6, U6, U6, U6, U6, U6, U6, .undef], []⟩) _ ⟨0, rfl, by omega, by omega, rfl⟩ ?_
    rintro kk s ⟨i, rfl, hi, hd, rfl⟩
    refine AWP.seq (SQ (RT 4 ?_))
    refine KL [11, 12, 13] ⟨[.sl (opsc a) (a.length) .any, .sl (opsc b) (b.length) .any, U6, U6, (B6 false), (I6 i)] ++ UU 8 ++ [(B6 (decide ((↑i : Int) < (↑(a.length) : Int))))] ++ UU 11, []⟩ ?_
    refine CN (decide ((↑i : Int) < (↑(a.length) : Int))) (fun h2 => ?_) (fun h2 => ?_)
    · have h2' := of_decide_eq_true h2
      refine AWP.skip (AWP.seq (AWP.block (AWP.seq ?_)))
      refine AWP.drawX mixed (fun _ => false) (by kernel_rfl) ?_
      refine DerX.pre 8 ((True) ∧ ((True) ∧ ((((0 ≤ (↑i : Int)) ∧ ((↑i : Int) < (↑(a.length) : Int))) ∧ (Int.toNat i * 10 + 10 ≤ (opsc a).length)) ∧ (((10 : Nat) ≤ (10 : Nat)) ∧ ((True) ∧ ((True) ∧ ((((0 ≤ (↑i : Int)) ∧ ((↑i : Int) < (↑(b.length) : Int))) ∧ (Int.toNat i * 10 + 10 ≤ (opsc b).length)) ∧ (((10 : Nat) ≤ (10 : Nat)) ∧ (True))))))))) [.sl (opsc a) (a.length) .any, (I6 i), .dptr [(opsc a).getD (Int.toNat i * 10 + 0) U6, (opsc a).getD (Int.toNat i * 10 + 1) U6, (opsc a).getD (Int.toNat i * 10 + 2) U6, (opsc a).getD (Int.toNat i * 10 + 3) U6, (opsc a).getD (Int.toNat i * 10 + 4) U6, (opsc a).getD (Int.toNat i * 10 + 5) U6, (opsc a).getD (Int.toNat i * 10 + 6) U6, (opsc a).getD (Int.toNat i * 10 + 7) U6, (opsc a).getD (Int.toNat i * 10 + 8) U6, (opsc a).getD (Int.toNat i * 10 + 9) AVal.undef], .agg [(opsc a).getD (Int.toNat i * 10 + 0) U6, (opsc a).getD (Int.toNat i * 10 + 1) U6, (opsc a).getD (Int.toNat i * 10 + 2) U6, (opsc a).getD (Int.toNat i * 10 + 3) U6, (opsc a).getD (Int.toNat i * 10 + 4) U6, (opsc a).getD (Int.toNat i * 10 + 5) U6, (opsc a).getD (Int.toNat i * 10 + 6) U6, (opsc a).getD (Int.toNat i * 10 + 7) U6, (opsc a).getD (Int.toNat i * 10 + 8) U6, (opsc a).getD (Int.toNat i * 10 + 9) AVal.undef], .sl (opsc b) (b.length) .any, (I6 i), .dptr [(opsc b).getD (Int.toNat i * 10 + 0) U6, (opsc b).getD (Int.toNat i * 10 + 1) U6, (opsc b).getD (Int.toNat i * 10 + 2) U6, (opsc b).getD (Int.toNat i * 10 + 3) U6, (opsc b).getD (Int.toNat i * 10 + 4) U6, (opsc b).getD (Int.toNat i * 10 + 5) U6, (opsc b).getD (Int.toNat i * 10 + 6) U6, (opsc b).getD (Int.toNat i * 10 + 7) U6, (opsc b).getD (Int.toNat i * 10 + 8) U6, (opsc b).getD (Int.toNat i * 10 + 9) AVal.undef], .agg [(opsc b).getD (Int.toNat i * 10 + 0) U6, (opsc b).getD (Int.toNat i * 10 + 1) U6, (opsc b).getD (Int.toNat i * 10 + 2) U6, (opsc b).getD (Int.toNat i * 10 + 3) U6, (opsc b).getD (Int.toNat i * 10 + 4) U6, (opsc b).getD (Int.toNat i * 10 + 5) U6, (opsc b).getD (Int.toNat i * 10 + 6) U6, (opsc b).getD (Int.toNat i * 10 + 7) U6, (opsc b).getD (Int.toNat i * 10 + 8) U6, (opsc b).getD (Int.toNat i * 10 + 9) AVal.undef]] ⟨[.sl (opsc a) (a.length) .any, .sl (opsc b) (b.length) .any, U6, U6, (B6 false), (I6 i)] ++ UU 8 ++ [(B6 (decide ((↑i : Int) < (↑(a.length) : Int)))), U6, U6, .sl (opsc a) (a.length) .any, (I6 i), .dptr [(opsc a).getD (Int.toNat i * 10 + 0) U6, (opsc a).getD (Int.toNat i * 10 + 1) U6, (opsc a).getD (Int.toNat i * 10 + 2) U6, (opsc a).getD (Int.toNat i * 10 + 3) U6, (opsc a).getD (Int.toNat i * 10 + 4) U6, (opsc a).getD (Int.toNat i * 10 + 5) U6, (opsc a).getD (Int.toNat i * 10 + 6) U6, (opsc a).getD (Int.toNat i * 10 + 7) U6, (opsc a).getD (Int.toNat i * 10 + 8) U6, (opsc a).getD (Int.toNat i * 10 + 9) AVal.undef], .agg [(opsc a).getD (Int.toNat i * 10 + 0) U6, (opsc a).getD (Int.toNat i * 10 + 1) U6, (opsc a).getD (Int.toNat i * 10 + 2) U6, (opsc a).getD (Int.toNat i * 10 + 3) U6, (opsc a).getD (Int.toNat i * 10 + 4) U6, (opsc a).getD (Int.toNat i * 10 + 5) U6, (opsc a).getD (Int.toNat i * 10 + 6) U6, (opsc a).getD (Int.toNat i * 10 + 7) U6, (opsc a).getD (Int.toNat i * 10 + 8) U6, (opsc a).getD (Int.toNat i * 10 + 9) AVal.undef], .sl (opsc b) (b.length) .any, (I6 i), .dptr [(opsc b).getD (Int.toNat i * 10 + 0) U6, (opsc b).getD (Int.toNat i * 10 + 1) U6, (opsc b).getD (Int.toNat i * 10 + 2) U6, (opsc b).getD (Int.toNat i * 10 + 3) U6, (opsc b).getD (Int.toNat i * 10 + 4) U6, (opsc b).getD (Int.toNat i * 10 + 5) U6, (opsc b).getD (Int.toNat i * 10 + 6) U6, (opsc b).getD (Int.toNat i * 10 + 7) U6, (opsc b).getD (Int.toNat i * 10 + 8) U6, (opsc b).getD (Int.toNat i * 10 + 9) AVal.undef], .agg [(opsc b).getD (Int.toNat i * 10 + 0) U6, (opsc b).getD (Int.toNat i * 10 + 1) U6, (opsc b).getD (Int.toNat i * 10 + 2) U6, (opsc b).getD (Int.toNat i * 10 + 3) U6, (opsc b).getD (Int.toNat i * 10 + 4) U6, (opsc b).getD (Int.toNat i * 10 + 5) U6, (opsc b).getD (Int.toNat i * 10 + 6) U6, (opsc b).getD (Int.toNat i * 10 + 7) U6, (opsc b).getD (Int.toNat i * 10 + 8) U6, (opsc b).getD (Int.toNat i * 10 + 9) AVal.undef], .undef], []⟩ (by intro ext; kernel_rfl) (by kernel_rfl) ⟨trivial, ⟨trivial, ⟨⟨⟨(by omega), (by omega)⟩, (by (simp [spliceA_length] <;> omega))⟩, ⟨(by omega), ⟨trivial, ⟨trivial, ⟨⟨⟨(by omega), (by omega)⟩, (by (simp [spliceA_length] <;> omega))⟩, ⟨(by omega), trivial⟩⟩⟩⟩⟩⟩⟩⟩ ?_
      rw [Int.toNat_natCast (i)]
      rw [Nat.add_zero (i * 10)]
      rw [Go.Ops.opsc_cells (a) (i) (by omega)]
      rw [Go.Ops.opsc_cells (b) (i) (by omega)]
      refine DerX.quiet ((((0 : Nat) < (10 : Nat)) ∧ (((0 : Nat) < (10 : Nat)) ∧ (True))) ∧ ((((1 : Nat) < (10 : Nat)) ∧ (((1 : Nat) < (10 : Nat)) ∧ (True))) ∧ ((((2 : Nat) < (10 : Nat)) ∧ (((2 : Nat) < (10 : Nat)) ∧ (True))) ∧ ((((3 : Nat) < (10 : Nat)) ∧ (((3 : Nat) < (10 : Nat)) ∧ (True))) ∧ ((((4 : Nat) < (10 : Nat)) ∧ (((4 : Nat) < (10 : Nat)) ∧ (True))) ∧ ((((5 : Nat) < (10 : Nat)) ∧ (((5 : Nat) < (10 : Nat)) ∧ (True))) ∧ ((((6 : Nat) < (10 : Nat)) ∧ (((6 : Nat) < (10 : Nat)) ∧ (True))) ∧ (((10 : Nat) ≤ (10 : Nat)) ∧ (((10 : Nat) ≤ (10 : Nat)) ∧ ((((2 : Nat) ≤ (3 : Nat)) ∧ (((2 : Nat) ≤ (3 : Nat)) ∧ ((((0 : Nat) < (2 : Nat)) ∧ (((0 : Nat) < (2 : Nat)) ∧ (True))) ∧ (((1 : Nat) < (2 : Nat)) ∧ (((1 : Nat) < (2 : Nat)) ∧ (True)))))) ∧ (((2 : Nat) < (3 : Nat)) ∧ (((2 : Nat) < (3 : Nat)) ∧ (True))))))))))))) (B6 (!((a.getD i op0).k == (b.getD i op0).k && (ByteArray.toList (a.getD i op0).key == ByteArray.toList (b.getD i op0).key && (ByteArray.toList (a.getD i op0).f == ByteArray.toList (b.getD i op0).f && ((a.getD i op0).inner == (b.getD i op0).inner && ((a.getD i op0).a == (b.getD i op0).a && ((a.getD i op0).n == (b.getD i op0).n && (ByteArray.toList (a.getD i op0).t == ByteArray.toList (b.getD i op0).t && ((a.getD i op0).p == (b.getD i op0).p && (a.getD i op0).s == (b.getD i op0).s && (a.getD i op0).i == (b.getD i op0).i)))))))))) ⟨[.sl (opsc a) (a.length) .any, .sl (opsc b) (b.length) .any, U6, U6, (B6 false), (I6 i)] ++ UU 8 ++ [(B6 (decide ((↑i : Int) < (↑(a.length) : Int)))), U6, U6, .sl (opsc a) (a.length) .any, (I6 i), .dptr [(I6 ((a.getD i op0).k)), (S6 ((a.getD i op0).key)), (S6 ((a.getD i op0).f)), (I6 ((a.getD i op0).inner)), (I6 ((a.getD i op0).a)), (I6 ((a.getD i op0).n)), (S6 ((a.getD i op0).t)), (I6 ((a.getD i op0).p)), (I6 ((a.getD i op0).s)), (I6 ((a.getD i op0).i))], .agg [(I6 ((a.getD i op0).k)), (S6 ((a.getD i op0).key)), (S6 ((a.getD i op0).f)), (I6 ((a.getD i op0).inner)), (I6 ((a.getD i op0).a)), (I6 ((a.getD i op0).n)), (S6 ((a.getD i op0).t)), (I6 ((a.getD i op0).p)), (I6 ((a.getD i op0).s)), (I6 ((a.getD i op0).i))], .sl (opsc b) (b.length) .any, (I6 i), .dptr [(I6 ((b.getD i op0).k)), (S6 ((b.getD i op0).key)), (S6 ((b.getD i op0).f)), (I6 ((b.getD i op0).inner)), (I6 ((b.getD i op0).a)), (I6 ((b.getD i op0).n)), (S6 ((b.getD i op0).t)), (I6 ((b.getD i op0).p)), (I6 ((b.getD i op0).s)), (I6 ((b.getD i op0).i))], .agg [(I6 ((b.getD i op0).k)), (S6 ((b.getD i op0).key)), (S6 ((b.getD i op0).f)), (I6 ((b.getD i op0).inner)), (I6 ((b.getD i op0).a)), (I6 ((b.getD i op0).n)), (S6 ((b.getD i op0).t)), (I6 ((b.getD i op0).p)), (I6 ((b.getD i op0).s)), (I6 ((b.getD i op0).i))], (B6 (!((a.getD i op0).k == (b.getD i op0).k && (ByteArray.toList (a.getD i op0).key == ByteArray.toList (b.getD i op0).key && (ByteArray.toList (a.getD i op0).f == ByteArray.toList (b.getD i op0).f && ((a.getD i op0).inner == (b.getD i op0).inner && ((a.getD i op0).a == (b.getD i op0).a && ((a.getD i op0).n == (b.getD i op0).n && (ByteArray.toList (a.getD i op0).t == ByteArray.toList (b.getD i op0).t && ((a.getD i op0).p == (b.getD i op0).p && (a.getD i op0).s == (b.getD i op0).s && (a.getD i op0).i == (b.getD i op0).i))))))))))], []⟩ (by intro ext; kernel_rfl) ⟨by kernel_rfl, by kernel_rfl⟩ ⟨⟨(by omega), ⟨(by omega), trivial⟩⟩, ⟨⟨(by omega), ⟨(by omega), trivial⟩⟩, ⟨⟨(by omega), ⟨(by omega), trivial⟩⟩, ⟨⟨(by omega), ⟨(by omega), trivial⟩⟩, ⟨⟨(by omega), ⟨(by omega), trivial⟩⟩, ⟨⟨(by omega), ⟨(by omega), trivial⟩⟩, ⟨⟨(by omega), ⟨(by omega), trivial⟩⟩, ⟨(by omega), ⟨(by omega), ⟨⟨(by omega), ⟨(by omega), ⟨⟨(by omega), ⟨(by omega), trivial⟩⟩, ⟨(by omega), ⟨(by omega), trivial⟩⟩⟩⟩⟩, ⟨(by omega), ⟨(by omega), trivial⟩⟩⟩⟩⟩⟩⟩⟩⟩⟩⟩⟩ ?_
      rw [Go.Abs.str_beq ((a.getD i op0).key) ((b.getD i op0).key)]
      rw [Go.Abs.str_beq ((a.getD i op0).f) ((b.getD i op0).f)]
      rw [Go.Abs.str_beq ((a.getD i op0).t) ((b.getD i op0).t)]
      refine DerX.nil ?_
      refine KL ([14] ++ NN 17 8) ⟨[.sl (opsc a) (a.length) .any, .sl (opsc b) (b.length) .any, U6, U6, (B6 false), (I6 i)] ++ UU 19 ++ [(B6 (!((a.getD i op0).k == (b.getD i op0).k && (decide ((a.getD i op0).key = (b.getD i op0).key) && (decide ((a.getD i op0).f = (b.getD i op0).f) && ((a.getD i op0).inner == (b.getD i op0).inner && ((a.getD i op0).a == (b.getD i op0).a && ((a.getD i op0).n == (b.getD i op0).n && (decide ((a.getD i op0).t = (b.getD i op0).t) && ((a.getD i op0).p == (b.getD i op0).p && (a.getD i op0).s == (b.getD i op0).s && (a.getD i op0).i == (b.getD i op0).i))))))))))], []⟩ ?_
      refine CN (!((a.getD i op0).k == (b.getD i op0).k && (decide ((a.getD i op0).key = (b.getD i op0).key) && (decide ((a.getD i op0).f = (b.getD i op0).f) && ((a.getD i op0).inner == (b.getD i op0).inner && ((a.getD i op0).a == (b.getD i op0).a && ((a.getD i op0).n == (b.getD i op0).n && (decide ((a.getD i op0).t = (b.getD i op0).t) && ((a.getD i op0).p == (b.getD i op0).p && (a.getD i op0).s == (b.getD i op0).s && (a.getD i op0).i == (b.getD i op0).i))))))))) (fun h3 => ?_) (fun h3 => ?_)
      · have h3' := h3
        simp only [Bool.and_eq_true, Bool.and_eq_false_iff, Bool.or_eq_true, Bool.or_eq_false_iff, Bool.not_eq_true', Bool.not_eq_false', beq_iff_eq, beq_eq_false_iff_ne, decide_eq_true_eq, decide_eq_false_iff_not, ne_eq] at h3'
        refine SQ (RT 1 ?_)
        refine AWP.ret ?_
        refine FI (B6 false) ?_
        refine Shrink.all ?_ rfl
        (exact dec_no (fun hc => by subst hc; simp at *); done)
      · have h3' := h3
        simp only [Bool.and_eq_true, Bool.and_eq_false_iff, Bool.or_eq_true, Bool.or_eq_false_iff, Bool.not_eq_true', Bool.not_eq_false', beq_iff_eq, beq_eq_false_iff_ne, decide_eq_true_eq, decide_eq_false_iff_not, ne_eq] at h3'
        refine AWP.skip (AWP.reg ?_)
        refine DerQ.run (TT 3) ⟨[.sl (opsc a) (a.length) .any, .sl (opsc b) (b.length) .any, U6, U6, (B6 false), (I6 (IntKind.wrap IntKind.i64 ((↑i : Int) + 1)))] ++ UU 9 ++ [(I6 i), (I6 (IntKind.wrap IntKind.i64 ((↑i : Int) + 1)))] ++ UU 8 ++ [(B6 (!((a.getD i op0).k == (b.getD i op0).k && (decide ((a.getD i op0).key = (b.getD i op0).key) && (decide ((a.getD i op0).f = (b.getD i op0).f) && ((a.getD i op0).inner == (b.getD i op0).inner && ((a.getD i op0).a == (b.getD i op0).a && ((a.getD i op0).n == (b.getD i op0).n && (decide ((a.getD i op0).t = (b.getD i op0).t) && ((a.getD i op0).p == (b.getD i op0).p && (a.getD i op0).s == (b.getD i op0).s && (a.getD i op0).i == (b.getD i op0).i))))))))))], []⟩ (by kernel_rfl) (tt 3) ?_
        rw [IntWalk.i64_in ((↑i : Int) + 1) (by omega)]
        (exact ⟨_, by omega, i + 1, rfl, by omega, succ_all hd (by rw [opd_eq]; grind), by kernel_rfl⟩; done)
    · have h2' := of_decide_eq_false h2
      refine AWP.exit ?_
      refine AWP.seq (KL [0, 1, 5, 14] ⟨[U6, U6, U6, U6, (B6 false)] ++ UU 21, []⟩ ?_)
      refine AWP.reg (RT 1 ?_)
      refine AWP.ret ?_
      refine FI (B6 true) ?_
      refine Shrink.all ?_ rfl
      (exact dec_yes (ops_eq a b (by omega) (fun j hj => hd j (by omega))); done)
end Go.Ops
