/- Walks and laws. -/
import Derived.Test.YtfkilkfaiiijbaaCnt23
import Derived.Test.YtfkilkfaiiijbaaLibC
set_option maxRecDepth 100000
set_option maxHeartbeats 0
set_option linter.unusedSimpArgs false
set_option linter.unusedVariables false
namespace Go.Cnt
open Go Go.Abs Go.Proofs Go.Ops
theorem same_few {kind b : Int} {am A : List AmtD} {w : List WrD} {m : List MeD} {e : List ElD} (hf : fewP am w m e) (hA : A.length ≤ 1000) :
    EvD Try.prog 36 [.agg [.sc (.int .i64 kind), .sc (.int .i64 b), .sl (amsc A) (List.length A) .any, .sl (wrsc w) w.length .any, .sl (mesc m) m.length .any, .sl (elsc e) e.length .any], .agg [.sc (.int .i64 kind), .sc (.int .i64 b), .sl (amsc A) (List.length A) .any, .sl (wrsc w) w.length .any, .sl (mesc m) m.length .any, .sl (elsc e) e.length .any]] (.sc (.bool true)) := by
  obtain ⟨h1, h2, h3, h4⟩ := hf
  exact same_refl kind b A w m e ⟨hA, by omega, by omega, by omega⟩ (fun i hi => by have := (h3 i hi).2; omega) (fun i hi => by have := (h4 i hi).2; omega)
theorem do_both (g : Gate) (t : TxD) (v : Nat → Int) (k n : Int) (kind base : Int) (am : List AmtD) (w : List WrD) (m : List MeD) (e : List ElD) (hf : fewP am w m e) : ∃ (b : Int) (A : List AmtD), EvD Try.prog 37 [.agg [.sc (.int .i64 kind), .sc (.int .i64 base), .sl (amsc am) (List.length am) .any, .sl (wrsc w) w.length .any, .sl (mesc m) m.length .any, .sl (elsc e) e.length .any], .agg (txc g t), .sc (.int .i64 k), .sc (.int .i64 n)] (.agg [.sc (.int .i64 kind), .sc (.int .i64 b), .sl (amsc A) (List.length A) .any, .sl (wrsc w) w.length .any, .sl (mesc m) m.length .any, .sl (elsc e) e.length .any]) ∧ EvD Try.prog 38 [.agg [.sc (.int .i64 kind), .sc (.int .i64 base), .sl (amsc am) (List.length am) .any, .sl (wrsc w) w.length .any, .sl (mesc m) m.length .any, .sl (elsc e) e.length .any], .agg (txc g t), .sc (.int .i64 k), .sc (.int .i64 n)] (.agg [.sc (.int .i64 kind), .sc (.int .i64 b), .sl (amsc A) (List.length A) .any, .sl (wrsc w) w.length .any, .sl (mesc m) m.length .any, .sl (elsc e) e.length .any]) ∧ EvD Try.prog 36 [.agg [.sc (.int .i64 kind), .sc (.int .i64 b), .sl (amsc A) (List.length A) .any, .sl (wrsc w) w.length .any, .sl (mesc m) m.length .any, .sl (elsc e) e.length .any], .agg [.sc (.int .i64 kind), .sc (.int .i64 b), .sl (amsc A) (List.length A) .any, .sl (wrsc w) w.length .any, .sl (mesc m) m.length .any, .sl (elsc e) e.length .any]] (.sc (.bool true)) := by
  have hl := hf.1
  by_cases hc : ¬ chkP kind base am w.length m.length e.length ∨ k < 1 ∨ ¬ (-1073741824 ≤ n ∧ n ≤ 1073741824)
  · exact ⟨base, am, do_no g t v k n kind base am w.length m.length e.length (wrsc w) (mesc m) (elsc e) (by simp) (by simp) (by simp) (by omega) hc, r_do_no g t v k n kind base am w.length m.length e.length (wrsc w) (mesc m) (elsc e) (by simp) (by simp) (by simp) hl hc, same_few hf (by omega)⟩
  · have hc0 : chkP kind base am w.length m.length e.length := Classical.byContradiction fun h => hc (.inl h)
    have hk : 1 ≤ k := by omega
    have hn : -1073741824 ≤ n ∧ n ≤ 1073741824 := by omega
    obtain ⟨i, h1, h2, h3, h4⟩ := insA_eq ⟨t.p, t.s, k, n⟩ am
    by_cases hm : ∃ q, q < am.length ∧ (am.getD q am0).p = t.p ∧ (am.getD q am0).s = t.s ∧ (am.getD q am0).i = k
    · obtain ⟨q, hq, hqe⟩ := hm
      have hqb : ∀ j, j < q → lessA (am.getD j am0) ⟨t.p, t.s, k, n⟩ := fun j hj => by
        have hp := (up_pair am).1 hc0.2.2.2.2.2.2
        rw [List.pairwise_iff_getElem] at hp
        have := hp j q (by omega) hq hj
        have ej : am.getD j am0 = am[j] := by rw [List.getD_eq_getElem?_getD, List.getElem?_eq_getElem (by omega)]; rfl
        have eq : am.getD q am0 = am[q] := by rw [List.getD_eq_getElem?_getD, List.getElem?_eq_getElem hq]; rfl
        rw [ej]; rw [eq] at hqe
        obtain ⟨e1, e2, e3⟩ := hqe
        unfold lessA at this ⊢
        rw [e1, e2, e3] at this; exact this
      exact ⟨base, am, do_same g t v k n kind base am w.length m.length e.length (wrsc w) (mesc m) (elsc e) (by simp) (by simp) (by simp) (by omega) hc0 hk hn q hq hqb hqe, r_do_same g t v k n kind base am w.length m.length e.length (wrsc w) (mesc m) (elsc e) (by simp) (by simp) (by simp) hl hc0 hk hn q hq hqb hqe, same_few hf (by omega)⟩
    · have hne : ∀ j, j < am.length → ¬ ((am.getD j am0).p = t.p ∧ (am.getD j am0).s = t.s ∧ (am.getD j am0).i = k) := fun j hj h => hm ⟨j, hj, h⟩
      have hil := insD_len am i ⟨t.p, t.s, k, n⟩ h1
      refine ⟨base, insD am i ⟨t.p, t.s, k, n⟩, ?_, r_do_ins g t v k n kind base am w.length m.length e.length (wrsc w) (mesc m) (elsc e) (by simp) (by simp) (by simp) hl hc0 hk hn i h1 h2 h3 hne, same_few hf (by omega)⟩
      rw [hil]
      exact do_ins g t k n kind base am w.length m.length e.length (wrsc w) (mesc m) (elsc e) (by simp) (by simp) (by simp) (by omega) hc0 hk hn i h1 h2 h3 (fun hj => hne i hj)
theorem clear_both (g : Gate) (t : TxD) (v : Nat → Int) (k n : Int) (kind base : Int) (am : List AmtD) (w : List WrD) (m : List MeD) (e : List ElD) (hf : fewP am w m e) : ∃ (b : Int) (A : List AmtD), EvD Try.prog 33 [.agg [.sc (.int .i64 kind), .sc (.int .i64 base), .sl (amsc am) (List.length am) .any, .sl (wrsc w) w.length .any, .sl (mesc m) m.length .any, .sl (elsc e) e.length .any], .agg (txc g t), .sc (.int .i64 k)] (.agg [.sc (.int .i64 kind), .sc (.int .i64 b), .sl (amsc A) (List.length A) .any, .sl (wrsc w) w.length .any, .sl (mesc m) m.length .any, .sl (elsc e) e.length .any]) ∧ EvD Try.prog 39 [.agg [.sc (.int .i64 kind), .sc (.int .i64 base), .sl (amsc am) (List.length am) .any, .sl (wrsc w) w.length .any, .sl (mesc m) m.length .any, .sl (elsc e) e.length .any], .agg (txc g t), .sc (.int .i64 k)] (.agg [.sc (.int .i64 kind), .sc (.int .i64 b), .sl (amsc A) (List.length A) .any, .sl (wrsc w) w.length .any, .sl (mesc m) m.length .any, .sl (elsc e) e.length .any]) ∧ EvD Try.prog 36 [.agg [.sc (.int .i64 kind), .sc (.int .i64 b), .sl (amsc A) (List.length A) .any, .sl (wrsc w) w.length .any, .sl (mesc m) m.length .any, .sl (elsc e) e.length .any], .agg [.sc (.int .i64 kind), .sc (.int .i64 b), .sl (amsc A) (List.length A) .any, .sl (wrsc w) w.length .any, .sl (mesc m) m.length .any, .sl (elsc e) e.length .any]] (.sc (.bool true)) := by
  have hl := hf.1
  by_cases hc : chkP kind base am w.length m.length e.length
  · exact ⟨_, _, clear_yes g t k kind base am w.length m.length e.length (wrsc w) (mesc m) (elsc e) (by simp) (by simp) (by simp) (by omega) hc, r_clear_yes g t v k n kind base am w.length m.length e.length (wrsc w) (mesc m) (elsc e) (by simp) (by simp) (by simp) hl hc, same_few hf (by have := keep_len (fun a => befP a.p a.s a.i t k) am am.length; omega)⟩
  · exact ⟨base, am, clear_no g t v k n kind base am w.length m.length e.length (wrsc w) (mesc m) (elsc e) (by simp) (by simp) (by simp) (by omega) hc, r_clear_no g t v k n kind base am w.length m.length e.length (wrsc w) (mesc m) (elsc e) (by simp) (by simp) (by simp) hl hc, same_few hf (by omega)⟩
theorem fold_both (g : Gate) (t : TxD) (v : Nat → Int) (k n : Int) (kind base : Int) (am : List AmtD) (w : List WrD) (m : List MeD) (e : List ElD) (hf : fewP am w m e) : ∃ (b : Int) (A : List AmtD), EvD Try.prog 40 [.agg [.sc (.int .i64 kind), .sc (.int .i64 base), .sl (amsc am) (List.length am) .any, .sl (wrsc w) w.length .any, .sl (mesc m) m.length .any, .sl (elsc e) e.length .any], .agg (vecc g v)] (.agg [.sc (.int .i64 kind), .sc (.int .i64 b), .sl (amsc A) (List.length A) .any, .sl (wrsc w) w.length .any, .sl (mesc m) m.length .any, .sl (elsc e) e.length .any]) ∧ EvD Try.prog 41 [.agg [.sc (.int .i64 kind), .sc (.int .i64 base), .sl (amsc am) (List.length am) .any, .sl (wrsc w) w.length .any, .sl (mesc m) m.length .any, .sl (elsc e) e.length .any], .agg (vecc g v)] (.agg [.sc (.int .i64 kind), .sc (.int .i64 b), .sl (amsc A) (List.length A) .any, .sl (wrsc w) w.length .any, .sl (mesc m) m.length .any, .sl (elsc e) e.length .any]) ∧ EvD Try.prog 36 [.agg [.sc (.int .i64 kind), .sc (.int .i64 b), .sl (amsc A) (List.length A) .any, .sl (wrsc w) w.length .any, .sl (mesc m) m.length .any, .sl (elsc e) e.length .any], .agg [.sc (.int .i64 kind), .sc (.int .i64 b), .sl (amsc A) (List.length A) .any, .sl (wrsc w) w.length .any, .sl (mesc m) m.length .any, .sl (elsc e) e.length .any]] (.sc (.bool true)) := by
  have hl := hf.1
  by_cases hc : chkP kind base am w.length m.length e.length
  · by_cases hn : -1152921504606846976 ≤ base + tot (fun a => hasP v a.p a.s) am am.length ∧ base + tot (fun a => hasP v a.p a.s) am am.length ≤ 1152921504606846976
    · exact ⟨_, _, fold_in g v kind base am w.length m.length e.length (wrsc w) (mesc m) (elsc e) (by simp) (by simp) (by simp) (by omega) hc hn, r_fold_in g t v k n kind base am w.length m.length e.length (wrsc w) (mesc m) (elsc e) (by simp) (by simp) (by simp) hl hc hn, same_few hf (by have := keep_len (fun a => hasP v a.p a.s) am am.length; omega)⟩
    · exact ⟨base, am, fold_out g t v k n kind base am w.length m.length e.length (wrsc w) (mesc m) (elsc e) (by simp) (by simp) (by simp) (by omega) hc hn, r_fold_out g t v k n kind base am w.length m.length e.length (wrsc w) (mesc m) (elsc e) (by simp) (by simp) (by simp) hl hc hn, same_few hf (by omega)⟩
  · exact ⟨base, am, fold_no g t v k n kind base am w.length m.length e.length (wrsc w) (mesc m) (elsc e) (by simp) (by simp) (by simp) (by omega) hc, r_fold_no g t v k n kind base am w.length m.length e.length (wrsc w) (mesc m) (elsc e) (by simp) (by simp) (by simp) hl hc, same_few hf (by omega)⟩
theorem read_both (g : Gate) (t : TxD) (v : Nat → Int) (k n : Int) (kind base : Int) (am : List AmtD) (w : List WrD) (m : List MeD) (e : List ElD) (hf : fewP am w m e) : ∃ (a b : Int), EvD Try.prog 34 [.agg [.sc (.int .i64 kind), .sc (.int .i64 base), .sl (amsc am) (List.length am) .any, .sl (wrsc w) w.length .any, .sl (mesc m) m.length .any, .sl (elsc e) e.length .any]] (.agg [.sc (.int .i64 a), .sc (.int .i64 b), .sl [] 0 .any, .sl [] 0 .any]) ∧ EvD Try.prog 43 [.agg [.sc (.int .i64 kind), .sc (.int .i64 base), .sl (amsc am) (List.length am) .any, .sl (wrsc w) w.length .any, .sl (mesc m) m.length .any, .sl (elsc e) e.length .any]] (.agg [.sc (.int .i64 a), .sc (.int .i64 b), .sl [] 0 .any, .sl [] 0 .any]) ∧ EvD Try.prog 42 [.agg [.sc (.int .i64 a), .sc (.int .i64 b), .sl [] 0 .any, .sl [] 0 .any], .agg [.sc (.int .i64 a), .sc (.int .i64 b), .sl [] 0 .any, .sl [] 0 .any]] (.sc (.bool true)) := by
  have hl := hf.1
  by_cases hc : chkP kind base am w.length m.length e.length
  · exact ⟨_, _, read_yes kind base am w.length m.length e.length (wrsc w) (mesc m) (elsc e) (by simp) (by simp) (by simp) (by omega) hc, r_read_yes g t v k n kind base am w.length m.length e.length (wrsc w) (mesc m) (elsc e) (by simp) (by simp) (by simp) hl hc, dec_t (r_values0 _ _ _ _) ⟨rfl, rfl⟩⟩
  · exact ⟨0, 0, read_no g t v k n kind base am w.length m.length e.length (wrsc w) (mesc m) (elsc e) (by simp) (by simp) (by simp) (by omega) hc, r_read_no g t v k n kind base am w.length m.length e.length (wrsc w) (mesc m) (elsc e) (by simp) (by simp) (by simp) hl hc, dec_t (r_values0 _ _ _ _) ⟨rfl, rfl⟩⟩
theorem counterTells_true (g g2 : Gate) (t : TxD) (v : Nat → Int) (k n : Int) (kind base : Int) (am : List AmtD) (w : List WrD) (m : List MeD) (e : List ElD) (hx : am.length ≤ 1000000000000000 ∧ w.length ≤ 1000000000000000 ∧ m.length ≤ 1000000000000000 ∧ e.length ≤ 1000000000000000) :
    EvD Try.prog 8 [.agg [.sc (.int .i64 kind), .sc (.int .i64 base), .sl (amsc am) (List.length am) .any, .sl (wrsc w) w.length .any, .sl (mesc m) m.length .any, .sl (elsc e) e.length .any], .agg (txc g t), .sc (.int .i64 k), .sc (.int .i64 n), .agg (vecc g2 v)] (.sc (.bool true)) := by
  have hfew := r_few kind base am w m e hx
  by_cases hf : fewP am w m e
  · have hf1 := dec_t hfew hf
    have hl := hf.1
    have c1 := check kind base am w.length m.length e.length (wrsc w) (mesc m) (elsc e) (by simp) (by simp) (by simp) (by omega)
    have c2 := r_chk kind base am w.length m.length e.length (wrsc w) (mesc m) (elsc e) (by simp) (by simp) (by simp) hl
    obtain ⟨b1, A1, p1, p2, p3⟩ := do_both g t v k n kind base am w m e hf
    obtain ⟨b2, A2, q1, q2, q3⟩ := clear_both g t v k n kind base am w m e hf
    obtain ⟨b3, A3, r1, r2, r3⟩ := fold_both g2 t v k n kind base am w m e hf
    obtain ⟨b4, b5, s1, s2, s3⟩ := read_both g t v k n kind base am w m e hf
    refine EvD.body Try.func8 rfl (by simp [dataAll, AVal.data, *]) (by simp [dataAll, AVal.data, *]) ?_
    refine AWP.seq ?_
    refine TO ⟨[.agg (Go.Cnt.CB kind base am w m e), .agg (txc g t), (I6 k), (I6 n), .agg (vecc g2 v)] ++ UU 63, []⟩ ?_
    refine AWP.reg (RT 4 ?_)
    refine AWP.seq (AWP.seq (KL [0, 1, 4] ⟨[U6, U6, (I6 k), (I6 n), U6, .ptr 0 0, .ptr 1 0, U6, U6, .ptr 2 0, (B6 false)] ++ UU 57, [⟨(Go.Cnt.CB kind base am w m e), 6, .fresh⟩, ⟨txc g t, 17, .fresh⟩, ⟨vecc g2 v, 1, .fresh⟩]⟩ ?_))
    refine AWP.reg (PI 1 (6 ≤ 6 ∧ True) ⟨(by omega), trivial⟩ ?_)
    refine CD (hf1) ?_
    refine DerQ.pre 3 (True ∧ True ∧ (17 ≤ List.length (txc g t)) ∧ True) ⟨[U6, U6, (I6 k), (I6 n), U6, .ptr 0 0, .ptr 1 0, U6, U6, .ptr 2 0, (B6 false), .agg (Go.Cnt.CB kind base am w m e), (B6 true), (B6 false), (B6 false), .agg (List.take 17 (List.drop 0 (txc g t)))] ++ UU 52, [⟨(Go.Cnt.CB kind base am w m e), 6, .fresh⟩, ⟨txc g t, 17, .fresh⟩, ⟨vecc g2 v, 1, .fresh⟩]⟩ (by kernel_rfl) ⟨trivial, trivial, (by simp), trivial⟩ ?_
    rw [List.drop_zero]
    rw [Go.Ops.tx_take (g) (t)]
    refine CD (r_small g t) ?_
    refine RT 2 ?_
    refine KL (NN 11 7) ⟨[U6, U6, (I6 k), (I6 n), U6, .ptr 0 0, .ptr 1 0, U6, U6, .ptr 2 0, (B6 false)] ++ UU 7 ++ [(B6 (!decide (smallP t)))] ++ UU 49, [⟨(Go.Cnt.CB kind base am w m e), 6, .fresh⟩, ⟨txc g t, 17, .fresh⟩, ⟨vecc g2 v, 1, .fresh⟩]⟩ ?_
    refine CN (!decide (smallP t)) (fun h1 => ?_) (fun h1 => ?_)
    · have h1' := h1
      simp only [Bool.and_eq_true, Bool.and_eq_false_iff, Bool.or_eq_true, Bool.or_eq_false_iff, Bool.not_eq_true', Bool.not_eq_false', beq_iff_eq, beq_eq_false_iff_ne, decide_eq_true_eq, decide_eq_false_iff_not, ne_eq] at h1'
      refine SQ (CD (heads) ?_)
      refine RT 1 ?_
      refine AWP.ret FA
    · have h1' := h1
      simp only [Bool.and_eq_true, Bool.and_eq_false_iff, Bool.or_eq_true, Bool.or_eq_false_iff, Bool.not_eq_true', Bool.not_eq_false', beq_iff_eq, beq_eq_false_iff_ne, decide_eq_true_eq, decide_eq_false_iff_not, ne_eq] at h1'
      refine AWP.skip (AWP.seq ?_)
      refine AWP.drawX mixed (fun o => [21, 23, 30, 35, 36, 42, 46, 47, 52, 55, 56, 60, 62, 63, 66].contains (o.dst.getD 0)) (by kernel_rfl) ?_
      refine DerX.quietI ((6 : Nat) ≤ (6 : Nat)) (by intro ext; kernel_rfl) (by kernel_rfl) (by omega) ?_
      refine DerX.callDI (c1) ⟨by kernel_rfl, by kernel_rfl⟩ ?_
      refine DerX.quietI ((6 : Nat) ≤ (6 : Nat)) (by intro ext; kernel_rfl) (by kernel_rfl) (by omega) ?_
      refine DerX.callDI (c2) ⟨by kernel_rfl, by kernel_rfl⟩ ?_
      refine DerX.preI 2 ((True) ∧ ((True) ∧ (True))) (by intro ext; kernel_rfl) ⟨trivial, ⟨trivial, trivial⟩⟩ ?_
      refine AWP.toX ⟨[U6, U6, (I6 k), (I6 n), U6, .ptr 0 0, .ptr 1 0, U6, U6, .ptr 2 0, (B6 false)] ++ UU 7 ++ [(B6 (!decide (smallP t))), U6, .agg (Go.Cnt.CB kind base am w m e), (B6 (decide (chkP kind base am (List.length w) (List.length m) (List.length e)))), .agg (Go.Cnt.CB kind base am w m e), (B6 (decide (chkP kind base am (List.length w) (List.length m) (List.length e)))), (B6 (decide (chkP kind base am (List.length w) (List.length m) (List.length e)) == decide (chkP kind base am (List.length w) (List.length m) (List.length e)))), (B6 (decide (chkP kind base am (List.length w) (List.length m) (List.length e)) == decide (chkP kind base am (List.length w) (List.length m) (List.length e))))] ++ UU 42, [⟨(Go.Cnt.CB kind base am w m e), 6, .fresh⟩, ⟨txc g t, 17, .fresh⟩, ⟨vecc g2 v, 1, .fresh⟩]⟩ (by kernel_rfl) ?_
      cases h2 : (decide (chkP kind base am (List.length w) (List.length m) (List.length e)) == decide (chkP kind base am (List.length w) (List.length m) (List.length e)))
      · have h2' := ne_of_beq_false h2
        (exfalso; (exfalso; simp_all; done); done)
      · have h2' := eq_of_beq h2
        refine DerX.pre 4 (((6 : Nat) ≤ (6 : Nat)) ∧ ((17 ≤ List.length (txc g t)) ∧ ((True) ∧ ((True) ∧ (True))))) [.agg (Go.Cnt.CB kind base am w m e), .agg (List.take 17 (List.drop 0 (txc g t))), (I6 k), (I6 n)] ⟨[U6, U6, (I6 k), (I6 n), U6, .ptr 0 0, .ptr 1 0, U6, U6, .ptr 2 0, (B6 false)] ++ UU 7 ++ [(B6 (!decide (smallP t))), U6, .agg (Go.Cnt.CB kind base am w m e), (B6 (decide (chkP kind base am (List.length w) (List.length m) (List.length e)))), .agg (Go.Cnt.CB kind base am w m e), (B6 (decide (chkP kind base am (List.length w) (List.length m) (List.length e)))), (B6 true), (B6 true), .agg (Go.Cnt.CB kind base am w m e), .agg (List.take 17 (List.drop 0 (txc g t))), (I6 k), (I6 n)] ++ UU 38, [⟨(Go.Cnt.CB kind base am w m e), 6, .fresh⟩, ⟨txc g t, 17, .fresh⟩, ⟨vecc g2 v, 1, .fresh⟩]⟩ (by intro ext; kernel_rfl) (by kernel_rfl) ⟨(by omega), ⟨(by simp), ⟨trivial, ⟨trivial, trivial⟩⟩⟩⟩ ?_
        rw [List.drop_zero]
        rw [Go.Ops.tx_take (g) (t)]
        refine DerX.callDI (p1) ⟨by kernel_rfl, by kernel_rfl⟩ ?_
        refine DerX.pre 4 (((6 : Nat) ≤ (6 : Nat)) ∧ ((17 ≤ List.length (txc g t)) ∧ ((True) ∧ ((True) ∧ (True))))) [.agg (Go.Cnt.CB kind base am w m e), .agg (List.take 17 (List.drop 0 (txc g t))), (I6 k), (I6 n)] ⟨[U6, U6, (I6 k), (I6 n), U6, .ptr 0 0, .ptr 1 0, U6, U6, .ptr 2 0, (B6 false)] ++ UU 7 ++ [(B6 (!decide (smallP t))), U6, .agg (Go.Cnt.CB kind base am w m e), (B6 (decide (chkP kind base am (List.length w) (List.length m) (List.length e)))), .agg (Go.Cnt.CB kind base am w m e), (B6 (decide (chkP kind base am (List.length w) (List.length m) (List.length e)))), (B6 true), (B6 true), .agg (Go.Cnt.CB kind base am w m e), .agg (txc g t), (I6 k), (I6 n), .agg (Go.Cnt.CB kind b1 A1 w m e), .agg (Go.Cnt.CB kind base am w m e), .agg (List.take 17 (List.drop 0 (txc g t))), (I6 k), (I6 n)] ++ UU 33, [⟨(Go.Cnt.CB kind base am w m e), 6, .fresh⟩, ⟨txc g t, 17, .fresh⟩, ⟨vecc g2 v, 1, .fresh⟩]⟩ (by intro ext; kernel_rfl) (by kernel_rfl) ⟨(by omega), ⟨(by simp), ⟨trivial, ⟨trivial, trivial⟩⟩⟩⟩ ?_
        rw [List.drop_zero]
        rw [Go.Ops.tx_take (g) (t)]
        refine DerX.callDI (p2) ⟨by kernel_rfl, by kernel_rfl⟩ ?_
        refine DerX.callDI (p3) ⟨by kernel_rfl, by kernel_rfl⟩ ?_
        refine DerX.pre 5 ((True) ∧ ((True) ∧ (((6 : Nat) ≤ (6 : Nat)) ∧ ((17 ≤ List.length (txc g t)) ∧ ((True) ∧ (True)))))) [(B6 true), (B6 true), .agg (Go.Cnt.CB kind base am w m e), .agg (List.take 17 (List.drop 0 (txc g t))), (I6 k)] ⟨[U6, U6, (I6 k), (I6 n), U6, .ptr 0 0, .ptr 1 0, U6, U6, .ptr 2 0, (B6 false)] ++ UU 7 ++ [(B6 (!decide (smallP t))), U6, .agg (Go.Cnt.CB kind base am w m e), (B6 (decide (chkP kind base am (List.length w) (List.length m) (List.length e)))), .agg (Go.Cnt.CB kind base am w m e), (B6 (decide (chkP kind base am (List.length w) (List.length m) (List.length e)))), (B6 true), (B6 true), .agg (Go.Cnt.CB kind base am w m e), .agg (txc g t), (I6 k), (I6 n), .agg (Go.Cnt.CB kind b1 A1 w m e), .agg (Go.Cnt.CB kind base am w m e), .agg (txc g t), (I6 k), (I6 n), .agg (Go.Cnt.CB kind b1 A1 w m e), (B6 true), (B6 true), (B6 true), .agg (Go.Cnt.CB kind base am w m e), .agg (List.take 17 (List.drop 0 (txc g t))), (I6 k)] ++ UU 26, [⟨(Go.Cnt.CB kind base am w m e), 6, .fresh⟩, ⟨txc g t, 17, .fresh⟩, ⟨vecc g2 v, 1, .fresh⟩]⟩ (by intro ext; kernel_rfl) (by kernel_rfl) ⟨trivial, ⟨trivial, ⟨(by omega), ⟨(by simp), ⟨trivial, trivial⟩⟩⟩⟩⟩ ?_
        rw [List.drop_zero]
        rw [Go.Ops.tx_take (g) (t)]
        refine DerX.callDI (q1) ⟨by kernel_rfl, by kernel_rfl⟩ ?_
        refine DerX.pre 3 (((6 : Nat) ≤ (6 : Nat)) ∧ ((17 ≤ List.length (txc g t)) ∧ ((True) ∧ (True)))) [.agg (Go.Cnt.CB kind base am w m e), .agg (List.take 17 (List.drop 0 (txc g t))), (I6 k)] ⟨[U6, U6, (I6 k), (I6 n), U6, .ptr 0 0, .ptr 1 0, U6, U6, .ptr 2 0, (B6 false)] ++ UU 7 ++ [(B6 (!decide (smallP t))), U6, .agg (Go.Cnt.CB kind base am w m e), (B6 (decide (chkP kind base am (List.length w) (List.length m) (List.length e)))), .agg (Go.Cnt.CB kind base am w m e), (B6 (decide (chkP kind base am (List.length w) (List.length m) (List.length e)))), (B6 true), (B6 true), .agg (Go.Cnt.CB kind base am w m e), .agg (txc g t), (I6 k), (I6 n), .agg (Go.Cnt.CB kind b1 A1 w m e), .agg (Go.Cnt.CB kind base am w m e), .agg (txc g t), (I6 k), (I6 n), .agg (Go.Cnt.CB kind b1 A1 w m e), (B6 true), (B6 true), (B6 true), .agg (Go.Cnt.CB kind base am w m e), .agg (txc g t), (I6 k), .agg (Go.Cnt.CB kind b2 A2 w m e), .agg (Go.Cnt.CB kind base am w m e), .agg (List.take 17 (List.drop 0 (txc g t))), (I6 k)] ++ UU 22, [⟨(Go.Cnt.CB kind base am w m e), 6, .fresh⟩, ⟨txc g t, 17, .fresh⟩, ⟨vecc g2 v, 1, .fresh⟩]⟩ (by intro ext; kernel_rfl) (by kernel_rfl) ⟨(by omega), ⟨(by simp), ⟨trivial, trivial⟩⟩⟩ ?_
        rw [List.drop_zero]
        rw [Go.Ops.tx_take (g) (t)]
        refine DerX.callDI (q2) ⟨by kernel_rfl, by kernel_rfl⟩ ?_
        refine DerX.callDI (q3) ⟨by kernel_rfl, by kernel_rfl⟩ ?_
        refine DerX.pre 4 ((True) ∧ ((True) ∧ (((6 : Nat) ≤ (6 : Nat)) ∧ ((13 ≤ List.length (vecc g2 v)) ∧ (True))))) [(B6 true), (B6 true), .agg (Go.Cnt.CB kind base am w m e), .agg (List.take 13 (List.drop 0 (vecc g2 v)))] ⟨[U6, U6, (I6 k), (I6 n), U6, .ptr 0 0, .ptr 1 0, U6, U6, .ptr 2 0, (B6 false)] ++ UU 7 ++ [(B6 (!decide (smallP t))), U6, .agg (Go.Cnt.CB kind base am w m e), (B6 (decide (chkP kind base am (List.length w) (List.length m) (List.length e)))), .agg (Go.Cnt.CB kind base am w m e), (B6 (decide (chkP kind base am (List.length w) (List.length m) (List.length e)))), (B6 true), (B6 true), .agg (Go.Cnt.CB kind base am w m e), .agg (txc g t), (I6 k), (I6 n), .agg (Go.Cnt.CB kind b1 A1 w m e), .agg (Go.Cnt.CB kind base am w m e), .agg (txc g t), (I6 k), (I6 n), .agg (Go.Cnt.CB kind b1 A1 w m e), (B6 true), (B6 true), (B6 true), .agg (Go.Cnt.CB kind base am w m e), .agg (txc g t), (I6 k), .agg (Go.Cnt.CB kind b2 A2 w m e), .agg (Go.Cnt.CB kind base am w m e), .agg (txc g t), (I6 k), .agg (Go.Cnt.CB kind b2 A2 w m e), (B6 true), (B6 true), (B6 true), .agg (Go.Cnt.CB kind base am w m e), .agg (List.take 13 (List.drop 0 (vecc g2 v)))] ++ UU 16, [⟨(Go.Cnt.CB kind base am w m e), 6, .fresh⟩, ⟨txc g t, 17, .fresh⟩, ⟨vecc g2 v, 1, .fresh⟩]⟩ (by intro ext; kernel_rfl) (by kernel_rfl) ⟨trivial, ⟨trivial, ⟨(by omega), ⟨(by simp), trivial⟩⟩⟩⟩ ?_
        rw [List.drop_zero]
        rw [Go.Ops.vecc_take (g2) (v)]
        refine DerX.callDI (r1) ⟨by kernel_rfl, by kernel_rfl⟩ ?_
        refine DerX.pre 2 (((6 : Nat) ≤ (6 : Nat)) ∧ ((13 ≤ List.length (vecc g2 v)) ∧ (True))) [.agg (Go.Cnt.CB kind base am w m e), .agg (List.take 13 (List.drop 0 (vecc g2 v)))] ⟨[U6, U6, (I6 k), (I6 n), U6, .ptr 0 0, .ptr 1 0, U6, U6, .ptr 2 0, (B6 false)] ++ UU 7 ++ [(B6 (!decide (smallP t))), U6, .agg (Go.Cnt.CB kind base am w m e), (B6 (decide (chkP kind base am (List.length w) (List.length m) (List.length e)))), .agg (Go.Cnt.CB kind base am w m e), (B6 (decide (chkP kind base am (List.length w) (List.length m) (List.length e)))), (B6 true), (B6 true), .agg (Go.Cnt.CB kind base am w m e), .agg (txc g t), (I6 k), (I6 n), .agg (Go.Cnt.CB kind b1 A1 w m e), .agg (Go.Cnt.CB kind base am w m e), .agg (txc g t), (I6 k), (I6 n), .agg (Go.Cnt.CB kind b1 A1 w m e), (B6 true), (B6 true), (B6 true), .agg (Go.Cnt.CB kind base am w m e), .agg (txc g t), (I6 k), .agg (Go.Cnt.CB kind b2 A2 w m e), .agg (Go.Cnt.CB kind base am w m e), .agg (txc g t), (I6 k), .agg (Go.Cnt.CB kind b2 A2 w m e), (B6 true), (B6 true), (B6 true), .agg (Go.Cnt.CB kind base am w m e), .agg (vecc g2 v), .agg (Go.Cnt.CB kind b3 A3 w m e), .agg (Go.Cnt.CB kind base am w m e), .agg (List.take 13 (List.drop 0 (vecc g2 v)))] ++ UU 13, [⟨(Go.Cnt.CB kind base am w m e), 6, .fresh⟩, ⟨txc g t, 17, .fresh⟩, ⟨vecc g2 v, 1, .fresh⟩]⟩ (by intro ext; kernel_rfl) (by kernel_rfl) ⟨(by omega), ⟨(by simp), trivial⟩⟩ ?_
        rw [List.drop_zero]
        rw [Go.Ops.vecc_take (g2) (v)]
        refine DerX.callDI (r2) ⟨by kernel_rfl, by kernel_rfl⟩ ?_
        refine DerX.callDI (r3) ⟨by kernel_rfl, by kernel_rfl⟩ ?_
        refine DerX.preI 3 ((True) ∧ ((True) ∧ (((6 : Nat) ≤ (6 : Nat)) ∧ (True)))) (by intro ext; kernel_rfl) ⟨trivial, ⟨trivial, ⟨(by omega), trivial⟩⟩⟩ ?_
        refine DerX.callDI (s1) ⟨by kernel_rfl, by kernel_rfl⟩ ?_
        refine DerX.quietI ((6 : Nat) ≤ (6 : Nat)) (by intro ext; kernel_rfl) (by kernel_rfl) (by omega) ?_
        refine DerX.callDI (s2) ⟨by kernel_rfl, by kernel_rfl⟩ ?_
        refine DerX.callDI (s3) ⟨by kernel_rfl, by kernel_rfl⟩ ?_
        refine DerX.preI 2 ((True) ∧ ((True) ∧ (True))) (by intro ext; kernel_rfl) ⟨trivial, ⟨trivial, trivial⟩⟩ ?_
        refine DerX.callDI (heads) ⟨by kernel_rfl, by kernel_rfl⟩ ?_
        refine DerX.preI 2 ((True) ∧ ((True) ∧ (True))) (by intro ext; kernel_rfl) ⟨trivial, ⟨trivial, trivial⟩⟩ ?_
        refine DerX.nil ?_
        refine AWP.ret FA
  · have hf1 := dec_f hfew hf
    refine EvD.body Try.func8 rfl (by simp [dataAll, AVal.data, *]) (by simp [dataAll, AVal.data, *]) ?_
    refine AWP.seq ?_
    refine TO ⟨[.agg (Go.Cnt.CB kind base am w m e), .agg (txc g t), (I6 k), (I6 n), .agg (vecc g2 v)] ++ UU 63, []⟩ ?_
    refine AWP.reg (RT 4 ?_)
    refine AWP.seq (AWP.seq (KL [0, 1, 4] ⟨[U6, U6, (I6 k), (I6 n), U6, .ptr 0 0, .ptr 1 0, U6, U6, .ptr 2 0, (B6 false)] ++ UU 57, [⟨(Go.Cnt.CB kind base am w m e), 6, .fresh⟩, ⟨txc g t, 17, .fresh⟩, ⟨vecc g2 v, 1, .fresh⟩]⟩ ?_))
    refine AWP.reg (PI 1 (6 ≤ 6 ∧ True) ⟨(by omega), trivial⟩ ?_)
    refine CD (hf1) ?_
    refine RT 3 ?_
    refine KL (NN 11 7) ⟨[U6, U6, (I6 k), (I6 n), U6, .ptr 0 0, .ptr 1 0, U6, U6, .ptr 2 0, (B6 false)] ++ UU 7 ++ [(B6 true)] ++ UU 49, [⟨(Go.Cnt.CB kind base am w m e), 6, .fresh⟩, ⟨txc g t, 17, .fresh⟩, ⟨vecc g2 v, 1, .fresh⟩]⟩ ?_
    refine CN true (fun _ => ?_) (fun h => nomatch h)
    refine SQ (CD (heads) ?_)
    refine RT 1 ?_
    refine AWP.ret FA
end Go.Cnt
