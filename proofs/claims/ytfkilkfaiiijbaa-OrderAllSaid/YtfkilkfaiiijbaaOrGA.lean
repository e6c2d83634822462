/- Walks and laws. -/
import Derived.Test.YtfkilkfaiiijbaaOr10
import Derived.Test.YtfkilkfaiiijbaaOpsG
import Derived.Test.YtfkilkfaiiijbaaLibC
set_option maxRecDepth 100000
set_option maxHeartbeats 0
set_option linter.unusedSimpArgs false
set_option linter.unusedVariables false
set_option linter.unusedSectionVars false
namespace Go.Ord
open Go Go.Abs Go.Proofs Go.Ops
theorem far {n b : Nat} (h : n * b ≤ reachBytes) (hb : 0 < b) : n ≤ 1000000000000000 := by
  have h1 : n * 1 ≤ n * b := Nat.mul_le_mul_left n hb
  have : reachBytes ≤ 1000000000000000 := by decide
  omega
def goodT (t : TxD) : Prop := t.ops.length ≤ 1000000000000000 ∧ -9223372036854775808 ≤ t.s ∧ t.s ≤ 9223372036854775807
theorem tx_of2 {xs : List AVal} (h : HasT Try.prog 28 xs) : ∃ t : TxD, goodT t ∧ xs = txe t := by
  obtain ⟨_, _, rfl, ⟨p, _, rfl⟩, _, _, rfl, ⟨s, ws, rfl⟩, _, _, rfl, ⟨n0, _, rfl⟩, _, _, rfl, ⟨n1, _, rfl⟩, _, _, rfl, ⟨n2, _, rfl⟩, _, _, rfl, ⟨n3, _, rfl⟩, _, _, rfl, ⟨n4, _, rfl⟩, _, _, rfl, ⟨n5, _, rfl⟩, _, _, rfl, ⟨n6, _, rfl⟩, _, _, rfl, ⟨n7, _, rfl⟩, _, _, rfl, ⟨n8, _, rfl⟩, _, _, rfl, ⟨n9, _, rfl⟩, _, _, rfl, ⟨n10, _, rfl⟩, _, _, rfl, ⟨n11, _, rfl⟩, _, _, rfl, ⟨n12, _, rfl⟩, _, _, rfl, ⟨time, _, rfl⟩, _, _, rfl, ⟨ys, n, rfl, h1, hr, h2⟩, rfl⟩ := leaves_spec 4 28 ([.int .i64, .int .i64] ++ List.replicate 13 (.int .i64) ++ [.int .i64, .sl 35]) xs (by kernel_rfl) h
  have hc : Try.prog.cellsOf 35 = 10 := by kernel_rfl
  rw [hc] at h1 h2
  obtain ⟨l, h3, _, h5⟩ := items_of opc (fun _ => True) 10 n ys h1 (fun i hi => by
    obtain ⟨o, ho⟩ := op_of (h2 i hi)
    exact ⟨o, trivial, ho⟩)
  subst h3
  subst h5
  refine ⟨⟨p, s, fun i => ([n0, n1, n2, n3, n4, n5, n6, n7, n8, n9, n10, n11, n12] : List Int).getD i 0, time, l⟩, ⟨far hr ?_, wf_i64 ws⟩, rfl⟩
  exact of_decide_eq_true (by kernel_rfl)
theorem cof28 : Try.prog.cellsOf 28 = 17 := by kernel_rfl
theorem txs_of {y : AVal} (h : HasT Try.prog 70 [y]) : ∃ l : List TxD, (l.length ≤ 1000000000000000 ∧ ∀ i, i < l.length → goodT (l.getD i tx0)) ∧ y = .sl (txsc l) l.length .any := by
  obtain ⟨ys, n, h0, h1, hr, h2⟩ := HasT.slice_inv Try.underlying70 h
  rw [cof28] at h1 h2
  obtain ⟨l, h3, h4, h5⟩ := items_of txe goodT 17 n ys h1 (fun i hi => tx_of2 (h2 i hi))
  subst h3; subst h5
  injection h0 with h0
  refine ⟨l, ⟨far hr ?_, fun i hi => ?_⟩, h0⟩
  · exact of_decide_eq_true (by kernel_rfl)
  · have e : l.getD i tx0 = l[i] := by rw [List.getD_eq_getElem?_getD, List.getElem?_eq_getElem hi]; rfl
    rw [e]; exact h4 _ (List.getElem_mem hi)
theorem orderAll (l : List TxD) (fr : Int) (hx : l.length ≤ 1000000000000000) (hA : ∀ i, i < l.length → goodT (l.getD i tx0)) (hf : -9223372036854775808 ≤ fr ∧ fr ≤ 9223372036854775807) : EvD Try.prog 12 [.sl (txsc l) l.length .any, .sc (.int .i64 fr)] (.sc (.bool true)) := by
  by_cases h : fewT l ∧ l.length ≤ 32 ∧ l.length ≠ 0 ∧ 0 ≤ fr ∧ chnR l
  · exact all_yes l fr hx (fun i hi => (hA i hi).1) (fun i hi => (hA i hi).2) h.1 h.2.1 h.2.2.1 ⟨h.2.2.2.1, hf.2⟩ h.2.2.2.2
  · exact all_no l fr hx (fun i hi => (hA i hi).1) (fun i hi => (hA i hi).2) h
theorem tys : okTys Try.prog [3, 4, 5, 9, 23, 25, 26, 28, 33, 35, 70] = true := by kernel_rfl
end Go.Ord
