/- Walks and laws. -/
import Derived.Test.YtikllaiggklljaaNetG
import Derived.Test.YtikllaiggklljaaNet12
set_option maxRecDepth 100000
set_option maxHeartbeats 0
set_option linter.unusedSimpArgs false
set_option linter.unusedVariables false
namespace Go.Net
open Go Go.Abs Go.Proofs
theorem cof69 : Try.prog.cellsOf 69 = 5 := by kernel_rfl
theorem ac_of {xs : List AVal} (h : HasT Try.prog 69 xs) : ∃ a : ActD, goodA a ∧ xs = acc a := by
  obtain ⟨_, _, rfl, ⟨a, _, rfl⟩, _, _, rfl, ⟨b, _, rfl⟩, _, _, rfl, ⟨c, wc, rfl⟩, _, _, rfl, ⟨d, wd, rfl⟩, _, _, rfl, ⟨ys, n, rfl, h1, _, h2⟩, rfl⟩ := leaves_spec 4 69 [.int .i64, .int .i64, .int .i64, .int .u8, .sl 5] xs (by kernel_rfl) h
  rw [cof5] at h1 h2
  obtain ⟨l, h3, h4, h5⟩ := items_of (fun x : Int => [AVal.sc (.int .u8 x)]) (fun x => 0 ≤ x ∧ x < 256) 1 n ys h1 (fun i hi => by
    obtain ⟨a, hw, ha⟩ := HasT.int_inv Try.underlying5 (h2 i hi)
    exact ⟨a, wf_u8 hw, ha⟩)
  subst h3; subst h5
  refine ⟨⟨a, b, c, d, l⟩, ⟨wf_i64 wc, wf_u8 wd, fun x hx => h4 x hx⟩, ?_⟩
  rw [flat1]; rfl
theorem acts_of {y : AVal} (h : HasT Try.prog 67 [y]) : ∃ l : List ActD, (l.length ≤ 1000000000000000 ∧ ∀ i, i < l.length → goodA (l.getD i ac0)) ∧ y = .sl (acsc l) l.length .any := by
  obtain ⟨ys, n, h0, h1, hr, h2⟩ := HasT.slice_inv Try.underlying67 h
  rw [cof69] at h1 h2
  obtain ⟨l, h3, h4, h5⟩ := items_of acc goodA 5 n ys h1 (fun i hi => ac_of (h2 i hi))
  subst h3; subst h5
  injection h0 with h0
  refine ⟨l, ⟨far hr ?_, fun i hi => ?_⟩, h0⟩
  · exact of_decide_eq_true (by kernel_rfl)
  · have e : l.getD i ac0 = l[i] := by rw [List.getD_eq_getElem?_getD, List.getElem?_eq_getElem hi]; rfl
    rw [e]; exact h4 _ (List.getElem_mem hi)
theorem tys2 : okTys Try.prog [3, 5, 23, 67, 69] = true := by kernel_rfl
end Go.Net
