/- Walks and laws. -/
import Derived.Test.YtikllaiggklljaaDk16
import Derived.Test.YtikllaiggklljaaLibC
set_option maxRecDepth 100000
set_option maxHeartbeats 0
set_option linter.unusedSimpArgs false
set_option linter.unusedVariables false
namespace Go.Dk
open Go Go.Abs Go.Proofs
def goodA (a : ActD) : Prop := Bts a.d ∧ (-9223372036854775808 ≤ a.n ∧ a.n ≤ 9223372036854775807)
theorem sumA_nn (l : List ActD) (i : Nat) : 0 ≤ sumA l i := by
  induction i with
  | zero => exact Int.le_refl _
  | succ i ih => rw [sumA]; omega
theorem diskKeeps (room keep : Int) (l : List ActD) (hx : l.length ≤ 1000000000000000) (hA : ∀ i, i < l.length → goodA (l.getD i ac0)) : EvD Try.prog 11 [.sc (.int .i64 room), .sl (acsc l) l.length .any, .sc (.int .i64 keep)] (.sc (.bool true)) := by
  by_cases h : smallP l ∧ 0 ≤ room ∧ room ≤ 10000
  · refine keeps_ok room keep l hx h.1 (fun i hi => ⟨?_, (hA i hi).1, (hA i hi).2⟩) h.2
    have h1 := (h.1.2 i hi).2
    have h2 := sumA_nn l i
    omega
  · exact keeps_no room keep l hx h
theorem far {n b : Nat} (h : n * b ≤ reachBytes) (hb : 0 < b) : n ≤ 1000000000000000 := by
  have h1 : n * 1 ≤ n * b := Nat.mul_le_mul_left n hb
  have : reachBytes ≤ 1000000000000000 := by decide
  omega
theorem cof5 : Try.prog.cellsOf 5 = 1 := by kernel_rfl
theorem cof85 : Try.prog.cellsOf 85 = 4 := by kernel_rfl
theorem flat1 (xs : List Int) : xs.flatMap (fun x : Int => [AVal.sc (.int .u8 x)]) = u8s xs := by
  induction xs with
  | nil => rfl
  | cons a l ih => rw [List.flatMap_cons, ih]; rfl
theorem ac_of {xs : List AVal} (h : HasT Try.prog 85 xs) : ∃ a : ActD, goodA a ∧ xs = acc a := by
  obtain ⟨_, _, rfl, ⟨a, _, rfl⟩, _, _, rfl, ⟨b, rfl⟩, _, _, rfl, ⟨ys, n, rfl, h1, _, h2⟩, _, _, rfl, ⟨c, wc, rfl⟩, rfl⟩ := leaves_spec 4 85 [.int .i64, .str, .sl 5, .int .i64] xs (by kernel_rfl) h
  rw [cof5] at h1 h2
  obtain ⟨l, h3, h4, h5⟩ := items_of (fun x : Int => [AVal.sc (.int .u8 x)]) (fun x => 0 ≤ x ∧ x < 256) 1 n ys h1 (fun i hi => by
    obtain ⟨a, hw, ha⟩ := HasT.int_inv Try.underlying5 (h2 i hi)
    exact ⟨a, wf_u8 hw, ha⟩)
  subst h3; subst h5
  refine ⟨⟨a, b, l, c⟩, ⟨fun x hx => h4 x hx, wf_i64 wc⟩, ?_⟩
  rw [flat1]; rfl
theorem acts_of {y : AVal} (h : HasT Try.prog 81 [y]) : ∃ l : List ActD, (l.length ≤ 1000000000000000 ∧ ∀ i, i < l.length → goodA (l.getD i ac0)) ∧ y = .sl (acsc l) l.length .any := by
  obtain ⟨ys, n, h0, h1, hr, h2⟩ := HasT.slice_inv Try.underlying81 h
  rw [cof85] at h1 h2
  obtain ⟨l, h3, h4, h5⟩ := items_of acc goodA 4 n ys h1 (fun i hi => ac_of (h2 i hi))
  subst h3; subst h5
  injection h0 with h0
  refine ⟨l, ⟨far hr ?_, fun i hi => ?_⟩, h0⟩
  · exact of_decide_eq_true (by kernel_rfl)
  · have e : l.getD i ac0 = l[i] := by rw [List.getD_eq_getElem?_getD, List.getElem?_eq_getElem hi]; rfl
    rw [e]; exact h4 _ (List.getElem_mem hi)
theorem tys : okTys Try.prog [3, 5, 9, 23, 81, 85] = true := by kernel_rfl
end Go.Dk
