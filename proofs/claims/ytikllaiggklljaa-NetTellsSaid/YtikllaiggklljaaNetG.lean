/- Walks and laws. -/
import Derived.Test.YtikllaiggklljaaNet0
import Derived.Test.YtikllaiggklljaaLibC
import Derived.HandedShaped
import Derived.Test.YtikllaiggklljaaProg
set_option maxRecDepth 100000
set_option maxHeartbeats 0
set_option linter.unusedSimpArgs false
set_option linter.unusedVariables false
namespace Go.Net
open Go Go.Abs Go.Proofs
theorem far {n b : Nat} (h : n * b ≤ reachBytes) (hb : 0 < b) : n ≤ 1000000000000000 := by
  have h1 : n * 1 ≤ n * b := Nat.mul_le_mul_left n hb
  have : reachBytes ≤ 1000000000000000 := by decide
  omega
theorem cof5 : Try.prog.cellsOf 5 = 1 := by kernel_rfl
theorem cof47 : Try.prog.cellsOf 47 = 4 := by kernel_rfl
theorem flat1 {α : Type} (f : α → AVal) (l : List α) : l.flatMap (fun x => [f x]) = l.map f := by
  induction l with
  | nil => rfl
  | cons a l ih => rw [List.flatMap_cons, ih]; rfl
theorem fl_of {xs : List AVal} (h : HasT Try.prog 47 xs) : ∃ a : FlD, Bts a.d ∧ xs = flc a := by
  obtain ⟨_, _, rfl, ⟨a, _, rfl⟩, _, _, rfl, ⟨b, _, rfl⟩, _, _, rfl, ⟨ys, n, rfl, h1, _, h2⟩, _, _, rfl, ⟨c, rfl⟩, rfl⟩ := leaves_spec 4 47 [.int .i64, .int .i64, .sl 5, .bool] xs (by kernel_rfl) h
  rw [cof5] at h1 h2
  obtain ⟨l, h3, h4, h5⟩ := items_of (fun x : Int => [AVal.sc (.int .u8 x)]) (fun x => 0 ≤ x ∧ x < 256) 1 n ys h1 (fun i hi => by
    obtain ⟨a, hw, ha⟩ := HasT.int_inv Try.underlying5 (h2 i hi)
    exact ⟨a, wf_u8 hw, ha⟩)
  subst h3; subst h5
  refine ⟨⟨a, b, l, c⟩, fun x hx => h4 x hx, ?_⟩
  rw [flat1]; rfl
theorem net_of {xs : List AVal} (h : HasT Try.prog 44 xs) : ∃ (l : List FlD) (next : Int), (l.length ≤ 1000000000000000 ∧ (-9223372036854775808 ≤ next ∧ next ≤ 9223372036854775807) ∧ BtsL l) ∧ xs = [.sl (flsc l) l.length .any, .sc (.int .i64 next)] := by
  obtain ⟨_, _, rfl, ⟨ys, n, rfl, h1, hr, h2⟩, _, _, rfl, ⟨next, hw, rfl⟩, rfl⟩ := leaves_spec 4 44 [.sl 47, .int .i64] xs (by kernel_rfl) h
  rw [cof47] at h1 h2
  obtain ⟨l, h3, h4, h5⟩ := items_of flc (fun f => Bts f.d) 4 n ys h1 (fun i hi => fl_of (h2 i hi))
  subst h3; subst h5
  have hb : BtsL l := fun i hi => by
    have e : l.getD i fl0 = l[i] := by rw [List.getD_eq_getElem?_getD, List.getElem?_eq_getElem hi]; rfl
    rw [e]; exact h4 _ (List.getElem_mem hi)
  refine ⟨l, next, ⟨far hr ?_, wf_i64 hw, hb⟩, rfl⟩
  exact of_decide_eq_true (by kernel_rfl)
theorem tys : okTys Try.prog [3, 4, 5, 23, 42, 44, 47] = true := by kernel_rfl
end Go.Net
