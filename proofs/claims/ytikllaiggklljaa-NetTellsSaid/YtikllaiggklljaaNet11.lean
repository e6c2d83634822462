/- Walks and laws. -/
import Derived.Test.YtikllaiggklljaaNet10
set_option maxRecDepth 100000
set_option maxHeartbeats 0
set_option linter.unusedSimpArgs false
set_option linter.unusedVariables false
namespace Go.Net
open Go Go.Abs Go.Proofs
def cameOf (s f : FlD) : Prop := s.to = f.to ∧ nearP s.d f.d ∧ (f.sp = true ∨ s.d = f.d)
instance (s f : FlD) : Decidable (cameOf s f) := by unfold cameOf; infer_instance
def Inv (n : Nat) (st fl : List FlD) (next : Int) : Prop :=
  okN next fl ∧ next ≤ n ∧ fl.length ≤ n ∧ st.length ≤ n ∧
  (∀ j, j < fl.length → ((fl.getD j fl0).d.length ≤ 100 ∧ Bts (fl.getD j fl0).d) ∧ ∃ k, k < st.length ∧ cameOf (st.getD k fl0) (fl.getD j fl0)) ∧
  (∀ k, k < st.length → (st.getD k fl0).d.length ≤ 100 ∧ Bts (st.getD k fl0).d)
theorem snoc_lt (l : List FlD) (f : FlD) (j : Nat) (h : j < l.length) : (l ++ [f]).getD j fl0 = l.getD j fl0 := by
  simp only [List.getD_eq_getElem?_getD]; rw [List.getElem?_append_left h]
theorem snoc_eq (l : List FlD) (f : FlD) : (l ++ [f]).getD l.length fl0 = f := by
  simp only [List.getD_eq_getElem?_getD]; rw [List.getElem?_append_right (by omega), Nat.sub_self]; rfl
theorem getD_set_ne (l : List FlD) (k j : Nat) (f : FlD) (h : k ≠ j) : (l.set k f).getD j fl0 = l.getD j fl0 := by
  simp only [List.getD_eq_getElem?_getD]; rw [List.getElem?_set_ne h]
theorem getD_set_eq (l : List FlD) (k : Nat) (f : FlD) (h : k < l.length) : (l.set k f).getD k fl0 = f := by
  simp only [List.getD_eq_getElem?_getD]; rw [List.getElem?_set_self h]; rfl
theorem x8_rng (x y : Int) : 0 ≤ x8 x y ∧ x8 x y < 256 := by
  unfold x8
  have hl := (BitVec.ofInt 8 x ^^^ BitVec.ofInt 8 y).isLt
  rw [IntWalk.u8_in _ (by omega)]
  omega
theorem Bts.set {d : List Int} (h : Bts d) (i : Nat) {v : Int} (hv : 0 ≤ v ∧ v < 256) : Bts (d.set i v) := by
  intro y hy
  rcases List.mem_or_eq_of_mem_set hy with h1 | h1
  · exact h y h1
  · subst h1; exact hv
end Go.Net
