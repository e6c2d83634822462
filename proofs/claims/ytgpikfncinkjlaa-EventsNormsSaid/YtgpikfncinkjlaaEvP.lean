/- Walks and laws. -/
import Derived.Test.YtgpikfncinkjlaaEv0
set_option linter.unusedSimpArgs false
set_option linter.unusedVariables false
namespace Go.Tr
open Go Go.Abs
/-! ### along a path -/
def valE : T → (Nat → Bool) → Int
  | .mk n [], _ => n
  | .mk n [a, b], f => n + (if f 0 = true then valE b (fun i => f (i + 1)) else valE a (fun i => f (i + 1)))
  | _, _ => 0
  termination_by structural t => t
def pathD (c : Bool) (f : Nat → Bool) : Nat → Bool
  | 0 => c
  | i + 1 => f i
/-! ### normal ones -/
theorem node_lift (k n : Int) (l r : T) : liftT k (nodeE n l r) = nodeE (n + k) l r := by
  unfold nodeE; split <;> (simp only [liftT, T.n_mk, T.ks_mk]; congr 1; omega)
theorem norm_lift (k : Int) (t : T) : normE (liftT k t) = liftT k (normE t) := by
  match t with
  | .mk n [] => rfl
  | .mk n [a, b] => show normE (.mk (n + k) [a, b]) = _; rw [normE_two, normE_two, node_lift]
  | .mk n [a] => rfl
  | .mk n (a :: b :: c :: r) => rfl
theorem norm_node {n : Int} {l r : T} (hl : normE l = l) (hr : normE r = r) : normE (nodeE n l r) = nodeE n l r := by
  by_cases hc : l.ks.length = 0 ∧ r.ks.length = 0 ∧ l.n = r.n
  · rw [node_yes hc]; rfl
  · have hc2 : ¬ ((liftT (-(min l.n r.n)) l).ks.length = 0 ∧ (liftT (-(min l.n r.n)) r).ks.length = 0 ∧ (liftT (-(min l.n r.n)) l).n = (liftT (-(min l.n r.n)) r).n) := by
      rintro ⟨h1, h2, h3⟩
      exact hc ⟨h1, h2, by simp only [liftT, T.n_mk] at h3; omega⟩
    rw [node_no hc, normE_two, norm_lift, norm_lift, hl, hr, node_no hc2]
    have e : min (liftT (-(min l.n r.n)) l).n (liftT (-(min l.n r.n)) r).n = 0 := by simp only [liftT, T.n_mk]; omega
    rw [e, Int.neg_zero, lift_zero, lift_zero, Int.add_zero]
theorem normE_idem : ∀ t : T, normE (normE t) = normE t
  | .mk n [] => rfl
  | .mk n [a, b] => by rw [normE_two]; exact norm_node (normE_idem a) (normE_idem b)
  | .mk n [a] => rfl
  | .mk n (a :: b :: c :: r) => rfl
theorem checkE_of {t : T} (h1 : roughE 16 1073741824 t = true) (h2 : normE t = t) : checkE t = true := by
  simp only [checkE, Bool.and_eq_true]; exact ⟨h1, (beqT_iff _ _).2 h2.symm⟩
/-! ### places -/
/-! ### two normal ones with the same counts are one -/
/-! ### what the laws ask -/
end Go.Tr
