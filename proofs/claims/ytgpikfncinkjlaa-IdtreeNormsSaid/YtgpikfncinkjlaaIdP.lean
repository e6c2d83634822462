/- Walks and laws. -/
import Derived.Test.YtgpikfncinkjlaaId0
set_option linter.unusedSimpArgs false
set_option linter.unusedVariables false
namespace Go.Tr
open Go Go.Abs
theorem beqT_self (t : T) : beqT t t = true := (beqT_iff t t).2 rfl
theorem norm_idem : ∀ t : T, normI (normI t) = normI t
  | .mk n [] => rfl
  | .mk n [a, b] => by rw [norm_two]; exact norm_short (norm_idem a) (norm_idem b)
  | .mk n [a] => rfl
  | .mk n (a :: b :: c :: r) => rfl
theorem rough_short {d : Int} {l r : T} (h0 : 0 < d) (hl : roughI (d - 1) l = true) (hr : roughI (d - 1) r = true) : roughI d (shortI l r) = true := by
  by_cases hc : isT l r.n ∧ r.ks.length = 0
  · rw [short_yes hc]
    match l, hc, hl with
    | .mk n [], _, hl => simpa only [roughI] using hl
    | .mk n (a :: k), hc, _ => simp [isT] at hc
  · rw [short_no hc]; simp [roughI, h0, hl, hr]
theorem rough_norm : ∀ (t : T) (d : Int), roughI d t = true → roughI d (normI t) = true
  | .mk n [], d, h => h
  | .mk n [a, b], d, h => by
    obtain ⟨_, h2, h3, h4⟩ := rough_kids h
    rw [norm_two]; exact rough_short h2 (rough_norm a _ h3) (rough_norm b _ h4)
  | .mk n [a], d, h => by simp [roughI] at h
  | .mk n (a :: b :: c :: r), d, h => by simp [roughI] at h
theorem check_of {t : T} (h1 : roughI 16 t = true) (h2 : normI t = t) : checkI t = true := by
  simp only [checkI, Bool.and_eq_true]; exact ⟨h1, (beqT_iff _ _).2 h2.symm⟩
/-! ### who owns what -/
/-- along a path -/
def ownI : T → (Nat → Bool) → Prop
  | .mk n [], _ => n = 1
  | .mk _ [a, b], f => if f 0 = true then ownI b (fun i => f (i + 1)) else ownI a (fun i => f (i + 1))
  | _, _ => False
  termination_by structural t => t
def pathC (c : Bool) (f : Nat → Bool) : Nat → Bool
  | 0 => c
  | i + 1 => f i
/-! ### splits -/
end Go.Tr
