/- Walks and laws. -/
import Derived.Test.YtikllaiggklljaaNet9
set_option maxRecDepth 100000
set_option maxHeartbeats 0
set_option linter.unusedSimpArgs false
set_option linter.unusedVariables false
namespace Go.Net
open Go Go.Abs Go.Proofs
/-- An act. -/
structure ActD where
  kind : Int
  n : Int
  at' : Int
  by' : Int
  d : List Int
def acc (a : ActD) : List AVal := [.sc (.int .i64 a.kind), .sc (.int .i64 a.n), .sc (.int .i64 a.at'), .sc (.int .u8 a.by'), .sl (u8s a.d) a.d.length .any]
def acsc (l : List ActD) : List AVal := l.flatMap acc
def ac0 : ActD := ⟨0, 0, 0, 0, []⟩
@[simp] theorem acsc_length (l : List ActD) : (acsc l).length = l.length * 5 := recs_length acc 5 (fun _ => rfl) l
@[simp] theorem acsc_data (l : List ActD) : dataAll (acsc l) = true := recs_data acc (fun f => by simp [acc, dataAll, AVal.data]) l
theorem place_cases (l : List FlD) (x : Int) : (placeI l x 0 = -1 ∧ ∀ j, j < l.length → (l.getD j fl0).num ≠ x) ∨ ∃ k : Nat, placeI l x 0 = (k : Int) ∧ k < l.length ∧ (l.getD k fl0).num = x := by
  by_cases h : ∃ k, k < l.length ∧ (l.getD k fl0).num = x
  · right
    have hex : ∀ n, (∃ k, k < n ∧ k < l.length ∧ (l.getD k fl0).num = x) → ∃ k : Nat, placeI l x 0 = (k : Int) ∧ k < l.length ∧ (l.getD k fl0).num = x := by
      intro n
      induction n with
      | zero => rintro ⟨k, hk, _⟩; omega
      | succ n ih =>
        rintro ⟨k, hk, hl, hx⟩
        by_cases h2 : ∃ k', k' < k ∧ k' < l.length ∧ (l.getD k' fl0).num = x
        · obtain ⟨k', a, b, c⟩ := h2
          exact ih ⟨k', by omega, b, c⟩
        · refine ⟨k, ?_, hl, hx⟩
          have := place_at l x 0 k hl (fun j hj e => h2 ⟨j, hj, by omega, e⟩) hx
          simpa using this
    obtain ⟨k, a, b⟩ := h
    exact hex (k + 1) ⟨k, by omega, a, b⟩
  · left
    have hno : ∀ j, j < l.length → (l.getD j fl0).num ≠ x := fun j hj e => h ⟨j, hj, e⟩
    exact ⟨place_no l x 0 hno, hno⟩
def pk (l : List FlD) (x : Int) : Nat := (placeI l x 0).toNat
def hasX (l : List FlD) (x : Int) : Prop := placeI l x 0 ≠ -1
instance (l : List FlD) (x : Int) : Decidable (hasX l x) := by unfold hasX; infer_instance
theorem hasX_no {l : List FlD} {x : Int} (h : ¬ hasX l x) : ∀ j, j < l.length → (l.getD j fl0).num ≠ x := by
  rcases place_cases l x with ⟨_, h1⟩ | ⟨k, h1, _⟩
  · exact h1
  · exact absurd (by unfold hasX; omega) h
theorem hasX_yes {l : List FlD} {x : Int} (h : hasX l x) : pk l x < l.length ∧ (l.getD (pk l x) fl0).num = x := by
  rcases place_cases l x with ⟨h1, _⟩ | ⟨k, h1, h2, h3⟩
  · exact absurd h1 h
  · unfold pk; rw [h1]; exact ⟨h2, h3⟩
def argP (to : Int) (d : List Int) : Prop := (1 ≤ to ∧ to ≤ 12) ∧ 1 ≤ d.length ∧ d.length ≤ 60000
instance (to : Int) (d : List Int) : Decidable (argP to d) := by unfold argP; infer_instance
def sndL (l : List FlD) (next to : Int) (d : List Int) : List FlD := if argP to d then addL l next ⟨0, to, d, false⟩ else l
def sndN (next to : Int) (d : List Int) : Int := if argP to d then next + 1 else next
def sndX (next to : Int) (d : List Int) : Int := if argP to d then next else 0
def sndE (to : Int) (d : List Int) : Int := if argP to d then 0 else 2
def tkL (l : List FlD) (x : Int) : List FlD := if hasX l x then rmL l (pk l x) else l
def tkF (l : List FlD) (x : Int) : FlD := if hasX l x then l.getD (pk l x) fl0 else fl0
def tkE (l : List FlD) (x : Int) : Int := if hasX l x then 0 else 7
def dbL (l : List FlD) (next x : Int) : List FlD := if hasX l x then addL l next (l.getD (pk l x) fl0) else l
def dbN (l : List FlD) (next x : Int) : Int := if hasX l x then next + 1 else next
def dbX (l : List FlD) (next x : Int) : Int := if hasX l x then next else 0
def dbE (l : List FlD) (x : Int) : Int := if hasX l x then 0 else 7
def inP (f : FlD) (a b : Int) : Prop := 0 ≤ a ∧ a < f.d.length ∧ b ≠ 0
instance (f : FlD) (a b : Int) : Decidable (inP f a b) := by unfold inP; infer_instance
def slP (l : List FlD) (x a b : Int) : Prop := hasX l x ∧ (l.getD (pk l x) fl0).sp = false ∧ inP (l.getD (pk l x) fl0) a b
instance (l : List FlD) (x a b : Int) : Decidable (slP l x a b) := by unfold slP; infer_instance
def spoL (l : List FlD) (x a b : Int) : List FlD := if slP l x a b then spL l (pk l x) a b else l
def spoE (l : List FlD) (x a b : Int) : Int := if hasX l x then (if (l.getD (pk l x) fl0).sp = true then 8 else if inP (l.getD (pk l x) fl0) a b then 0 else 2) else 7
end Go.Net
