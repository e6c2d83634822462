/- Walks and laws. -/
import Derived.Test.YtikllaiggklljaaNet13
import Derived.Test.YtikllaiggklljaaNet14
import Derived.Test.YtikllaiggklljaaNet11
set_option maxRecDepth 100000
set_option maxHeartbeats 0
set_option linter.unusedSimpArgs false
set_option linter.unusedVariables false
namespace Go.Net
open Go Go.Abs Go.Proofs
theorem bts_add {l : List FlD} (h : BtsL l) (next : Int) (f : FlD) (hf : Bts f.d) : BtsL (addL l next f) := by
  intro i hi
  rw [addL_len] at hi
  unfold addL
  by_cases hl : i < l.length
  · rw [snoc_lt _ _ _ hl]; exact h i hl
  · have e : i = l.length := by omega
    subst e
    rw [snoc_eq]; exact hf
theorem bts_rm {l : List FlD} (h : BtsL l) (k : Nat) (hk : k < l.length) : BtsL (rmL l k) := by
  intro i hi
  rw [rmL_len l k hk] at hi
  rw [rm_get l k i hk hi]
  exact h _ (by unfold unk; split <;> omega)
theorem bts_sp {l : List FlD} (h : BtsL l) (k : Nat) (a b : Int) (hk : k < l.length) : BtsL (spL l k a b) := by
  intro i hi
  rw [spL_len] at hi
  unfold spL
  by_cases e : k = i
  · subst e; rw [getD_set_eq _ _ _ hk]; exact Bts.set (h k hk) _ (x8_rng _ _)
  · rw [getD_set_ne _ _ _ _ e]; exact h i hi
/-- Both sides answer the same. -/
theorem send_pair (l : List FlD) (next : Int) (hf : fewP l) (hb : BtsL l) (hn : -9223372036854775808 ≤ next ∧ next ≤ 9223372036854775807) (to : Int) (d : List Int) (hd : Bts d) : ∃ (A : List FlD) (n x e : Int), A.length ≤ 1000000 ∧ BtsL A ∧
    EvD Try.prog 31 [.agg [.sl (flsc l) l.length .any, .sc (.int .i64 next)], .sc (.int .i64 to), .sl (u8s d) d.length .any] (.tup [.agg [.sl (flsc A) A.length .any, .sc (.int .i64 n)], .sc (.int .i64 x), .sc (.int .i64 e)]) ∧
    EvD Try.prog 32 [.agg [.sl (flsc l) l.length .any, .sc (.int .i64 next)], .sc (.int .i64 to), .sl (u8s d) d.length .any] (.tup [.agg [.sl (flsc A) A.length .any, .sc (.int .i64 n)], .sc (.int .i64 x), .sc (.int .i64 e)]) := by
  have hl : l.length ≤ 1000 := by have := hf.1; omega
  by_cases h : okN next l
  · by_cases ha : argP to d
    · by_cases hm : next < 1073741824
      · exact ⟨_, _, _, _, by rw [addL_len]; omega, bts_add hb _ _ hd, send_ok l next hl hn to d h ha hm, r_send_ok l next hl hn to d h ha hm⟩
      · exact ⟨l, next, _, _, by omega, hb, send_full l next hl hn to d h ha (by omega), r_send_full l next hl hn to d h ha (by omega)⟩
    · exact ⟨l, next, _, _, by omega, hb, send_arg l next hl hn to d h ha, r_send_arg l next hl hn to d h ha⟩
  · exact ⟨l, next, _, _, by omega, hb, send_form l next hl hn to d h, r_send_form l next hl hn to d h⟩
theorem place_yes {l : List FlD} {x : Int} (ha : hasX l x) : placeI l x 0 = ((pk l x : Nat) : Int) := by
  rcases place_cases l x with ⟨h1, _⟩ | ⟨k, h1, h2, h3⟩
  · exact absurd h1 ha
  · unfold pk; rw [h1]; simp
theorem place_not {l : List FlD} {x : Int} (ha : ¬ hasX l x) : placeI l x 0 = -1 := by
  unfold hasX at ha; omega
theorem double_pair (l : List FlD) (next : Int) (hf : fewP l) (hb : BtsL l) (hn : -9223372036854775808 ≤ next ∧ next ≤ 9223372036854775807) (x : Int) : ∃ (A : List FlD) (n y e : Int), A.length ≤ 1000000 ∧ BtsL A ∧
    EvD Try.prog 33 [.agg [.sl (flsc l) l.length .any, .sc (.int .i64 next)], .sc (.int .i64 x)] (.tup [.agg [.sl (flsc A) A.length .any, .sc (.int .i64 n)], .sc (.int .i64 y), .sc (.int .i64 e)]) ∧
    EvD Try.prog 34 [.agg [.sl (flsc l) l.length .any, .sc (.int .i64 next)], .sc (.int .i64 x)] (.tup [.agg [.sl (flsc A) A.length .any, .sc (.int .i64 n)], .sc (.int .i64 y), .sc (.int .i64 e)]) := by
  have hl : l.length ≤ 1000 := by have := hf.1; omega
  by_cases h : okN next l
  · by_cases ha : hasX l x
    · obtain ⟨h1, h2⟩ := hasX_yes ha
      have hp := place_yes ha
      have hd := hf.2 _ h1
      by_cases hm : next < 1073741824
      · exact ⟨_, _, _, _, by rw [addL_len]; omega, bts_add hb _ _ (hb _ h1), double_ok l next hl hn x h _ h1 h2 (by omega) hm, r_double_ok l next hl hn x h _ h1 hp (by omega) hm⟩
      · exact ⟨l, next, _, _, by omega, hb, double_full l next hl hn x h _ h1 h2 (by omega), r_double_full l next hl hn x h _ h1 hp (by omega)⟩
    · exact ⟨l, next, _, _, by omega, hb, double_none l next hl hn x h (hasX_no ha), r_double_none l next hl hn x h (place_not ha)⟩
  · exact ⟨l, next, _, _, by omega, hb, double_form l next hl hn x h, r_double_form l next hl hn x h⟩
theorem take_pair (l : List FlD) (next : Int) (hf : fewP l) (hb : BtsL l) (hn : -9223372036854775808 ≤ next ∧ next ≤ 9223372036854775807) (x : Int) : ∃ (A : List FlD) (n e : Int) (f : FlD), A.length ≤ 1000000 ∧ BtsL A ∧ Bts f.d ∧
    EvD Try.prog 26 [.agg [.sl (flsc l) l.length .any, .sc (.int .i64 next)], .sc (.int .i64 x)] (.tup [.agg [.sl (flsc A) A.length .any, .sc (.int .i64 n)], .agg (flc f), .sc (.int .i64 e)]) ∧
    EvD Try.prog 37 [.agg [.sl (flsc l) l.length .any, .sc (.int .i64 next)], .sc (.int .i64 x)] (.tup [.agg [.sl (flsc A) A.length .any, .sc (.int .i64 n)], .agg (flc f), .sc (.int .i64 e)]) := by
  have hl : l.length ≤ 1000 := by have := hf.1; omega
  have h0 : Bts fl0.d := fun y hy => absurd hy (by simp [fl0])
  by_cases h : okN next l
  · by_cases ha : hasX l x
    · obtain ⟨h1, h2⟩ := hasX_yes ha
      have hp := place_yes ha
      have hd := hf.2 _ h1
      have hlen := rmL_len l _ h1
      have t1 := take_ok l next hl hn x h _ h1 h2 (by omega)
      rw [← hlen] at t1
      exact ⟨rmL l (pk l x), next, 0, l.getD (pk l x) fl0, by omega, bts_rm hb _ h1, hb _ h1, t1, r_take_ok l next hl hn x h _ h1 hp⟩
    · exact ⟨l, next, 7, fl0, by omega, hb, h0, take_none l next hl hn x h (hasX_no ha), r_take_none l next hl hn x h (place_not ha)⟩
  · exact ⟨l, next, 3, fl0, by omega, hb, h0, take_form l next hl hn x h, r_take_form l next hl hn x h⟩
theorem spoil_pair (l : List FlD) (next : Int) (hf : fewP l) (hb : BtsL l) (hn : -9223372036854775808 ≤ next ∧ next ≤ 9223372036854775807) (x a b : Int) (ha64 : -9223372036854775808 ≤ a ∧ a ≤ 9223372036854775807) (hb8 : 0 ≤ b ∧ b < 256) : ∃ (A : List FlD) (n e : Int), A.length ≤ 1000000 ∧ BtsL A ∧
    EvD Try.prog 35 [.agg [.sl (flsc l) l.length .any, .sc (.int .i64 next)], .sc (.int .i64 x), .sc (.int .i64 a), .sc (.int .u8 b)] (.tup [.agg [.sl (flsc A) A.length .any, .sc (.int .i64 n)], .sc (.int .i64 e)]) ∧
    EvD Try.prog 36 [.agg [.sl (flsc l) l.length .any, .sc (.int .i64 next)], .sc (.int .i64 x), .sc (.int .i64 a), .sc (.int .u8 b)] (.tup [.agg [.sl (flsc A) A.length .any, .sc (.int .i64 n)], .sc (.int .i64 e)]) := by
  have hl : l.length ≤ 1000 := by have := hf.1; omega
  by_cases h : okN next l
  · by_cases ha : hasX l x
    · obtain ⟨h1, h2⟩ := hasX_yes ha
      have hp := place_yes ha
      have hd : (l.getD (pk l x) fl0).d.length ≤ 1000000 := by have := hf.2 _ h1; omega
      by_cases hs : (l.getD (pk l x) fl0).sp = true
      · exact ⟨l, next, 8, by omega, hb, spoil_state l next hl hn x a b ha64 hb8 h _ h1 h2 hs, r_spoil_state l next hl hn x a b ha64 hb8 h _ h1 hp hs⟩
      · have hs' : (l.getD (pk l x) fl0).sp = false := by simpa using hs
        by_cases hi : inP (l.getD (pk l x) fl0) a b
        · exact ⟨spL l (pk l x) a b, next, 0, by rw [spL_len]; omega, bts_sp hb _ a b h1, spoil_ok l next hl hn x a b ha64 hb8 h _ h1 h2 hs' hd hi, by
            have r0 := r_spoil_ok l next hl hn x a b ha64 hb8 h _ h1 hp hs' hd hi
            rw [spL_len]; exact r0⟩
        · exact ⟨l, next, 2, by omega, hb, spoil_arg l next hl hn x a b ha64 hb8 h _ h1 h2 hs' hd hi, r_spoil_arg l next hl hn x a b ha64 hb8 h _ h1 hp hs' hd hi⟩
    · exact ⟨l, next, 7, by omega, hb, spoil_none l next hl hn x a b ha64 hb8 h (hasX_no ha), r_spoil_none l next hl hn x a b ha64 hb8 h (place_not ha)⟩
  · exact ⟨l, next, 3, by omega, hb, spoil_form l next hl hn x a b ha64 hb8 h, r_spoil_form l next hl hn x a b ha64 hb8 h⟩
end Go.Net
