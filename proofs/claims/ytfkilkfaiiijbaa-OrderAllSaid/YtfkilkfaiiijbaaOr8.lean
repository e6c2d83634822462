/- Walks and laws. -/
import Derived.Test.YtfkilkfaiiijbaaOr7
import Derived.Test.YtfkilkfaiiijbaaLibC
set_option maxRecDepth 100000
set_option maxHeartbeats 0
set_option linter.unusedSimpArgs false
set_option linter.unusedVariables false
set_option linter.unusedSectionVars false
namespace Go.Ord
open Go Go.Abs Go.Proofs Go.Ops
noncomputable def offL (v : Vv) (w : List TxD) (t : TxD) : List TxD := if offE v w t = 0 then insO w t else w
theorem off_any (v : Vv) (l : List TxD) (t : TxD) (hl : l.length ≤ 1000) : EvD Try.prog 46 [.agg (vce v), .sl (txsc l) (l).length .any, .agg (txe t)] (.tup [.sl (txsc (offL v l t)) ((offL v l t)).length .any, AVal.sc (.int .i64 (offE v l t))]) := by
  by_cases h1 : ctxP t
  · by_cases h2 : hadP v t ∨ dotIn l t
    · have e : offE v l t = 8 := by unfold offE; rw [if_neg (by simpa using h1), if_pos h2]
      have e2 : offL v l t = l := by unfold offL; rw [e]; rfl
      rw [e, e2]; exact off_state v l t hl h1 h2
    · have h2a : ¬ hadP v t := fun h => h2 (.inl h)
      have h2b : ¬ dotIn l t := fun h => h2 (.inr h)
      by_cases h3 : 32 ≤ l.length
      · have e : offE v l t = 4 := by unfold offE; rw [if_neg (by simpa using h1), if_neg h2, if_pos h3]
        have e2 : offL v l t = l := by unfold offL; rw [e]; rfl
        rw [e, e2]; exact off_full v l t hl h1 h2a h2b h3
      · have e : offE v l t = 0 := by unfold offE; rw [if_neg (by simpa using h1), if_neg h2, if_neg h3]
        have e2 : offL v l t = insO l t := by unfold offL; rw [e]; rfl
        rw [e, e2, insO_len]; exact off_ok v l t hl h1 h2a h2b (by omega)
  · have e : offE v l t = 3 := by unfold offE; rw [if_pos h1]
    have e2 : offL v l t = l := by unfold offL; rw [e]; rfl
    rw [e, e2]; exact off_form v l t hl h1
noncomputable def vC (l : List TxD) (i : Nat) : Vv := (stC l i).v
noncomputable def aC (l : List TxD) (i : Nat) : List TxD := (stC l i).all
noncomputable def wC (l : List TxD) (i : Nat) : List TxD := (stC l i).w
noncomputable def vY (l : List TxD) (i : Nat) : Vv := vC l (i + 1)
noncomputable def aY (l : List TxD) (i : Nat) : List TxD := aC l (i + 1)
noncomputable def wY (l : List TxD) (i : Nat) : List TxD := wC l (i + 1)
noncomputable def Mc (l : List TxD) (i : Nat) : List TxD := offL (vC l i) (wC l i) (l.getD i tx0)
noncomputable def Ec (l : List TxD) (i : Nat) : Int := offE (vC l i) (wC l i) (l.getD i tx0)
noncomputable def Gc (l : List TxD) (i : Nat) : List TxD := got (vC l i) (Mc l i)
theorem getD_mem' {l : List TxD} {i : Nat} (h : i < l.length) : l.getD i tx0 ∈ l := by
  rw [List.getD_eq_getElem?_getD, List.getElem?_eq_getElem h]; exact List.getElem_mem h
theorem off_sub {v : Vv} {w : List TxD} {t u : TxD} (h : u ∈ offL v w t) : u = t ∨ u ∈ w := by
  unfold offL at h
  split at h
  · exact insO_mem.1 h
  · exact .inr h
theorem stC_sub (l : List TxD) : ∀ i, i ≤ l.length → (∀ t ∈ (stC l i).all, t ∈ l) ∧ ∀ t ∈ (stC l i).w, t ∈ l
  | 0, _ => ⟨fun t h => by simp [stC] at h, fun t h => by simp [stC] at h⟩
  | i + 1, h => by
    obtain ⟨h1, h2⟩ := stC_sub l i (by omega)
    have hm : ∀ t ∈ offL (stC l i).v (stC l i).w (l.getD i tx0), t ∈ l := fun t ht => (off_sub ht).elim (fun e => e ▸ getD_mem' (by omega)) (h2 t)
    refine ⟨fun t ht => ?_, fun t ht => ?_⟩
    · rcases List.mem_append.1 ht with ht | ht
      · exact h1 t ht
      · exact hm t (got_mem _ _ t ht)
    · exact hm t (lft_mem.1 ht).1
theorem lo_of {l : List TxD} (hts : ∀ i, i < l.length → -9223372036854775808 ≤ (l.getD i tx0).s ∧ (l.getD i tx0).s ≤ 9223372036854775807) {a : List TxD} (h : ∀ t ∈ a, t ∈ l) : ∀ i, i < a.length → -9223372036854775808 ≤ (a.getD i tx0).s ∧ (a.getD i tx0).s ≤ 9223372036854775807 := by
  intro i hi
  obtain ⟨j, hj, e⟩ := List.getElem_of_mem (h _ (getD_mem' hi))
  have := hts j hj
  rw [List.getD_eq_getElem?_getD, List.getElem?_eq_getElem hj] at this
  rw [← e]; exact this
theorem stC_lo (l : List TxD) (i : Nat) : ∀ j, (0 : Int) ≤ (vC l i) j := fun j => by
  unfold vC; rw [(stC_inv l i).2.1]; exact Int.le_trans (Int.le_refl 0) (chain_ge (v := Vz) (stC_inv l i).1 j)
section
variable {l : List TxD} (hl : l.length ≤ 40) (hts : ∀ i, i < l.length → -9223372036854775808 ≤ (l.getD i tx0).s ∧ (l.getD i tx0).s ≤ 9223372036854775807)
include hl
theorem off_at (i : Nat) (h : i < l.length) : EvD Try.prog 46 [.agg (vce (vC l i)), .sl (txsc (wC l i)) ((wC l i)).length .any, .agg (txe (l.getD i tx0))] (.tup [.sl (txsc (Mc l i)) ((Mc l i)).length .any, AVal.sc (.int .i64 (Ec l i))]) := off_any _ _ _ (by have := stC_len l i; unfold wC; omega)
include hts
theorem dr_yes (i : Nat) (h : i < l.length) : EvD Try.prog 47 [.agg (vce (vC l i)), .sl (txsc (Mc l i)) ((Mc l i)).length .any] (.tup [.sl (txsc (Gc l i)) ((Gc l i)).length .any, .sl (txsc (wY l i)) ((wY l i)).length .any, .agg (vce (vY l i))]) := by
  have hm : ∀ t ∈ (Mc l i), t ∈ l := fun t ht => (off_sub ht).elim (fun e => e ▸ getD_mem' h) ((stC_sub l i (by omega)).2 t)
  have hn : (Mc l i).length ≤ 100000 := by
    have := stC_len l i
    unfold Mc offL
    split
    · rw [insO_len]; unfold wC; omega
    · unfold wC; omega
  exact drain (vC l i) (fun j => by have := stC_lo l i j; omega) (Mc l i) hn (fun j hj => (lo_of hts hm j hj).2)
end
theorem Y_all (l : List TxD) (i : Nat) : (aC l i) ++ (Gc l i) = (aY l i) := rfl
theorem Y_len (l : List TxD) (i : Nat) : (aC l i).length + (Gc l i).length = (aY l i).length := by rw [← Y_all, List.length_append]
theorem aC_len (l : List TxD) (i : Nat) : (aC l i).length ≤ i ∧ (wC l i).length ≤ i := by have := stC_len l i; unfold aC wC; omega
theorem aY_len (l : List TxD) (i : Nat) : (aY l i).length ≤ i + 1 := by have := stC_len l (i + 1); unfold aY aC; omega
end Go.Ord
