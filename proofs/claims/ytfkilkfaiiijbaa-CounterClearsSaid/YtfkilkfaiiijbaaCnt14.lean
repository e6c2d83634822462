/- Walks and laws. -/
import Derived.Test.YtfkilkfaiiijbaaCnt13
set_option linter.unusedSimpArgs false
set_option linter.unusedVariables false
namespace Go.Cnt
open Go Go.Abs Go.Ops
/-! ### what is kept -/
theorem keep_filter (G : AmtD → Prop) [DecidablePred G] (l : List AmtD) (i : Nat) (hi : i ≤ l.length) : keep G l i = (l.take i).filter (fun a => !decide (G a)) := by
  induction i with
  | zero => simp [keep]
  | succ i ih =>
    have hlt : i < l.length := by omega
    simp only [keep]
    rw [ih (by omega), List.take_succ_eq_append_getElem hlt, List.filter_append]
    congr 1
    have e : l.getD i am0 = l[i] := by simp [List.getD_eq_getElem?_getD, hlt]
    rw [e]
    by_cases h : G l[i] <;> simp [h]
theorem keep_all (G : AmtD → Prop) [DecidablePred G] (l : List AmtD) : keep G l l.length = l.filter (fun a => !decide (G a)) := by
  rw [keep_filter G l l.length (Nat.le_refl _), List.take_length]
theorem tot_sum (G : AmtD → Prop) [DecidablePred G] (l : List AmtD) (i : Nat) (hi : i ≤ l.length) : tot G l i = (((l.take i).filter (fun a => decide (G a))).map (·.n)).sum := by
  induction i with
  | zero => simp [tot]
  | succ i ih =>
    have hlt : i < l.length := by omega
    simp only [tot]
    rw [ih (by omega), List.take_succ_eq_append_getElem hlt, List.filter_append, List.map_append, List.sum_append]
    congr 1
    have e : l.getD i am0 = l[i] := by simp [List.getD_eq_getElem?_getD, hlt]
    rw [e]
    by_cases h : G l[i] <;> simp [h]
theorem tot_all (G : AmtD → Prop) [DecidablePred G] (l : List AmtD) : tot G l l.length = ((l.filter (fun a => decide (G a))).map (·.n)).sum := by
  rw [tot_sum G l l.length (Nat.le_refl _), List.take_length]
/-- All is what goes, and what stays. -/
theorem tot_split (G : AmtD → Prop) [DecidablePred G] (l : List AmtD) : tot (fun _ => True) l l.length = tot G l l.length + tot (fun _ => True) (keep G l l.length) (keep G l l.length).length := by
  rw [tot_all, tot_all, tot_all, keep_all]
  have ft : ∀ l : List AmtD, l.filter (fun _ => decide True) = l := fun l => by rw [List.filter_eq_self]; simp
  rw [ft, ft]
  clear ft
  induction l with
  | nil => simp
  | cons a l ih =>
    by_cases h : G a <;> simp [h] <;> omega
theorem keep_keep (G : AmtD → Prop) [DecidablePred G] (l : List AmtD) : keep G (keep G l l.length) (keep G l l.length).length = keep G l l.length := by
  rw [keep_all G (keep G l l.length), keep_all G l, List.filter_filter]
  congr 1
  funext a
  cases h : decide (G a) <;> rfl
theorem lessA_trans {a b c : AmtD} (h : lessA a b) (k : lessA b c) : lessA a c := by
  unfold lessA lessP at *; omega
theorem up_pair (l : List AmtD) : upP l ↔ l.Pairwise lessA := by
  constructor
  · intro h
    rw [List.pairwise_iff_getElem]
    intro i j hi hj hij
    have key : ∀ d, ∀ i, i + d + 1 < l.length → lessA (l.getD i am0) (l.getD (i + d + 1) am0) := by
      intro d
      induction d with
      | zero => intro i hi; exact h (i + 1) hi (by omega)
      | succ d ih =>
        intro i hi
        exact lessA_trans (ih i (by omega)) (h (i + d + 1 + 1) (by omega) (by omega))
    have := key (j - i - 1) i (by omega)
    have e : i + (j - i - 1) + 1 = j := by omega
    rw [e] at this
    simpa [List.getD_eq_getElem?_getD, hi, hj] using this
  · intro h i hi h1
    rw [List.pairwise_iff_getElem] at h
    have := h (i - 1) i (by omega) hi (by omega)
    simpa [List.getD_eq_getElem?_getD, hi, show i - 1 < l.length by omega] using this
theorem good_mem {l : List AmtD} : ¬ (0 ≤ idxA l 0) ↔ ∀ a ∈ l, ¬ badA a := by
  rw [← idxA_ge l 0]
  constructor
  · intro h a ha hb
    obtain ⟨i, hi, rfl⟩ := List.mem_iff_getElem.1 ha
    exact h ⟨i, hi, by simpa [List.getD_eq_getElem?_getD, hi] using hb⟩
  · rintro h ⟨i, hi, hb⟩
    refine h l[i] (List.getElem_mem _) ?_
    simpa [List.getD_eq_getElem?_getD, hi] using hb
theorem chk_keep {kind base base2 : Int} {am : List AmtD} {w m e : Nat} (G : AmtD → Prop) [DecidablePred G] (h : chkP kind base am w m e) (hb : -1152921504606846976 ≤ base2 ∧ base2 ≤ 1152921504606846976) :
    chkP kind base2 (keep G am am.length) w m e := by
  obtain ⟨h1, h2, h3, h4, h5, h6, h7⟩ := h
  refine ⟨h1, h2, h3, h4, hb, ?_, ?_⟩
  · rw [good_mem] at h6 ⊢
    rw [keep_all]
    exact fun a ha => h6 a (List.mem_filter.1 ha).1
  · rw [up_pair] at h7 ⊢
    rw [keep_all]
    exact h7.filter _
end Go.Cnt
