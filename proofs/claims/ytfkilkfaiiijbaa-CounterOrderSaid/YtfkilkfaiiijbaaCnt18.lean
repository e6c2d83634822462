/- Walks and laws. -/
import Derived.Test.YtfkilkfaiiijbaaCnt17
set_option linter.unusedSimpArgs false
set_option linter.unusedVariables false
namespace Go.Cnt
open Go Go.Abs Go.Proofs Go.Ops
/-- An amount where it belongs. -/
def insA (x : AmtD) : List AmtD → List AmtD
  | [] => [x]
  | a :: l => if lessA a x then a :: insA x l else x :: a :: l
theorem insA_eq (x : AmtD) : ∀ am : List AmtD, ∃ i, i ≤ am.length ∧ (∀ j, j < i → lessA (am.getD j am0) x) ∧ (i < am.length → ¬ lessA (am.getD i am0) x) ∧ insD am i x = insA x am
  | [] => ⟨0, Nat.le_refl _, fun j h => absurd h (by omega), fun h => absurd h (by simp), rfl⟩
  | a :: l => by
    by_cases h : lessA a x
    · obtain ⟨i, h1, h2, h3, h4⟩ := insA_eq x l
      refine ⟨i + 1, by simpa using h1, fun j hj => ?_, fun hj => ?_, ?_⟩
      · cases j with
        | zero => exact h
        | succ j => simpa using h2 j (by omega)
      · simpa using h3 (by simpa using hj)
      · simp only [insA]; rw [if_pos h, ← h4]; rfl
    · refine ⟨0, by omega, fun j hj => absurd hj (by omega), fun _ => by simpa using h, ?_⟩
      simp only [insA]; rw [if_neg h]; rfl
theorem insA_len (x : AmtD) : ∀ am : List AmtD, (insA x am).length = am.length + 1
  | [] => rfl
  | a :: l => by
    simp only [insA]; split
    · simp [insA_len x l]
    · simp
theorem insA_mem (x y : AmtD) : ∀ am : List AmtD, y ∈ insA x am ↔ y = x ∨ y ∈ am
  | [] => by simp [insA]
  | a :: l => by
    simp only [insA]; split
    · rw [List.mem_cons, insA_mem x y l, List.mem_cons]
      constructor
      · rintro (h | h | h) <;> simp [h]
      · rintro (h | h | h) <;> simp [h]
    · simp
theorem less_asym {a b : AmtD} (h : lessA a b) : ¬ lessA b a := by unfold lessA lessP at *; omega
theorem less_tot {a b : AmtD} (h : ¬ (a.p = b.p ∧ a.s = b.s ∧ a.i = b.i)) (k : ¬ lessA a b) : lessA b a := by unfold lessA lessP at *; omega
theorem insA_comm {x y : AmtD} (h : ¬ (x.p = y.p ∧ x.s = y.s ∧ x.i = y.i)) : ∀ am : List AmtD, insA x (insA y am) = insA y (insA x am)
  | [] => by
    simp only [insA]
    by_cases h1 : lessA y x
    · rw [if_pos h1, if_neg (less_asym h1)]
    · rw [if_neg h1, if_pos (less_tot (fun h2 => h ⟨h2.1.symm, h2.2.1.symm, h2.2.2.symm⟩) h1)]
  | a :: l => by
    have ih := insA_comm h l
    simp only [insA]
    by_cases h1 : lessA a y <;> by_cases h2 : lessA a x <;> simp only [h1, h2, if_true, if_false, insA]
    · rw [ih]
    · have h3 : lessA x y := by
        have := less_tot (a := a) (b := x)
        by_cases e : a.p = x.p ∧ a.s = x.s ∧ a.i = x.i
        · obtain ⟨e1, e2, e3⟩ := e
          unfold lessA at h1 ⊢; rw [← e1, ← e2, ← e3]; exact h1
        · exact lessA_trans (less_tot e h2) h1
      rw [if_pos h3]
    · have h3 : lessA y x := by
        by_cases e : a.p = y.p ∧ a.s = y.s ∧ a.i = y.i
        · obtain ⟨e1, e2, e3⟩ := e
          unfold lessA at h2 ⊢; rw [← e1, ← e2, ← e3]; exact h2
        · exact lessA_trans (less_tot e h1) h2
      rw [if_pos h3]
    · by_cases h3 : lessA x y
      · rw [if_pos h3, if_neg (less_asym h3)]
      · have h4 := less_tot h h3
        rw [if_neg h3, if_pos h4]
theorem insA_sum (x : AmtD) : ∀ am : List AmtD, ((insA x am).map (·.n)).sum = (am.map (·.n)).sum + x.n
  | [] => by simp [insA]
  | a :: l => by
    simp only [insA]; split
    · simp only [List.map_cons, List.sum_cons, insA_sum x l]; omega
    · simp only [List.map_cons, List.sum_cons]; omega
theorem insA_pair {x : AmtD} : ∀ {am : List AmtD}, am.Pairwise lessA → (∀ a ∈ am, ¬ (a.p = x.p ∧ a.s = x.s ∧ a.i = x.i)) → (insA x am).Pairwise lessA
  | [], _, _ => by simp [insA]
  | a :: l, h, hn => by
    simp only [insA]
    rw [List.pairwise_cons] at h
    split
    · rename_i h1
      rw [List.pairwise_cons]
      refine ⟨fun y hy => ?_, insA_pair h.2 (fun b hb => hn b (List.mem_cons_of_mem _ hb))⟩
      rcases (insA_mem x y l).1 hy with rfl | hy
      · exact h1
      · exact h.1 y hy
    · rename_i h1
      have h2 := less_tot (hn a (List.mem_cons_self ..)) h1
      rw [List.pairwise_cons]
      refine ⟨fun y hy => ?_, by rw [List.pairwise_cons]; exact h⟩
      rcases List.mem_cons.1 hy with rfl | hy
      · exact h2
      · exact lessA_trans h2 (h.1 y hy)
theorem chk_ins {kind base : Int} {am : List AmtD} {w m e : Nat} {x : AmtD} (h : chkP kind base am w m e) (hn : ∀ a ∈ am, ¬ (a.p = x.p ∧ a.s = x.s ∧ a.i = x.i)) (hx : ¬ badA x) : chkP kind base (insA x am) w m e := by
  obtain ⟨h1, h2, h3, h4, h5, h6, h7⟩ := h
  refine ⟨h1, h2, h3, h4, h5, fun hb => ?_, (up_pair _).2 (insA_pair ((up_pair _).1 h7) hn)⟩
  obtain ⟨j, hj, hbad⟩ := (idxA_ge _ 0).2 hb
  have hm : (insA x am).getD j am0 ∈ insA x am := by
    rw [List.getD_eq_getElem?_getD, List.getElem?_eq_getElem hj]; exact List.getElem_mem hj
  rcases (insA_mem x _ am).1 hm with e | hm
  · rw [e] at hbad; exact hx hbad
  · obtain ⟨q, hq, e⟩ := List.mem_iff_getElem.1 hm
    exact good_of h6 q hq (by rw [List.getD_eq_getElem?_getD, List.getElem?_eq_getElem hq]; simpa [e] using hbad)
theorem do_insA (g : Gate) (t : TxD) (k n : Int) (kind base : Int) (am : List AmtD) (w m e : Nat) (wc mc ec : List AVal) (hw : dataAll wc = true) (hm : dataAll mc = true) (he : dataAll ec = true) (hx : am.length ≤ 1000) (hc : chkP kind base am w m e) (hk : 1 ≤ k) (hn : -1073741824 ≤ n ∧ n ≤ 1073741824)
    (hne : ∀ a ∈ am, ¬ (a.p = t.p ∧ a.s = t.s ∧ a.i = k)) :
    EvD Try.prog 37 [.agg [.sc (.int .i64 kind), .sc (.int .i64 base), .sl (amsc am) am.length .any, .sl wc w .any, .sl mc m .any, .sl ec e .any], .agg (txc g t), .sc (.int .i64 k), .sc (.int .i64 n)]
     (.agg [.sc (.int .i64 kind), .sc (.int .i64 base), .sl (amsc (insA ⟨t.p, t.s, k, n⟩ am)) (insA ⟨t.p, t.s, k, n⟩ am).length .any, .sl wc w .any, .sl mc m .any, .sl ec e .any]) := by
  obtain ⟨i, h1, h2, h3, h4⟩ := insA_eq ⟨t.p, t.s, k, n⟩ am
  rw [insA_len, ← h4]
  exact do_ins g t k n kind base am w m e wc mc ec hw hm he hx hc hk hn i h1 h2 h3 (fun hj => hne _ (by rw [List.getD_eq_getElem?_getD, List.getElem?_eq_getElem hj]; exact List.getElem_mem hj))
end Go.Cnt
