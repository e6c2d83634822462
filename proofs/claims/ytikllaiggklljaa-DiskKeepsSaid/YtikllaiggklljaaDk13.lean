/- Walks and laws. -/
import Derived.Test.YtikllaiggklljaaDk10
set_option maxRecDepth 100000
set_option linter.unusedSimpArgs false
set_option linter.unusedVariables false
namespace Go.Dk
open Go Go.Abs Go.Proofs
def goodF (f : FileD) : Prop := namedP f.nm ∧ 0 ≤ f.sf ∧ f.sf ≤ f.d.length
theorem getD_mem {l : List FileD} {i : Nat} (h : i < l.length) : l.getD i fi0 ∈ l := by
  rw [List.getD_eq_getElem?_getD, List.getElem?_eq_getElem h]; exact List.getElem_mem h
theorem okD_mem {room arm : Int} {l : List FileD} (h : okD room arm l) : ∀ f ∈ l, goodF f := by
  intro f hf
  obtain ⟨i, hi, rfl⟩ := List.getElem_of_mem hf
  have h1 := h.2.2.2.2 i hi
  have e : l.getD i fi0 = l[i] := by rw [List.getD_eq_getElem?_getD, List.getElem?_eq_getElem hi]; rfl
  unfold okF at h1
  rw [e] at h1
  exact ⟨h1.1, h1.2.1, h1.2.2.1⟩
theorem okD_of {room arm : Int} {l : List FileD} (h0 : 0 ≤ room ∧ room ≤ 1048576) (ha : -1 ≤ arm) (hl : l.length ≤ 64) (hu : usedL l ≤ room) (hs : Srt l) (hm : ∀ f ∈ l, goodF f) : okD room arm l := by
  refine ⟨h0.1, h0.2, ha, hl, fun i hi => ?_⟩
  have h1 := hm _ (getD_mem hi)
  refine ⟨h1.1, h1.2.1, h1.2.2, ?_, fun hp hle => ?_⟩
  · rw [leftL_eq _ _ _ (by omega)]
    have h2 := usedL_succ l i hi
    have h3 := usedL_take_le l (i + 1)
    omega
  · have h2 : ltB (l.getD (i - 1) fi0).nm (l.getD i fi0).nm := by
      have := List.pairwise_iff_getElem.1 hs (i - 1) i (by omega) hi (by omega)
      have e1 : l.getD i fi0 = l[i] := by rw [List.getD_eq_getElem?_getD, List.getElem?_eq_getElem hi]; rfl
      have e2 : l.getD (i - 1) fi0 = l[i - 1] := by rw [List.getD_eq_getElem?_getD, List.getElem?_eq_getElem (show i - 1 < l.length by omega)]; rfl
      rw [e1, e2]; exact this
    rcases hle with h3 | h3
    · exact ltB_irr _ (ltB_trans h2 h3)
    · rw [h3] at h2; exact ltB_irr _ h2
theorem okD_arm {room arm arm' : Int} {l : List FileD} (h : okD room arm l) (ha : -1 ≤ arm') : okD room arm' l := ⟨h.1, h.2.1, ha, h.2.2.2⟩
theorem split_low (l : List FileD) (s : ByteArray) : ∃ A B, l = A ++ B ∧ low l s = A.length ∧ (∀ a ∈ A, ltB a.nm s) ∧ (∀ b B', B = b :: B' → ¬ ltB b.nm s) := by
  refine ⟨l.takeWhile fun f => decide (ltB f.nm s), l.dropWhile fun f => decide (ltB f.nm s), (List.takeWhile_append_dropWhile).symm, rfl, fun a ha => ?_, fun b B' hb => ?_⟩
  · revert ha; revert a; intro a ha
    induction l with
    | nil => simp at ha
    | cons x l ih =>
      by_cases hx : ltB x.nm s
      · rw [List.takeWhile_cons_of_pos (by simpa using hx)] at ha
        rcases List.mem_cons.1 ha with rfl | h
        · exact hx
        · exact ih h
      · rw [List.takeWhile_cons_of_neg (by simpa using hx)] at ha; simp at ha
  · revert hb; intro hb
    induction l with
    | nil => simp at hb
    | cons x l ih =>
      by_cases hx : ltB x.nm s
      · rw [List.dropWhile_cons_of_pos (by simpa using hx)] at hb
        exact ih hb
      · rw [List.dropWhile_cons_of_neg (by simpa using hx)] at hb
        injection hb with h1 h2
        subst h1; exact hx
theorem put_split {l : List FileD} (hs : Srt l) (f : FileD) :
    (∃ A b B, l = A ++ b :: B ∧ b.nm = f.nm ∧ putL l f = A ++ f :: B ∧ has l f.nm ∧ l.getD (low l f.nm) fi0 = b) ∨
    (∃ A B, l = A ++ B ∧ ¬ has l f.nm ∧ putL l f = A ++ f :: B ∧ (∀ a ∈ A, ltB a.nm f.nm) ∧ ∀ b ∈ B, ltB f.nm b.nm) := by
  obtain ⟨A, B, hl, hw, hA, hB⟩ := split_low l f.nm
  by_cases hh : has l f.nm
  · left
    have h1 := hh.1
    have h2 := hh.2
    cases B with
    | nil => rw [hl] at h1; rw [← hl, hw, hl] at h1; simp at h1
    | cons b B =>
      have e : l.getD (low l f.nm) fi0 = b := by rw [hw, hl]; simp [List.getD_eq_getElem?_getD]
      refine ⟨A, b, B, hl, by rw [← e]; exact h2, ?_, hh, e⟩
      unfold putL
      rw [if_pos hh, hw, hl]
      simp
  · right
    refine ⟨A, B, hl, hh, ?_, hA, ?_⟩
    · unfold putL insD
      rw [if_neg hh, hw, hl]
      simp
    · cases B with
      | nil => intro b hb; simp at hb
      | cons b B =>
        have h1 := hB b B rfl
        have e : l.getD (low l f.nm) fi0 = b := by rw [hw, hl]; simp [List.getD_eq_getElem?_getD]
        have hne : ¬ b.nm = f.nm := fun e2 => hh ⟨by rw [hw, hl]; simp, by rw [e]; exact e2⟩
        have h2 : ltB f.nm b.nm := ltB_tri (fun h => h.elim h1 hne)
        intro c hc
        rcases List.mem_cons.1 hc with rfl | hc
        · exact h2
        · have hp : Srt (b :: B) := by
            unfold Srt at hs ⊢; rw [hl] at hs; exact (List.pairwise_append.1 hs).2.1
          exact ltB_trans h2 ((List.pairwise_cons.1 hp).1 c hc)
theorem okD_put {room arm arm' : Int} {l : List FileD} (h : okD room arm l) (ha : -1 ≤ arm') (f : FileD) (hf : goodF f) (hr : roomP room l f.nm (f.d.length : Int)) : okD room arm' (putL l f) := by
  have hs := okD_srt h
  have hu := okD_used h
  have hm := okD_mem h
  unfold roomP at hr
  rcases put_split hs f with ⟨A, b, B, hl, hb, hp, hh, he⟩ | ⟨A, B, hl, hh, hp, hA, hB⟩
  · rw [if_pos hh, he] at hr
    have hlen : (putL l f).length = l.length := by rw [hp, hl]; simp
    refine okD_of ⟨h.1, h.2.1⟩ ha (by rw [hlen]; exact h.2.2.2.1) ?_ ?_ ?_
    · rw [hl] at hr hu
      rw [hp, usedL_app]
      rw [usedL_app] at hr hu
      simp only [usedL] at hr hu ⊢
      omega
    · unfold Srt at hs ⊢
      rw [hl] at hs
      rw [hp]
      have h1 := List.pairwise_append.1 hs
      have h2 := List.pairwise_cons.1 h1.2.1
      refine List.pairwise_append.2 ⟨h1.1, List.pairwise_cons.2 ⟨fun c hc => by rw [← hb]; exact h2.1 c hc, h2.2⟩, fun a ha c hc => ?_⟩
      rcases List.mem_cons.1 hc with rfl | hc
      · rw [← hb]; exact h1.2.2 a ha b (by simp)
      · exact h1.2.2 a ha c (by simp [hc])
    · intro g hg
      rw [hp] at hg
      rcases List.mem_append.1 hg with hg | hg
      · exact hm g (by rw [hl]; simp [hg])
      · rcases List.mem_cons.1 hg with rfl | hg
        · exact hf
        · exact hm g (by rw [hl]; simp [hg])
  · rw [if_neg hh] at hr
    have hlen : (putL l f).length = l.length + 1 := by rw [hp, hl]; simp; omega
    refine okD_of ⟨h.1, h.2.1⟩ ha (by rw [hlen]; omega) ?_ ?_ ?_
    · rw [hl] at hr hu
      rw [hp, usedL_app]
      rw [usedL_app] at hr hu
      simp only [usedL] at hr hu ⊢
      omega
    · unfold Srt at hs ⊢
      rw [hl] at hs
      rw [hp]
      have h1 := List.pairwise_append.1 hs
      refine List.pairwise_append.2 ⟨h1.1, List.pairwise_cons.2 ⟨fun c hc => hB c hc, h1.2.1⟩, fun a ha c hc => ?_⟩
      rcases List.mem_cons.1 hc with rfl | hc
      · exact hA a ha
      · exact h1.2.2 a ha c hc
    · intro g hg
      rw [hp] at hg
      rcases List.mem_append.1 hg with hg | hg
      · exact hm g (by rw [hl]; simp [hg])
      · rcases List.mem_cons.1 hg with rfl | hg
        · exact hf
        · exact hm g (by rw [hl]; simp [hg])
/-- a list, at one of its places -/
theorem at_split {l : List FileD} {k : Nat} (hk : k < l.length) : ∃ A B, l = A ++ l.getD k fi0 :: B ∧ A.length = k := by
  refine ⟨l.take k, l.drop (k + 1), ?_, by rw [List.length_take]; omega⟩
  rw [List.getD_eq_getElem?_getD, List.getElem?_eq_getElem hk]
  simp
theorem okD_syn {room arm arm' : Int} {l : List FileD} (h : okD room arm l) (ha : -1 ≤ arm') {k : Nat} (hk : k < l.length) : okD room arm' (synL l k) := by
  have hs := okD_srt h
  have hu := okD_used h
  have hm := okD_mem h
  obtain ⟨A, B, hl, hA⟩ := at_split hk
  generalize hx : l.getD k fi0 = x at hl
  have hp : synL l k = A ++ ⟨x.nm, x.d, (x.d.length : Int)⟩ :: B := by
    unfold synL
    rw [hx, hl, ← hA]; simp
  have hlen : (synL l k).length = l.length := by rw [hp, hl]; simp
  have hxm : goodF x := hm x (by rw [hl]; simp)
  refine okD_of ⟨h.1, h.2.1⟩ ha (by rw [hlen]; exact h.2.2.2.1) ?_ ?_ ?_
  · rw [hl] at hu
    rw [hp, usedL_app]
    rw [usedL_app] at hu
    simp only [usedL] at hu ⊢
    omega
  · unfold Srt at hs ⊢
    rw [hl] at hs
    rw [hp]
    have h1 := List.pairwise_append.1 hs
    have h2 := List.pairwise_cons.1 h1.2.1
    refine List.pairwise_append.2 ⟨h1.1, List.pairwise_cons.2 ⟨fun c hc => h2.1 c hc, h2.2⟩, fun a ha c hc => ?_⟩
    rcases List.mem_cons.1 hc with rfl | hc
    · exact h1.2.2 a ha x (by simp)
    · exact h1.2.2 a ha c (by simp [hc])
  · intro g hg
    rw [hp] at hg
    rcases List.mem_append.1 hg with hg | hg
    · exact hm g (by rw [hl]; simp [hg])
    · rcases List.mem_cons.1 hg with rfl | hg
      · refine ⟨hxm.1, ?_, Int.le_refl _⟩
        show (0 : Int) ≤ (x.d.length : Int)
        omega
      · exact hm g (by rw [hl]; simp [hg])
theorem okD_del {room arm arm' : Int} {l : List FileD} (h : okD room arm l) (ha : -1 ≤ arm') {k : Nat} (hk : k < l.length) : okD room arm' (delD l k) := by
  have hs := okD_srt h
  have hu := okD_used h
  have hm := okD_mem h
  obtain ⟨A, B, hl, hA⟩ := at_split hk
  generalize hx : l.getD k fi0 = x at hl
  have hp : delD l k = A ++ B := by
    unfold delD
    rw [hl, ← hA]; simp
  have hlen : l.length = (delD l k).length + 1 := by rw [hp, hl]; simp; omega
  refine okD_of ⟨h.1, h.2.1⟩ ha (by have := h.2.2.2.1; omega) ?_ ?_ ?_
  · rw [hl] at hu
    rw [hp, usedL_app]
    rw [usedL_app] at hu
    simp only [usedL] at hu ⊢
    omega
  · unfold Srt at hs ⊢
    rw [hl] at hs
    rw [hp]
    have h1 := List.pairwise_append.1 hs
    have h2 := List.pairwise_cons.1 h1.2.1
    exact List.pairwise_append.2 ⟨h1.1, h2.2, fun a ha c hc => h1.2.2 a ha c (by simp [hc])⟩
  · intro g hg
    rw [hp] at hg
    rcases List.mem_append.1 hg with hg | hg
    · exact hm g (by rw [hl]; simp [hg])
    · exact hm g (by rw [hl]; simp [hg])
theorem crL_map (l : List FileD) (keep : Int) (i : Nat) (hi : i ≤ l.length) : crL l keep i = (l.take i).map (crF keep) := by
  induction i with
  | zero => rfl
  | succ i ih =>
    rw [crL, ih (by omega), List.take_add_one, List.map_append, List.getElem?_eq_getElem (show i < l.length by omega), List.getD_eq_getElem?_getD, List.getElem?_eq_getElem (show i < l.length by omega)]
    rfl
theorem crL_all (l : List FileD) (keep : Int) : crL l keep l.length = l.map (crF keep) := by rw [crL_map l keep _ (Nat.le_refl _), List.take_length]
theorem crL_get (l : List FileD) (keep : Int) (i : Nat) (hi : i < l.length) : (crL l keep l.length).getD i fi0 = crF keep (l.getD i fi0) := by
  rw [crL_all, List.getD_eq_getElem?_getD, List.getD_eq_getElem?_getD, List.getElem?_map, List.getElem?_eq_getElem hi]; rfl
theorem usedL_map (keep : Int) (l : List FileD) (hm : ∀ f ∈ l, goodF f) : usedL (l.map (crF keep)) ≤ usedL l := by
  induction l with
  | nil => simp [usedL]
  | cons a l ih =>
    have h1 := ih fun f hf => hm f (by simp [hf])
    have h2 := hm a (by simp)
    have h3 : (crF keep a).d.length ≤ a.d.length := by show (List.take _ _).length ≤ _; rw [List.length_take]; omega
    simp only [List.map_cons, usedL]
    omega
theorem okD_cr {room arm arm' : Int} {l : List FileD} (h : okD room arm l) (ha : -1 ≤ arm') (keep : Int) : okD room arm' (crL l keep l.length) := by
  have hs := okD_srt h
  have hu := okD_used h
  have hm := okD_mem h
  refine okD_of ⟨h.1, h.2.1⟩ ha (by rw [crL_len]; exact h.2.2.2.1) ?_ ?_ ?_
  · rw [crL_all]; exact Int.le_trans (usedL_map keep l hm) hu
  · rw [crL_all]; unfold Srt at hs ⊢; rw [List.pairwise_map]; exact hs
  · rw [crL_all]
    intro f hf
    obtain ⟨g, hg, rfl⟩ := List.mem_map.1 hf
    have h1 := hm g hg
    refine ⟨h1.1, ?_, ?_⟩
    · show (0 : Int) ≤ ((crN keep g : Nat) : Int); omega
    · show ((crN keep g : Nat) : Int) ≤ (List.take (crN keep g) g.d).length
      have := crN_le (keep := keep) ⟨h1.2.1, h1.2.2⟩
      rw [List.length_take]; omega
end Go.Dk
