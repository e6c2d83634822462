/- Walks and laws. -/
import Derived.Test.YtikllaiggklljaaNet10
set_option maxRecDepth 100000
set_option maxHeartbeats 0
set_option linter.unusedSimpArgs false
set_option linter.unusedVariables false
namespace Go.Net
open Go Go.Abs Go.Proofs
def cameOf (s f : FlD) : Prop := s.to = f.to ∧ nearP s.d f.d ∧ (f.sp = true ∨ s.d = f.d)
instance (s f : FlD) : Decidable (cameOf s f) := by unfold cameOf; infer_instance
def Inv (n : Nat) (st fl : List FlD) (next : Int) : Prop :=
  okN next fl ∧ next ≤ n ∧ fl.length ≤ n ∧ st.length ≤ n ∧
  (∀ j, j < fl.length → ((fl.getD j fl0).d.length ≤ 100 ∧ Bts (fl.getD j fl0).d) ∧ ∃ k, k < st.length ∧ cameOf (st.getD k fl0) (fl.getD j fl0)) ∧
  (∀ k, k < st.length → (st.getD k fl0).d.length ≤ 100 ∧ Bts (st.getD k fl0).d)
theorem inv0 : Inv 0 [] [] 0 := ⟨⟨by omega, by omega, by simp, fun i hi => absurd hi (by simp)⟩, by omega, by simp, by simp, fun j hj => absurd hj (by simp), fun k hk => absurd hk (by simp)⟩
theorem snoc_lt (l : List FlD) (f : FlD) (j : Nat) (h : j < l.length) : (l ++ [f]).getD j fl0 = l.getD j fl0 := by
  simp only [List.getD_eq_getElem?_getD]; rw [List.getElem?_append_left h]
theorem snoc_eq (l : List FlD) (f : FlD) : (l ++ [f]).getD l.length fl0 = f := by
  simp only [List.getD_eq_getElem?_getD]; rw [List.getElem?_append_right (by omega), Nat.sub_self]; rfl
theorem okN_add {l : List FlD} {next : Int} (h : okN next l) (f : FlD) (hl : l.length < 4096) (hm : next < 1073741824) (ht : 1 ≤ f.to ∧ f.to ≤ 12) (hd : f.d.length ≠ 0) : okN (next + 1) (addL l next f) := by
  have hlen := addL_len l next f
  refine ⟨by have := h.1; omega, by omega, by omega, fun i hi => ?_⟩
  rw [hlen] at hi
  unfold addL
  by_cases hil : i < l.length
  · rw [snoc_lt _ _ _ hil]
    obtain ⟨a1, a2, a3, a4, a5⟩ := h.2.2.2 i hil
    refine ⟨a1, by omega, fun h1 => ?_, a4, a5⟩
    rw [snoc_lt _ _ _ (by omega)]
    exact a3 h1
  · have e : i = l.length := by omega
    subst e
    rw [snoc_eq]
    refine ⟨h.1, by show next < next + 1; omega, fun h1 => ?_, ht, hd⟩
    rw [snoc_lt _ _ _ (by omega)]
    exact (h.2.2.2 (l.length - 1) (by omega)).2.1
theorem inv_up {n : Nat} {st fl : List FlD} {next : Int} (h : Inv n st fl next) : Inv (n + 1) st fl next := ⟨h.1, by have := h.2.1; omega, by have := h.2.2.1; omega, by have := h.2.2.2.1; omega, h.2.2.2.2⟩
theorem inv_snd {n : Nat} {st fl : List FlD} {next : Int} (h : Inv n st fl next) (hn : n ≤ 60) (to : Int) (d : List Int) (hd : d.length ≤ 100) (hb : Bts d) (ha : argP to d) (x : Int) : Inv (n + 1) (st ++ [⟨x, to, d, false⟩]) (sndL fl next to d) (sndN next to d) := by
  obtain ⟨h1, h2, h3, h4, h5, h6⟩ := h
  unfold sndL sndN
  rw [if_pos ha, if_pos ha]
  have hlen := addL_len fl next ⟨0, to, d, false⟩
  refine ⟨okN_add h1 _ (by omega) (by omega) ha.1 (by show d.length ≠ 0; have := ha.2.1; omega), by omega, by omega, by rw [List.length_append]; simp; omega, fun j hj => ?_, fun k hk => ?_⟩
  · rw [hlen] at hj
    unfold addL
    by_cases hl : j < fl.length
    · rw [snoc_lt _ _ _ hl]
      obtain ⟨a, k, hk, hc⟩ := h5 j hl
      exact ⟨a, k, by rw [List.length_append]; omega, by rw [snoc_lt _ _ _ hk]; exact hc⟩
    · have e : j = fl.length := by omega
      subst e
      rw [snoc_eq]
      exact ⟨⟨hd, hb⟩, st.length, by rw [List.length_append]; simp, by rw [snoc_eq]; exact ⟨rfl, near_refl _, .inr rfl⟩⟩
  · by_cases hl : k < st.length
    · rw [snoc_lt _ _ _ hl]; exact h6 k hl
    · have e : k = st.length := by rw [List.length_append] at hk; simp at hk; omega
      subst e
      rw [snoc_eq]; exact ⟨hd, hb⟩
theorem inv_sndno {n : Nat} {st fl : List FlD} {next : Int} (h : Inv n st fl next) (to : Int) (d : List Int) (ha : ¬ argP to d) : Inv (n + 1) st (sndL fl next to d) (sndN next to d) := by
  unfold sndL sndN; rw [if_neg ha, if_neg ha]; exact inv_up h
theorem inv_tk {n : Nat} {st fl : List FlD} {next : Int} (h : Inv n st fl next) (x : Int) : Inv (n + 1) st (tkL fl x) next := by
  unfold tkL
  by_cases ha : hasX fl x
  · rw [if_pos ha]
    obtain ⟨k1, _⟩ := hasX_yes ha
    obtain ⟨h1, h2, h3, h4, h5, h6⟩ := h
    have hl := rmL_len fl _ k1
    refine ⟨okN_rm h1 k1, by omega, by omega, by omega, fun j hj => ?_, h6⟩
    rw [hl] at hj
    rw [rm_get fl _ j k1 hj]
    exact h5 _ (by unfold unk; split <;> omega)
  · rw [if_neg ha]; exact inv_up h
theorem inv_db {n : Nat} {st fl : List FlD} {next : Int} (h : Inv n st fl next) (hn : n ≤ 60) (x : Int) : Inv (n + 1) st (dbL fl next x) (dbN fl next x) := by
  unfold dbL dbN
  by_cases ha : hasX fl x
  · rw [if_pos ha, if_pos ha]
    obtain ⟨k1, _⟩ := hasX_yes ha
    obtain ⟨h1, h2, h3, h4, h5, h6⟩ := h
    have hlen := addL_len fl next (fl.getD (pk fl x) fl0)
    obtain ⟨a1, a2, a3, a4, a5⟩ := h1.2.2.2 _ k1
    refine ⟨okN_add h1 _ (by omega) (by omega) a4 a5, by omega, by omega, by omega, fun j hj => ?_, h6⟩
    rw [hlen] at hj
    unfold addL
    by_cases hl : j < fl.length
    · rw [snoc_lt _ _ _ hl]; exact h5 j hl
    · have e : j = fl.length := by omega
      subst e
      rw [snoc_eq]
      exact h5 _ k1
  · rw [if_neg ha, if_neg ha]; exact inv_up h
theorem getD_set_ne (l : List FlD) (k j : Nat) (f : FlD) (h : k ≠ j) : (l.set k f).getD j fl0 = l.getD j fl0 := by
  simp only [List.getD_eq_getElem?_getD]; rw [List.getElem?_set_ne h]
theorem getD_set_eq (l : List FlD) (k : Nat) (f : FlD) (h : k < l.length) : (l.set k f).getD k fl0 = f := by
  simp only [List.getD_eq_getElem?_getD]; rw [List.getElem?_set_self h]; rfl
theorem x8_rng (x y : Int) : 0 ≤ x8 x y ∧ x8 x y < 256 := by
  unfold x8
  have hl := (BitVec.ofInt 8 x ^^^ BitVec.ofInt 8 y).isLt
  rw [IntWalk.u8_in _ (by omega)]
  omega
theorem Bts.set {d : List Int} (h : Bts d) (i : Nat) {v : Int} (hv : 0 ≤ v ∧ v < 256) : Bts (d.set i v) := by
  intro y hy
  rcases List.mem_or_eq_of_mem_set hy with h1 | h1
  · exact h y h1
  · subst h1; exact hv
theorem inv_spo {n : Nat} {st fl : List FlD} {next : Int} (h : Inv n st fl next) (x a b : Int) : Inv (n + 1) st (spoL fl x a b) next := by
  unfold spoL
  by_cases hs : slP fl x a b
  · rw [if_pos hs]
    obtain ⟨ha, hsp, hin⟩ := hs
    obtain ⟨k1, _⟩ := hasX_yes ha
    obtain ⟨h1, h2, h3, h4, h5, h6⟩ := h
    have hl := spL_len fl (pk fl x) a b
    have hget : ∀ j, j < fl.length → ((spL fl (pk fl x) a b).getD j fl0).num = (fl.getD j fl0).num ∧ ((spL fl (pk fl x) a b).getD j fl0).to = (fl.getD j fl0).to ∧ ((spL fl (pk fl x) a b).getD j fl0).d.length = (fl.getD j fl0).d.length := by
      intro j hj
      unfold spL
      by_cases e : pk fl x = j
      · subst e; rw [getD_set_eq _ _ _ k1]; exact ⟨rfl, rfl, by simp⟩
      · rw [getD_set_ne _ _ _ _ e]; exact ⟨rfl, rfl, rfl⟩
    refine ⟨⟨h1.1, h1.2.1, by have := h1.2.2.1; omega, fun i hi => ?_⟩, by omega, by omega, by omega, fun j hj => ?_, h6⟩
    · rw [hl] at hi
      obtain ⟨a1, a2, a3, a4, a5⟩ := h1.2.2.2 i hi
      obtain ⟨g1, g2, g3⟩ := hget i hi
      rw [g1, g2, g3]
      refine ⟨a1, a2, fun q => ?_, a4, a5⟩
      rw [(hget (i - 1) (by omega)).1]
      exact a3 q
    · rw [hl] at hj
      unfold spL
      by_cases e : pk fl x = j
      · subst e
        rw [getD_set_eq _ _ _ k1]
        obtain ⟨⟨b1, b2⟩, k, hk, c1, c2, c3⟩ := h5 _ k1
        refine ⟨⟨by simpa using b1, Bts.set b2 _ (x8_rng _ _)⟩, k, hk, c1, ?_, .inl rfl⟩
        rcases c3 with c3 | c3
        · rw [hsp] at c3; simp at c3
        · rw [c3]; exact near_set _ _ _
      · rw [getD_set_ne _ _ _ _ e]; exact h5 j hj
  · rw [if_neg hs]; exact inv_up h
theorem inv_hit {n : Nat} {st fl : List FlD} {next : Int} (h : Inv n st fl next) (x : Int) (ha : hasX fl x) : ∃ k, k < st.length ∧ cameOf (st.getD k fl0) (tkF fl x) := by
  unfold tkF; rw [if_pos ha]
  exact (h.2.2.2.2.1 _ (hasX_yes ha).1).2
theorem inv_tkF {n : Nat} {st fl : List FlD} {next : Int} (h : Inv n st fl next) (x : Int) : (tkF fl x).d.length ≤ 100 ∧ Bts (tkF fl x).d := by
  unfold tkF
  split
  · exact (h.2.2.2.2.1 _ (hasX_yes (by assumption)).1).1
  · exact ⟨by simp [fl0], fun y hy => absurd hy (by simp [fl0])⟩
end Go.Net
