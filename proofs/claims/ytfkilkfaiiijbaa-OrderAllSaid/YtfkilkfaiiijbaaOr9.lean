/- Walks and laws. -/
import Derived.Test.YtfkilkfaiiijbaaOr8
set_option maxRecDepth 100000
set_option linter.unusedSimpArgs false
set_option linter.unusedVariables false
set_option linter.unusedSectionVars false
namespace Go.Ord
open Go Go.Abs Go.Proofs Go.Ops
theorem had_before {l : List TxD} (h : chnR l) : ∀ j, j ≤ l.length → ∀ i, i < j → hadP (vR l j) (l.getD i tx0)
  | 0, _, i, hi => absurd hi (by omega)
  | j + 1, hj, i, hi => by
    have hr := h j (by omega)
    rcases Nat.lt_or_ge i j with h1 | h1
    · exact had_upd hr (had_before h j (by omega) i h1)
    · have : i = j := by omega
      subst this; exact had_self hr
theorem had_dot {v : Vv} {t u : TxD} (h : hadP v t) (hp : t.p = u.p) (hs : t.s = u.s) : hadP v u := by
  unfold hadP at *; rw [← hp, ← hs]; exact h
theorem dot_lt {l : List TxD} (h : chnR l) {i j : Nat} (hij : i < j) (hj : j < l.length) (hp : (l.getD i tx0).p = (l.getD j tx0).p) (hs : (l.getD i tx0).s = (l.getD j tx0).s) : False :=
  not_had (h j hj) (had_dot (had_before h j (by omega) i hij) hp hs)
theorem dot_inj {l : List TxD} (h : chnR l) {i j : Nat} (hi : i < l.length) (hj : j < l.length) (hp : (l.getD i tx0).p = (l.getD j tx0).p) (hs : (l.getD i tx0).s = (l.getD j tx0).s) : i = j := by
  rcases Nat.lt_trichotomy i j with h1 | h1 | h1
  · exact (dot_lt h h1 hj hp hs).elim
  · exact h1
  · exact (dot_lt h h1 hi hp.symm hs.symm).elim
theorem le_of_had {l : List TxD} {v : Vv} (hv : ∀ j, (0 : Int) ≤ v j) : ∀ k, (∀ j, j < k → hadP v (l.getD j tx0)) → ∀ c, vR l k c ≤ v c
  | 0, _, c => hv c
  | k + 1, h, c => by
    show updV (vR l k) _ _ c ≤ v c
    unfold updV
    split
    · rename_i e; rw [e]; exact (h k (by omega)).2.2
    · exact le_of_had hv k (fun j hj => h j (by omega)) c
theorem rdy_of {l : List TxD} (hc : chnR l) {v : Vv} (hv : ∀ j, (0 : Int) ≤ v j) {k : Nat} (hk : k < l.length) (h : ∀ j, j < k → hadP v (l.getD j tx0)) (hn : ¬ hadP v (l.getD k tx0)) : rdyP v (l.getD k tx0) := by
  have hr := hc k hk
  have hle := le_of_had hv k h
  have h1 := hle (l.getD k tx0).p.toNat
  have h2 : ¬ (l.getD k tx0).s ≤ v (l.getD k tx0).p.toNat := fun h => hn ⟨hr.1.1, hr.2.2.1.2.1, h⟩
  have h3 := hr.1.2.2
  refine ⟨⟨hr.1.1, by omega, by omega⟩, fun j hj => ?_, hr.2.2⟩
  have h4 := hr.2.1 j hj
  have h5 := hle j
  omega
/-- Where the i-th one that is offered stands. -/
def ix (l : List TxD) (r i : Nat) : Nat := (i + r) % l.length
def rot (l : List TxD) (r : Nat) : List TxD := (List.range l.length).map fun i => l.getD (ix l r i) tx0
@[simp] theorem rot_len (l : List TxD) (r : Nat) : (rot l r).length = l.length := by simp [rot]
theorem rot_get {l : List TxD} (r : Nat) {i : Nat} (h : i < l.length) : (rot l r).getD i tx0 = l.getD (ix l r i) tx0 := by
  rw [List.getD_eq_getElem?_getD, List.getElem?_eq_getElem (by simpa using h)]
  simp [rot]
theorem ix_lt {l : List TxD} (r : Nat) {i : Nat} (h : i < l.length) : ix l r i < l.length := Nat.mod_lt _ (by omega)
theorem mod_two {a n : Nat} (h : a < 2 * n) : a % n = if a < n then a else a - n := by
  split
  · exact Nat.mod_eq_of_lt ‹_›
  · rw [Nat.mod_eq_sub_mod (by omega), Nat.mod_eq_of_lt (by omega)]
theorem ix_eq {l : List TxD} (r : Nat) {i : Nat} (h : i < l.length) : ix l r i = if i + r % l.length < l.length then i + r % l.length else i + r % l.length - l.length := by
  have hr : r % l.length < l.length := Nat.mod_lt _ (by omega)
  unfold ix
  rw [← mod_two (by omega), Nat.add_mod i r, Nat.add_mod i (r % _), Nat.mod_mod]
theorem ix_inj {l : List TxD} (r : Nat) {i j : Nat} (hi : i < l.length) (hj : j < l.length) (h : ix l r i = ix l r j) : i = j := by
  rw [ix_eq r hi, ix_eq r hj] at h
  have hr : r % l.length < l.length := Nat.mod_lt _ (by omega)
  split at h <;> split at h <;> omega
theorem ix_surj {l : List TxD} (r : Nat) {k : Nat} (hk : k < l.length) : ∃ i, i < l.length ∧ ix l r i = k := by
  have hr : r % l.length < l.length := Nat.mod_lt _ (by omega)
  by_cases h : r % l.length ≤ k
  · refine ⟨k - r % l.length, by omega, ?_⟩
    rw [ix_eq r (by omega), if_pos (by omega)]; omega
  · refine ⟨k + l.length - r % l.length, by omega, ?_⟩
    rw [ix_eq r (by omega), if_neg (by omega)]; omega
structure InvA (l : List TxD) (r i : Nat) : Prop where
  nd : (stC (rot l r) i).w.Nodup
  num : (stC (rot l r) i).all.length + (stC (rot l r) i).w.length = i
  mema : ∀ t ∈ (stC (rot l r) i).all, ∃ j, j < i ∧ t = l.getD (ix l r j) tx0
  memw : ∀ t ∈ (stC (rot l r) i).w, ∃ j, j < i ∧ t = l.getD (ix l r j) tx0
  gone : ∀ j, j < i → hadP (stC (rot l r) i).v (l.getD (ix l r j) tx0) ∨ l.getD (ix l r j) tx0 ∈ (stC (rot l r) i).w
theorem lft_all {v : Vv} {m : List TxD} (h : ∀ t ∈ m, ¬ hadP v t) : lft v m = m := by
  unfold lft
  exact List.filter_eq_self.2 (fun t ht => by simpa using h t ht)
section
variable {l : List TxD} {r : Nat} (hc : chnR l) (h32 : l.length ≤ 32)
include hc
theorem same_ix {i j : Nat} (hi : i < l.length) (hj : j < l.length) (hp : (l.getD (ix l r i) tx0).p = (l.getD (ix l r j) tx0).p) (hs : (l.getD (ix l r i) tx0).s = (l.getD (ix l r j) tx0).s) : i = j :=
  ix_inj r hi hj (dot_inj hc (ix_lt r hi) (ix_lt r hj) hp hs)
include h32
theorem offE_at {i : Nat} (hi : i < l.length) (h : InvA l r i) : offE (stC (rot l r) i).v (stC (rot l r) i).w (l.getD (ix l r i) tx0) = 0 := by
  refine offE_ok.2 ⟨(hc _ (ix_lt r hi)).2.2, fun hh => ?_, fun hd => ?_, ?_⟩
  · obtain ⟨h1, h2, _⟩ := stC_inv (rot l r) i
    rw [h2] at hh
    rcases had_split h1 _ hh with h3 | ⟨u, hu, hp, hs⟩
    · have h4 := (hc _ (ix_lt r hi)).2.2.1.2.1
      have h5 : (l.getD (ix l r i) tx0).s ≤ 0 := h3.2.2
      omega
    · obtain ⟨j, hj, rfl⟩ := h.mema u hu
      have := same_ix hc (r := r) hi (by omega) hp hs
      omega
  · obtain ⟨u, hu, hp, hs⟩ := hd
    obtain ⟨j, hj, rfl⟩ := h.memw u hu
    have := same_ix hc (r := r) hi (by omega) hp.symm hs.symm
    omega
  · have := h.num; omega
theorem invA : ∀ i, i ≤ l.length → InvA l r i
  | 0, _ => ⟨List.nodup_nil, rfl, fun t h => by simp [stC] at h, fun t h => by simp [stC] at h, fun j h => absurd h (by omega)⟩
  | i + 1, hi => by
    have ih := invA i (by omega)
    have he := offE_at hc h32 (by omega) ih
    have hst : stC (rot l r) (i + 1) = ⟨vAft (stC (rot l r) i).v (got (stC (rot l r) i).v (insO (stC (rot l r) i).w (l.getD (ix l r i) tx0))), (stC (rot l r) i).all ++ got (stC (rot l r) i).v (insO (stC (rot l r) i).w (l.getD (ix l r i) tx0)), lft (vAft (stC (rot l r) i).v (got (stC (rot l r) i).v (insO (stC (rot l r) i).w (l.getD (ix l r i) tx0)))) (insO (stC (rot l r) i).w (l.getD (ix l r i) tx0))⟩ := by
      simp only [stC]
      rw [rot_get r (by omega), if_pos he]
    have hnot : ∀ t ∈ insO (stC (rot l r) i).w (l.getD (ix l r i) tx0), ¬ hadP (stC (rot l r) i).v t := by
      intro t ht
      rcases insO_mem.1 ht with rfl | ht
      · exact (offE_ok.1 he).2.1
      · exact ((stC_inv (rot l r) i).2.2 t ht).1
    have hin : l.getD (ix l r i) tx0 ∉ (stC (rot l r) i).w := fun h => (offE_ok.1 he).2.2.1 ⟨_, h, rfl, rfl⟩
    have hnd := insO_nodup ih.nd hin
    have hmem : ∀ t ∈ insO (stC (rot l r) i).w (l.getD (ix l r i) tx0), ∃ j, j < i + 1 ∧ t = l.getD (ix l r j) tx0 := by
      intro t ht
      rcases insO_mem.1 ht with rfl | ht
      · exact ⟨i, by omega, rfl⟩
      · obtain ⟨j, hj, e⟩ := ih.memw t ht; exact ⟨j, by omega, e⟩
    have hdots : ∀ a ∈ insO (stC (rot l r) i).w (l.getD (ix l r i) tx0), ∀ b ∈ insO (stC (rot l r) i).w (l.getD (ix l r i) tx0), a.p = b.p → a.s = b.s → a = b := by
      intro a ha b hb hp hs
      obtain ⟨x, hx, rfl⟩ := hmem a ha
      obtain ⟨y, hy, rfl⟩ := hmem b hb
      rw [same_ix hc (r := r) (by omega) (by omega) hp hs]
    have hlen := insO_len (stC (rot l r) i).w (l.getD (ix l r i) tx0)
    have hnum := ih.num
    have hmi : ∀ t, t = l.getD (ix l r i) tx0 ∨ t ∈ (stC (rot l r) i).w → t ∈ insO (stC (rot l r) i).w (l.getD (ix l r i) tx0) := fun t => insO_mem.2
    generalize insO (stC (rot l r) i).w (l.getD (ix l r i) tx0) = m at *
    have hcnt := got_count hnd hdots (stC (rot l r) i).v
    have hcm : cnt (stC (rot l r) i).v m = m.length := by unfold cnt; rw [lft_all hnot]
    have hch := got_chain (stC (rot l r) i).v m
    constructor
    · rw [hst]; exact hnd.filter _
    · rw [hst]
      show ((stC (rot l r) i).all ++ got (stC (rot l r) i).v m).length + cnt (vAft (stC (rot l r) i).v (got (stC (rot l r) i).v m)) m = i + 1
      rw [List.length_append]; omega
    · rw [hst]
      intro t ht
      rcases List.mem_append.1 ht with ht | ht
      · obtain ⟨j, hj, e⟩ := ih.mema t ht; exact ⟨j, by omega, e⟩
      · exact hmem t (got_mem _ _ t ht)
    · rw [hst]
      intro t ht
      exact hmem t (lft_mem.1 ht).1
    · rw [hst]
      intro j hj
      show hadP (vAft _ _) _ ∨ _ ∈ lft _ _
      by_cases hh : hadP (vAft (stC (rot l r) i).v (got (stC (rot l r) i).v m)) (l.getD (ix l r j) tx0)
      · exact .inl hh
      · refine .inr (lft_mem.2 ⟨?_, hh⟩)
        by_cases hji : j = i
        · subst hji; exact hmi _ (.inl rfl)
        · rcases ih.gone j (by omega) with h1 | h1
          · exact absurd (had_aft hch h1) hh
          · exact hmi _ (.inr h1)
theorem all_had : ∀ k, k < l.length → hadP (stC (rot l r) l.length).v (l.getD k tx0) := by
  intro k
  induction k using Nat.strongRecOn with
  | ind k ih =>
    intro hk
    by_cases hh : hadP (stC (rot l r) l.length).v (l.getD k tx0)
    · exact hh
    · exfalso
      obtain ⟨h1, h2, h3⟩ := stC_inv (rot l r) l.length
      have hv : ∀ j, (0 : Int) ≤ (stC (rot l r) l.length).v j := fun j => by rw [h2]; exact chain_ge (v := Vz) h1 j
      have hr := rdy_of hc hv hk (fun j hj => ih j hj (by omega)) hh
      obtain ⟨i, hi, e⟩ := ix_surj r hk
      have hw := (invA (r := r) hc h32 l.length (Nat.le_refl _)).gone i hi
      rw [e] at hw
      rcases hw with hw | hw
      · exact hh hw
      · exact (h3 _ hw).2 hr
theorem all_w : (stC (rot l r) l.length).w = [] := by
  refine List.eq_nil_iff_forall_not_mem.2 (fun t ht => ?_)
  obtain ⟨j, hj, rfl⟩ := (invA (r := r) hc h32 l.length (Nat.le_refl _)).memw t ht
  exact ((stC_inv (rot l r) l.length).2.2 _ ht).1 (all_had hc h32 _ (ix_lt r hj))
theorem all_n : (stC (rot l r) l.length).all.length = l.length := by
  have h1 := (invA (r := r) hc h32 l.length (Nat.le_refl _)).num
  rw [all_w hc h32] at h1
  simpa using h1
end
end Go.Ord
