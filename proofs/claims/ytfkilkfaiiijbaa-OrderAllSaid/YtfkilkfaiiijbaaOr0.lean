/- Walks and laws. -/
import Derived.Test.YtfkilkfaiiijbaaOps8
set_option maxRecDepth 100000
set_option linter.unusedSimpArgs false
set_option linter.unusedVariables false
namespace Go.Ord
open Go Go.Abs Go.Proofs Go.Ops
/-! ### What is delivered, in plain lists -/
def tx0 : TxD := ⟨0, 0, fun _ => 0, 0, []⟩
abbrev Vv := Nat → Int
def leqP (a b : Vv) : Prop := ∀ j, j < 13 → a j ≤ b j
instance (a b : Vv) : Decidable (leqP a b) := by unfold leqP; infer_instance
def nextP (v : Vv) (p s : Int) : Prop := (1 ≤ p ∧ p ≤ 12) ∧ v p.toNat < s ∧ v p.toNat + 1 = s
instance (v : Vv) (p s : Int) : Decidable (nextP v p s) := by unfold nextP; infer_instance
def rdyP (v : Vv) (t : TxD) : Prop := nextP v t.p t.s ∧ leqP t.v v ∧ ctxP t
instance (v : Vv) (t : TxD) : Decidable (rdyP v t) := by unfold rdyP; infer_instance
def updV (v : Vv) (p s : Int) : Vv := fun j => if j = p.toNat then s else v j
def vAft (v : Vv) (g : List TxD) : Vv := g.foldl (fun v t => updV v t.p t.s) v
theorem vAft_app (v : Vv) (a b : List TxD) : vAft v (a ++ b) = vAft (vAft v a) b := List.foldl_append
theorem vAft_snoc (v : Vv) (a : List TxD) (t : TxD) : vAft v (a ++ [t]) = updV (vAft v a) t.p t.s := by rw [vAft_app]; rfl
def fnd (v : Vv) (l : List TxD) : Option TxD := l.find? fun t => decide (rdyP v t)
def drn : Nat → Vv → List TxD → List TxD
  | 0, _, _ => []
  | n + 1, v, l => match fnd v l with
    | none => []
    | some t => t :: drn n (updV v t.p t.s) l
def hadP (v : Vv) (t : TxD) : Prop := hasP v t.p t.s
instance (v : Vv) (t : TxD) : Decidable (hadP v t) := by unfold hadP; infer_instance
def lft (v : Vv) (l : List TxD) : List TxD := l.filter fun t => !decide (hadP v t)
def cnt (v : Vv) (l : List TxD) : Nat := (lft v l).length
theorem cnt_le (v : Vv) (l : List TxD) : cnt v l ≤ l.length := List.length_filter_le _ _
/-- One behind the other. -/
def chain : Vv → List TxD → Prop
  | _, [] => True
  | v, t :: g => rdyP v t ∧ chain (updV v t.p t.s) g
theorem chain_app {v : Vv} {a b : List TxD} : chain v (a ++ b) ↔ chain v a ∧ chain (vAft v a) b := by
  induction a generalizing v with
  | nil => simp [chain, vAft]
  | cons t a ih => rw [List.cons_append, chain, chain, ih]; simp only [and_assoc]; rfl
theorem fnd_some {v : Vv} {l : List TxD} {t : TxD} (h : fnd v l = some t) : rdyP v t ∧ t ∈ l := by
  unfold fnd at h
  exact ⟨by simpa using List.find?_some h, List.mem_of_find?_eq_some h⟩
theorem fnd_none {v : Vv} {l : List TxD} (h : fnd v l = none) : ∀ t ∈ l, ¬ rdyP v t := by
  unfold fnd at h
  intro t ht
  simpa using List.find?_eq_none.1 h t ht
theorem had_upd {v : Vv} {t u : TxD} (hr : rdyP v t) (h : hadP v u) : hadP (updV v t.p t.s) u := by
  unfold hadP hasP at *
  refine ⟨h.1, h.2.1, ?_⟩
  unfold updV
  split
  · rename_i e
    have h1 := hr.1.2.1
    rw [← e] at h1
    have := h.2.2; omega
  · exact h.2.2
theorem had_self {v : Vv} {t : TxD} (hr : rdyP v t) : hadP (updV v t.p t.s) t := by
  refine ⟨hr.1.1, hr.2.2.1.2.1, ?_⟩
  unfold updV; rw [if_pos rfl]; exact Int.le_refl _
theorem not_had {v : Vv} {t : TxD} (hr : rdyP v t) : ¬ hadP v t := fun h => by
  have h1 := hr.1.2.1
  have h2 : t.s ≤ v t.p.toNat := h.2.2
  omega
theorem cnt_cons (v : Vv) (u : TxD) (l : List TxD) : cnt v (u :: l) = (if hadP v u then 0 else 1) + cnt v l := by
  unfold cnt lft
  by_cases h : hadP v u
  · rw [List.filter_cons_of_neg (by simpa using h), if_pos h]; omega
  · rw [List.filter_cons_of_pos (by simpa using h), if_neg h, List.length_cons]; omega
theorem cnt_mono {v : Vv} {t : TxD} (hr : rdyP v t) : ∀ l : List TxD, cnt (updV v t.p t.s) l ≤ cnt v l
  | [] => Nat.le_refl _
  | u :: l => by
    have ih := cnt_mono hr l
    rw [cnt_cons, cnt_cons]
    by_cases h1 : hadP v u
    · rw [if_pos h1, if_pos (had_upd hr h1)]; omega
    · rw [if_neg h1]; split <;> omega
theorem cnt_upd {v : Vv} {t : TxD} (hr : rdyP v t) : ∀ {l : List TxD}, t ∈ l → cnt (updV v t.p t.s) l < cnt v l
  | [], h => by simp at h
  | u :: l, ht => by
    rw [cnt_cons, cnt_cons]
    rcases List.mem_cons.1 ht with rfl | ht
    · have := cnt_mono hr l
      rw [if_pos (had_self hr), if_neg (not_had hr)]; omega
    · have h3 := cnt_upd hr ht
      by_cases h1 : hadP v u
      · rw [if_pos h1, if_pos (had_upd hr h1)]; omega
      · rw [if_neg h1]; split <;> omega
theorem drn_more : ∀ (n k : Nat) (v : Vv) (l : List TxD), cnt v l ≤ n → n ≤ k → drn n v l = drn k v l
  | 0, 0, _, _, _, _ => rfl
  | 0, k + 1, v, l, h, _ => by
    cases hf : fnd v l with
    | none => simp [drn, hf]
    | some t => obtain ⟨h1, h2⟩ := fnd_some hf; have := cnt_upd h1 h2; omega
  | n + 1, 0, _, _, _, h => by omega
  | n + 1, k + 1, v, l, h, hk => by
    cases hf : fnd v l with
    | none => simp [drn, hf]
    | some t =>
      obtain ⟨h1, h2⟩ := fnd_some hf
      have h3 := cnt_upd h1 h2
      simp only [drn, hf]
      rw [drn_more n k _ l (by omega) (by omega)]
/-- What a drain delivers. -/
def got (v : Vv) (l : List TxD) : List TxD := drn (cnt v l) v l
theorem got_none {v : Vv} {l : List TxD} (h : fnd v l = none) : got v l = [] := by
  unfold got
  cases cnt v l with
  | zero => rfl
  | succ n => simp [drn, h]
theorem got_some {v : Vv} {l : List TxD} {t : TxD} (h : fnd v l = some t) : got v l = t :: got (updV v t.p t.s) l := by
  obtain ⟨h1, h2⟩ := fnd_some h
  have h3 := cnt_upd h1 h2
  unfold got
  cases hc : cnt v l with
  | zero => omega
  | succ n =>
    simp only [drn, h]
    rw [drn_more _ n _ l (Nat.le_refl _) (by omega)]
theorem got_ind {l : List TxD} {C : Vv → List TxD → Prop} (h0 : ∀ v, fnd v l = none → C v []) (h1 : ∀ v t g, fnd v l = some t → C (updV v t.p t.s) g → C v (t :: g)) (v : Vv) : C v (got v l) := by
  have : ∀ n v, cnt v l ≤ n → C v (got v l) := by
    intro n
    induction n with
    | zero =>
      intro v hv
      cases hf : fnd v l with
      | none => rw [got_none hf]; exact h0 v hf
      | some t => obtain ⟨a, b⟩ := fnd_some hf; have := cnt_upd a b; omega
    | succ n ih =>
      intro v hv
      cases hf : fnd v l with
      | none => rw [got_none hf]; exact h0 v hf
      | some t =>
        obtain ⟨a, b⟩ := fnd_some hf
        have := cnt_upd a b
        rw [got_some hf]
        exact h1 v t _ hf (ih _ (by omega))
  exact this _ v (Nat.le_refl _)
theorem got_chain (v : Vv) (l : List TxD) : chain v (got v l) :=
  got_ind (C := fun v g => chain v g) (fun v _ => trivial) (fun v t g hf h => ⟨(fnd_some hf).1, h⟩) v
theorem got_mem (v : Vv) (l : List TxD) : ∀ t ∈ got v l, t ∈ l :=
  got_ind (C := fun v g => ∀ t ∈ g, t ∈ l) (fun v _ t h => by simp at h) (fun v t g hf h u hu => (List.mem_cons.1 hu).elim (fun e => e ▸ (fnd_some hf).2) (h u)) v
theorem got_end (v : Vv) (l : List TxD) : fnd (vAft v (got v l)) l = none :=
  got_ind (C := fun v g => fnd (vAft v g) l = none) (fun v h => h) (fun v t g hf h => h) v
theorem got_len (v : Vv) (l : List TxD) : (got v l).length ≤ cnt v l := by
  refine got_ind (C := fun v g => g.length ≤ cnt v l) (fun v h => by simp) (fun v t g hf h => ?_) v
  obtain ⟨a, b⟩ := fnd_some hf
  have := cnt_upd a b
  simp only [List.length_cons]; omega
theorem upd_ge {v : Vv} {t : TxD} (hr : rdyP v t) (j : Nat) : v j ≤ updV v t.p t.s j := by
  unfold updV
  split
  · rename_i e; subst e; have := hr.1.2.1; omega
  · exact Int.le_refl _
theorem chain_ge {g : List TxD} : ∀ {v : Vv}, chain v g → ∀ j, v j ≤ vAft v g j := by
  induction g with
  | nil => intro v _ j; exact Int.le_refl _
  | cons t g ih => intro v h j; exact Int.le_trans (upd_ge h.1 j) (ih h.2 j)
theorem had_aft {v : Vv} {g : List TxD} {u : TxD} (h : chain v g) (hu : hadP v u) : hadP (vAft v g) u := ⟨hu.1, hu.2.1, Int.le_trans hu.2.2 (chain_ge h _)⟩
theorem had_one {v : Vv} {t u : TxD} (hr : rdyP v t) (h : hadP (updV v t.p t.s) u) : hadP v u ∨ (u.p = t.p ∧ u.s = t.s) := by
  obtain ⟨h1, h2, h3⟩ := h
  unfold updV at h3
  split at h3
  · rename_i e
    have hp : u.p = t.p := by have := hr.1.1; omega
    have hn := hr.1.2.2
    by_cases hs : u.s = t.s
    · exact .inr ⟨hp, hs⟩
    · exact .inl ⟨h1, h2, by rw [e]; omega⟩
  · exact .inl ⟨h1, h2, h3⟩
theorem had_split {g : List TxD} : ∀ {v : Vv}, chain v g → ∀ u, hadP (vAft v g) u → hadP v u ∨ ∃ t ∈ g, u.p = t.p ∧ u.s = t.s := by
  induction g with
  | nil => intro v _ u h; exact .inl h
  | cons t g ih =>
    intro v h u hu
    rcases ih h.2 u hu with h1 | ⟨w, hw, e⟩
    · rcases had_one h.1 h1 with h2 | h2
      · exact .inl h2
      · exact .inr ⟨t, by simp, h2⟩
    · exact .inr ⟨w, by simp [hw], e⟩
theorem cnt_same {v : Vv} {t : TxD} (hr : rdyP v t) : ∀ l : List TxD, (∀ u ∈ l, u.p = t.p → u.s = t.s → u = t) → t ∉ l → cnt (updV v t.p t.s) l = cnt v l
  | [], _, _ => rfl
  | u :: l, hd, hn => by
    rw [cnt_cons, cnt_cons, cnt_same hr l (fun w hw => hd w (by simp [hw])) (fun h => hn (by simp [h]))]
    have : hadP (updV v t.p t.s) u ↔ hadP v u := ⟨fun h => (had_one hr h).elim id (fun e => absurd (hd u (by simp) e.1 e.2) (fun e2 => hn (by simp [e2]))), had_upd hr⟩
    simp only [this]
theorem cnt_one {v : Vv} {t : TxD} (hr : rdyP v t) : ∀ l : List TxD, (∀ u ∈ l, u.p = t.p → u.s = t.s → u = t) → l.Nodup → t ∈ l → cnt (updV v t.p t.s) l + 1 = cnt v l
  | [], _, _, h => by simp at h
  | u :: l, hd, hn, ht => by
    rw [cnt_cons, cnt_cons]
    have hn' := List.nodup_cons.1 hn
    rcases List.mem_cons.1 ht with rfl | ht
    · rw [cnt_same hr l (fun w hw => hd w (by simp [hw])) hn'.1, if_pos (had_self hr), if_neg (not_had hr)]; omega
    · have hut : u ≠ t := fun e => hn'.1 (e ▸ ht)
      have h1 := cnt_one hr l (fun w hw => hd w (by simp [hw])) hn'.2 ht
      have : hadP (updV v t.p t.s) u ↔ hadP v u := ⟨fun h => (had_one hr h).elim id (fun e => absurd (hd u (by simp) e.1 e.2) hut), had_upd hr⟩
      simp only [this]; omega
theorem got_count {l : List TxD} (hn : l.Nodup) (hd : ∀ a ∈ l, ∀ b ∈ l, a.p = b.p → a.s = b.s → a = b) (v : Vv) : (got v l).length + cnt (vAft v (got v l)) l = cnt v l := by
  refine got_ind (C := fun v g => g.length + cnt (vAft v g) l = cnt v l) (fun v h => by simp [vAft]) (fun v t g hf h => ?_) v
  obtain ⟨a, b⟩ := fnd_some hf
  have h1 := cnt_one a l (fun u hu => hd u hu t b) hn b
  simp only [List.length_cons]
  have h2 : vAft v (t :: g) = vAft (updV v t.p t.s) g := rfl
  rw [h2]; omega
/-- Where one is put. -/
def aheadP (a t : TxD) : Prop := a.p < t.p ∨ a.p = t.p ∧ a.s < t.s
instance (a t : TxD) : Decidable (aheadP a t) := by unfold aheadP; infer_instance
def posO (w : List TxD) (t : TxD) : Nat := (w.takeWhile fun a => decide (aheadP a t)).length
def insO (w : List TxD) (t : TxD) : List TxD := w.take (posO w t) ++ t :: w.drop (posO w t)
theorem posO_le (w : List TxD) (t : TxD) : posO w t ≤ w.length := (List.takeWhile_sublist _).length_le
theorem insO_len (w : List TxD) (t : TxD) : (insO w t).length = w.length + 1 := by
  have := posO_le w t
  rw [insO, List.length_append, List.length_cons, List.length_take, List.length_drop]; omega
theorem insO_mem {w : List TxD} {t u : TxD} : u ∈ insO w t ↔ u = t ∨ u ∈ w := by
  have e : w = w.take (posO w t) ++ w.drop (posO w t) := (List.take_append_drop _ _).symm
  constructor
  · intro h
    rcases List.mem_append.1 h with h | h
    · exact .inr (List.mem_of_mem_take h)
    · rcases List.mem_cons.1 h with h | h
      · exact .inl h
      · exact .inr (List.mem_of_mem_drop h)
  · rintro (h | h)
    · exact List.mem_append.2 (.inr (by simp [h]))
    · rw [e] at h
      rcases List.mem_append.1 h with h | h
      · exact List.mem_append.2 (.inl h)
      · exact List.mem_append.2 (.inr (by simp [h]))
theorem insO_nodup {w : List TxD} {t : TxD} (hn : w.Nodup) (ht : t ∉ w) : (insO w t).Nodup := by
  have e : insO w t = w.take (posO w t) ++ t :: w.drop (posO w t) := rfl
  have hp : (w.take (posO w t) ++ t :: w.drop (posO w t)).Perm (t :: w) := by
    have := @List.perm_middle _ t (w.take (posO w t)) (w.drop (posO w t))
    rwa [List.take_append_drop] at this
  rw [e]
  exact hp.nodup_iff.2 (List.nodup_cons.2 ⟨ht, hn⟩)
def dotIn (w : List TxD) (t : TxD) : Prop := ∃ u ∈ w, u.p = t.p ∧ u.s = t.s
open Classical in
noncomputable def offE (v : Vv) (w : List TxD) (t : TxD) : Int := if ¬ ctxP t then 3 else if hadP v t ∨ dotIn w t then 8 else if 32 ≤ w.length then 4 else 0
theorem offE_ok {v : Vv} {w : List TxD} {t : TxD} : offE v w t = 0 ↔ ctxP t ∧ ¬ hadP v t ∧ ¬ dotIn w t ∧ w.length < 32 := by
  unfold offE
  by_cases h1 : ctxP t <;> by_cases h2 : hadP v t <;> by_cases h3 : dotIn w t <;> by_cases h4 : 32 ≤ w.length <;> simp [h1, h2, h3, h4] <;> omega
def Vz : Vv := fun _ => 0
theorem lft_mem {v : Vv} {l : List TxD} {t : TxD} : t ∈ lft v l ↔ t ∈ l ∧ ¬ hadP v t := by
  unfold lft; rw [List.mem_filter]; simp
/-! ### OrderClosed -/
structure StC where
  v : Vv
  all : List TxD
  w : List TxD
noncomputable def stC (l : List TxD) : Nat → StC
  | 0 => ⟨Vz, [], []⟩
  | i + 1 =>
    let s := stC l i
    let m := if offE s.v s.w (l.getD i tx0) = 0 then insO s.w (l.getD i tx0) else s.w
    ⟨vAft s.v (got s.v m), s.all ++ got s.v m, lft (vAft s.v (got s.v m)) m⟩
theorem stC_inv (l : List TxD) : ∀ i, chain Vz (stC l i).all ∧ (stC l i).v = vAft Vz (stC l i).all ∧ ∀ t ∈ (stC l i).w, ¬ hadP (stC l i).v t ∧ ¬ rdyP (stC l i).v t
  | 0 => ⟨trivial, rfl, fun t h => by simp [stC] at h⟩
  | i + 1 => by
    obtain ⟨h1, h2, h3⟩ := stC_inv l i
    simp only [stC]
    generalize (if offE (stC l i).v (stC l i).w (l.getD i tx0) = 0 then insO (stC l i).w (l.getD i tx0) else (stC l i).w) = m
    refine ⟨chain_app.2 ⟨h1, by rw [← h2]; exact got_chain _ _⟩, by rw [vAft_app, ← h2], fun t ht => ?_⟩
    obtain ⟨a, b⟩ := lft_mem.1 ht
    exact ⟨b, fnd_none (got_end _ _) t a⟩
theorem stC_len (l : List TxD) : ∀ i, (stC l i).all.length + (stC l i).w.length ≤ i
  | 0 => Nat.le_refl _
  | i + 1 => by
    have ih := stC_len l i
    simp only [stC]
    have hm : (if offE (stC l i).v (stC l i).w (l.getD i tx0) = 0 then insO (stC l i).w (l.getD i tx0) else (stC l i).w).length ≤ (stC l i).w.length + 1 := by
      split
      · rw [insO_len]; exact Nat.le_refl _
      · omega
    generalize (if offE (stC l i).v (stC l i).w (l.getD i tx0) = 0 then insO (stC l i).w (l.getD i tx0) else (stC l i).w) = m at hm
    have h : (got (stC l i).v m).length + cnt (vAft (stC l i).v (got (stC l i).v m)) m ≤ m.length := by
      refine Nat.le_trans (got_ind (C := fun v g => g.length + cnt (vAft v g) m ≤ cnt v m) (fun v h => by simp [vAft]) (fun v t g hf h => ?_) _) (cnt_le _ m)
      obtain ⟨a, b⟩ := fnd_some hf
      have h1 := cnt_upd a b
      have h2 : vAft v (t :: g) = vAft (updV v t.p t.s) g := rfl
      simp only [List.length_cons]; rw [h2]; omega
    have e : (lft (vAft (stC l i).v (got (stC l i).v m)) m).length = cnt (vAft (stC l i).v (got (stC l i).v m)) m := rfl
    rw [List.length_append, e]; omega
end Go.Ord
