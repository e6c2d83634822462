/- Walks and laws. -/
import Derived.Test.YtgpikfncinkjlaaId0
set_option linter.unusedSimpArgs false
set_option linter.unusedVariables false
namespace Go.Tr
open Go Go.Abs
theorem rough_short {d : Int} {l r : T} (h0 : 0 < d) (hl : roughI (d - 1) l = true) (hr : roughI (d - 1) r = true) : roughI d (shortI l r) = true := by
  by_cases hc : isT l r.n ∧ r.ks.length = 0
  · rw [short_yes hc]
    match l, hc, hl with
    | .mk n [], _, hl => simpa only [roughI] using hl
    | .mk n (a :: k), hc, _ => simp [isT] at hc
  · rw [short_no hc]; simp [roughI, h0, hl, hr]
theorem check_of {t : T} (h1 : roughI 16 t = true) (h2 : normI t = t) : checkI t = true := by
  simp only [checkI, Bool.and_eq_true]; exact ⟨h1, (beqT_iff _ _).2 h2.symm⟩
theorem rough_sum : ∀ (a b : T) (d : Int), roughI d a = true → roughI d b = true → (sumI a b).2 = true → roughI d (sumI a b).1 = true
  | .mk n [], .mk m ls, d, ha, hb, hs => by
    rw [sum_l] at hs ⊢
    by_cases h : n = 0
    · rw [if_pos h]; exact hb
    · rw [if_neg h] at hs ⊢
      by_cases h2 : ls.length = 0 ∧ m = 0
      · rw [if_pos h2]; exact ha
      · rw [if_neg h2] at hs; cases hs
  | .mk n [a1, a2], .mk m [], d, ha, hb, hs => by
    rw [sum_r] at hs ⊢
    by_cases h : m = 0
    · rw [if_pos h]; exact ha
    · rw [if_neg h] at hs; cases hs
  | .mk n [a1, a2], .mk m [b1, b2], d, ha, hb, hs => by
    obtain ⟨_, x2, x3, x4⟩ := rough_kids ha
    obtain ⟨_, y2, y3, y4⟩ := rough_kids hb
    rw [sum_2] at hs ⊢
    split at hs
    · rename_i hc
      rw [if_pos hc]
      exact rough_short x2 (rough_sum a1 b1 _ x3 y3 hc.1) (rough_sum a2 b2 _ x4 y4 hc.2)
    · cases hs
  | .mk n [a], _, d, ha, _, _ => by simp [roughI] at ha
  | .mk n (a :: b :: c :: r), _, d, ha, _, _ => by simp [roughI] at ha
  | .mk n [a1, a2], .mk m [b], d, ha, hb, _ => by simp [roughI] at hb
  | .mk n [a1, a2], .mk m (a :: b :: c :: r), d, ha, hb, _ => by simp [roughI] at hb
theorem check_sum {a b : T} (ha : checkI a = true) (hb : checkI b = true) (hs : (sumI a b).2 = true) : checkI (sumI a b).1 = true :=
  check_of (rough_sum _ _ _ (check_rough ha) (check_rough hb) hs) (sum_norm _ _ (check_norm ha) (check_norm hb))
/-! ### who owns what -/
theorem leaf_01 : ∀ (t : T) (d : Int) (k : Nat) (p : Int), roughI d t = true → leafI t k p = 0 ∨ leafI t k p = 1
  | .mk n [], d, k, p, h => by simpa only [roughI, leafI, decide_eq_true_eq] using h
  | .mk n [a, b], d, k, p, h => by
    obtain ⟨_, _, h3, h4⟩ := rough_kids h
    rw [leafI]; split
    · exact leaf_01 a _ _ _ h3
    · exact leaf_01 b _ _ _ h4
  | .mk n [a], d, k, p, h => by simp [roughI] at h
  | .mk n (a :: b :: c :: r), d, k, p, h => by simp [roughI] at h
theorem leaf_two (n : Int) (a b : T) (k : Nat) (p : Int) : leafI (.mk n [a, b]) k p = if bitI p (k - 1) = 0 then leafI a (k - 1) p else leafI b (k - 1) p := rfl
theorem leaf_one (n : Int) (k : Nat) (p : Int) : leafI (.mk n []) k p = n := rfl
theorem leaf_short {l r : T} (k : Nat) (p : Int) : leafI (shortI l r) k p = if bitI p (k - 1) = 0 then leafI l (k - 1) p else leafI r (k - 1) p := by
  by_cases hc : isT l r.n ∧ r.ks.length = 0
  · rw [short_yes hc]
    obtain ⟨⟨h1, h2⟩, h3⟩ := hc
    rw [leaf_end h1, leaf_end h1, leaf_end h3, h2]; split <;> rfl
  · rw [short_no hc]; rfl
theorem leaf_sum : ∀ (a b : T) (k : Nat) (p : Int), binT a = true → binT b = true → (sumI a b).2 = true → leafI (sumI a b).1 k p = leafI a k p + leafI b k p
  | .mk n [], .mk m ls, k, p, ha, hb, hs => by
    rw [sum_l] at hs ⊢
    split
    · rename_i h; subst h; show leafI (.mk m ls) k p = _; rw [leaf_one]; omega
    · rename_i h; rw [if_neg h] at hs
      split
      · rename_i h2; show leafI (.mk n []) k p = _; rw [leaf_one, leaf_end (t := .mk m ls) h2.1, T.n_mk, h2.2]; omega
      · rename_i h2; rw [if_neg h2] at hs; cases hs
  | .mk n [a1, a2], .mk m [], k, p, ha, hb, hs => by
    rw [sum_r] at hs ⊢
    split
    · rename_i h; subst h; show leafI (.mk n [a1, a2]) k p = _; rw [leaf_one]; omega
    · rename_i h; rw [if_neg h] at hs; cases hs
  | .mk n [a1, a2], .mk m [b1, b2], k, p, ha, hb, hs => by
    have ha' := bin_kids ha
    have hb' := bin_kids hb
    rw [sum_2] at hs ⊢
    split at hs
    · rename_i hc
      rw [if_pos hc, leaf_short, leaf_two, leaf_two]
      split
      · exact leaf_sum a1 b1 _ _ ha'.1 hb'.1 hc.1
      · exact leaf_sum a2 b2 _ _ ha'.2 hb'.2 hc.2
    · cases hs
  | .mk n [a], _, k, p, ha, _, _ => by simp [binT] at ha
  | .mk n (a :: b :: c :: r), _, k, p, ha, _, _ => by simp [binT] at ha
  | .mk n [a1, a2], .mk m [b], k, p, ha, hb, _ => by simp [binT] at hb
  | .mk n [a1, a2], .mk m (a :: b :: c :: r), k, p, ha, hb, _ => by simp [binT] at hb
theorem owns_sum {a b : T} {p : Int} (ha : checkI a = true) (hb : checkI b = true) (hs : (sumI a b).2 = true) : (ownsP (sumI a b).1 p ↔ (ownsP a p ∨ ownsP b p)) ∧ ¬ (ownsP a p ∧ ownsP b p) := by
  have h1 := leaf_sum a b 16 p (check_bin ha) (check_bin hb) hs
  have h2 := leaf_01 a 16 16 p (check_rough ha)
  have h3 := leaf_01 b 16 16 p (check_rough hb)
  have h4 := leaf_01 _ 16 16 p (check_rough (check_sum ha hb hs))
  have h5 := check_sum ha hb hs
  simp only [ownsP, ha, hb, h5, true_and]
  omega
/-- along a path -/
def ownI : T → (Nat → Bool) → Prop
  | .mk n [], _ => n = 1
  | .mk _ [a, b], f => if f 0 = true then ownI b (fun i => f (i + 1)) else ownI a (fun i => f (i + 1))
  | _, _ => False
  termination_by structural t => t
def pathC (c : Bool) (f : Nat → Bool) : Nat → Bool
  | 0 => c
  | i + 1 => f i
theorem own_one (n : Int) (f : Nat → Bool) : ownI (.mk n []) f ↔ n = 1 := Iff.rfl
theorem own_two (n : Int) (a b : T) (f : Nat → Bool) : ownI (.mk n [a, b]) f ↔ if f 0 = true then ownI b (fun i => f (i + 1)) else ownI a (fun i => f (i + 1)) := Iff.rfl
theorem own_l (n : Int) (a b : T) (f : Nat → Bool) : ownI (.mk n [a, b]) (pathC false f) ↔ ownI a f := by rw [own_two, if_neg (by simp [pathC])]; rfl
theorem own_r (n : Int) (a b : T) (f : Nat → Bool) : ownI (.mk n [a, b]) (pathC true f) ↔ ownI b f := by rw [own_two, if_pos (show pathC true f 0 = true from rfl)]; rfl
theorem own_leaf {t : T} (h : t.ks.length = 0) (f : Nat → Bool) : ownI t f ↔ t.n = 1 := by
  match t, h with
  | .mk n [], _ => exact Iff.rfl
theorem own_short (l r : T) (f : Nat → Bool) : ownI (shortI l r) f ↔ if f 0 = true then ownI r (fun i => f (i + 1)) else ownI l (fun i => f (i + 1)) := by
  by_cases hc : isT l r.n ∧ r.ks.length = 0
  · rw [short_yes hc]
    obtain ⟨⟨h1, h2⟩, h3⟩ := hc
    rw [own_leaf h1, own_leaf h1, own_leaf h3, h2]; split <;> exact Iff.rfl
  · rw [short_no hc]; exact Iff.rfl
theorem own_some : ∀ t : T, validI t = true → normI t = t → ¬ isT t 0 → ∃ f, ownI t f
  | .mk n [], h, _, h0 => by
    simp only [validI, decide_eq_true_eq] at h
    simp only [isT, T.ks_mk, List.length_nil, T.n_mk, true_and] at h0
    exact ⟨fun _ => false, by rw [own_one]; omega⟩
  | .mk n [a, b], h, hn, h0 => by
    simp only [validI, Bool.and_eq_true, decide_eq_true_eq] at h
    obtain ⟨n1, n2, rfl, hs⟩ := norm_kids hn
    by_cases ha : isT a 0
    · by_cases hb : isT b 0
      · exfalso
        rw [short_yes ⟨⟨ha.1, by rw [ha.2, hb.2]⟩, hb.1⟩] at hs
        have := ha.1
        rw [hs] at this; simp at this
      · obtain ⟨f, hf⟩ := own_some b h.2 n2 hb
        exact ⟨pathC true f, (own_r _ _ _ _).2 hf⟩
    · obtain ⟨f, hf⟩ := own_some a h.1.2 n1 ha
      exact ⟨pathC false f, (own_l _ _ _ _).2 hf⟩
  | .mk n [a], h, _, _ => by simp [validI] at h
  | .mk n (a :: b :: c :: r), h, _, _ => by simp [validI] at h
theorem apart_iff : ∀ (a b : T), validI a = true → validI b = true → normI a = a → normI b = b → ((sumI a b).2 = true ↔ ∀ f, ¬ (ownI a f ∧ ownI b f))
  | .mk n [], .mk m ls, va, vb, na, nb => by
    rw [sum_l]
    simp only [validI, decide_eq_true_eq] at va
    by_cases h : n = 0
    · rw [if_pos h]
      refine ⟨fun _ f hf => ?_, fun _ => rfl⟩
      have := (own_one n f).1 hf.1; omega
    · rw [if_neg h]
      by_cases h2 : ls.length = 0 ∧ m = 0
      · rw [if_pos h2]
        refine ⟨fun _ f hf => ?_, fun _ => rfl⟩
        have := (own_leaf (t := .mk m ls) h2.1 f).1 hf.2
        rw [T.n_mk] at this; omega
      · rw [if_neg h2]
        refine ⟨fun h => (by cases h), fun hf => ?_⟩
        obtain ⟨f, h3⟩ := own_some (.mk m ls) vb nb h2
        exact absurd ⟨(own_one n f).2 (by omega), h3⟩ (hf f)
  | .mk n [a1, a2], .mk m [], va, vb, na, nb => by
    rw [sum_r]
    simp only [validI, decide_eq_true_eq] at vb
    by_cases h : m = 0
    · rw [if_pos h]
      refine ⟨fun _ f hf => ?_, fun _ => rfl⟩
      have := (own_one m f).1 hf.2; omega
    · rw [if_neg h]
      refine ⟨fun h => (by cases h), fun hf => ?_⟩
      obtain ⟨f, h3⟩ := own_some (.mk n [a1, a2]) va na (by simp [isT])
      exact absurd ⟨h3, (own_one m f).2 (by omega)⟩ (hf f)
  | .mk n [a1, a2], .mk m [b1, b2], va, vb, na, nb => by
    simp only [validI, Bool.and_eq_true, decide_eq_true_eq] at va vb
    obtain ⟨x1, x2, _⟩ := norm_kids na
    obtain ⟨y1, y2, _⟩ := norm_kids nb
    have i1 := apart_iff a1 b1 va.1.2 vb.1.2 x1 y1
    have i2 := apart_iff a2 b2 va.2 vb.2 x2 y2
    rw [sum_2]
    constructor
    · intro h f hf
      split at h
      · rename_i hc
        rw [own_two, own_two] at hf
        split at hf
        · exact i2.1 hc.2 _ hf
        · exact i1.1 hc.1 _ hf
      · cases h
    · intro h
      rw [if_pos ⟨i1.2 fun f hf => h (pathC false f) ⟨(own_l _ _ _ _).2 hf.1, (own_l _ _ _ _).2 hf.2⟩, i2.2 fun f hf => h (pathC true f) ⟨(own_r _ _ _ _).2 hf.1, (own_r _ _ _ _).2 hf.2⟩⟩]
  | .mk n [a], _, va, _, _, _ => by simp [validI] at va
  | .mk n (a :: b :: c :: r), _, va, _, _, _ => by simp [validI] at va
  | .mk n [a1, a2], .mk m [b], _, vb, _, _ => by simp [validI] at vb
  | .mk n [a1, a2], .mk m (a :: b :: c :: r), _, vb, _, _ => by simp [validI] at vb
theorem own_sum : ∀ (a b : T), binT a = true → binT b = true → (sumI a b).2 = true → ∀ f, ownI (sumI a b).1 f ↔ ownI a f ∨ ownI b f
  | .mk n [], .mk m ls, ha, hb, hs, f => by
    rw [sum_l] at hs ⊢
    split
    · rename_i h; subst h; rw [own_one]; simp
    · rename_i h; rw [if_neg h] at hs
      split
      · rename_i h2; rw [own_leaf (t := .mk m ls) h2.1, T.n_mk, h2.2]; simp
      · rename_i h2; rw [if_neg h2] at hs; cases hs
  | .mk n [a1, a2], .mk m [], ha, hb, hs, f => by
    rw [sum_r] at hs ⊢
    split
    · rename_i h; subst h; rw [own_one]; simp
    · rename_i h; rw [if_neg h] at hs; cases hs
  | .mk n [a1, a2], .mk m [b1, b2], ha, hb, hs, f => by
    have ha' := bin_kids ha
    have hb' := bin_kids hb
    rw [sum_2] at hs ⊢
    split at hs
    · rename_i hc
      rw [if_pos hc, own_short, own_two, own_two]
      split
      · exact own_sum a2 b2 ha'.2 hb'.2 hc.2 _
      · exact own_sum a1 b1 ha'.1 hb'.1 hc.1 _
    · cases hs
  | .mk n [a], _, ha, _, _, _ => by simp [binT] at ha
  | .mk n (a :: b :: c :: r), _, ha, _, _, _ => by simp [binT] at ha
  | .mk n [a1, a2], .mk m [b], ha, hb, _, _ => by simp [binT] at hb
  | .mk n [a1, a2], .mk m (a :: b :: c :: r), ha, hb, _, _ => by simp [binT] at hb
theorem check_valid {t : T} (h : checkI t = true) : validI t = true := ((rough_iff t 16 (by omega)).1 (check_rough h)).1
theorem apart_sum {a b c : T} (ha : checkI a = true) (hb : checkI b = true) (hc : checkI c = true) (hs : (sumI a b).2 = true) :
    ((sumI (sumI a b).1 c).2 = true ↔ (sumI a c).2 = true ∧ (sumI b c).2 = true) := by
  have h5 := check_sum ha hb hs
  rw [apart_iff _ _ (check_valid h5) (check_valid hc) (check_norm h5) (check_norm hc), apart_iff _ _ (check_valid ha) (check_valid hc) (check_norm ha) (check_norm hc), apart_iff _ _ (check_valid hb) (check_valid hc) (check_norm hb) (check_norm hc)]
  constructor
  · intro h
    exact ⟨fun f hf => h f ⟨(own_sum a b (check_bin ha) (check_bin hb) hs f).2 (.inl hf.1), hf.2⟩, fun f hf => h f ⟨(own_sum a b (check_bin ha) (check_bin hb) hs f).2 (.inr hf.1), hf.2⟩⟩
  · intro h f hf
    rcases (own_sum a b (check_bin ha) (check_bin hb) hs f).1 hf.1 with h1 | h1
    · exact h.1 f ⟨h1, hf.2⟩
    · exact h.2 f ⟨h1, hf.2⟩
/-! ### splits -/
end Go.Tr
