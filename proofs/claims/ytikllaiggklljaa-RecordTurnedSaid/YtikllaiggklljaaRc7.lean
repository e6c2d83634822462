/- Walks and laws. -/
import Derived.Test.YtikllaiggklljaaRc6
set_option linter.unusedSimpArgs false
set_option linter.unusedVariables false
namespace Go.Rec
open Go Go.Abs Go.Crc Go.Chu
/-! Records: the plain law. -/
def sh (p : Nat) (q : Nat × List Int) : Nat × List Int := (p + q.1, q.2)
theorem scanF_shift (p : Nat) (b : List Int) : ∀ (k q : Nat), scanF k b (p + q) = (scanF k (b.drop p) q).map (sh p)
  | 0, q => rfl
  | k + 1, q => by
    have e : (b.drop p).drop q = b.drop (p + q) := List.drop_drop
    cases h : bodyP (b.drop (p + q)) with
    | none => rw [scanF_none h, scanF_none (by rw [e]; exact h)]; rfl
    | some x =>
      rw [scanF_some h, scanF_some (b := b.drop p) (p := q) (by rw [e]; exact h), List.map_cons, show p + q + 8 + x.length = p + (q + 8 + x.length) by omega, scanF_shift p b k]; rfl
theorem scanF_fuel (b : List Int) : ∀ (k k' p : Nat), b.length < p + k → b.length < p + k' → p ≤ b.length → scanF k b p = scanF k' b p
  | 0, k', p, h, h', hp => by omega
  | k + 1, 0, p, h, h', hp => by omega
  | k + 1, k' + 1, p, h, h', hp => by
    cases hb : bodyP (b.drop p) with
    | none => rw [scanF_none hb, scanF_none hb]
    | some x =>
      have hl := bodyP_len hb
      rw [List.length_drop] at hl
      rw [scanF_some hb, scanF_some hb, scanF_fuel b k k' _ (by omega) (by omega) (by omega)]
theorem hd4_len (n : Nat) : (hd4 n).length = 4 := rfl
theorem be_hd4 (n : Nat) (h : n ≤ 60000) : be (hd4 n) = n := by
  have f1 : Int.fdiv (n : Int) 16777216 = ((n / 16777216 : Nat) : Int) := by rw [Int.fdiv_eq_ediv_of_nonneg _ (by omega)]; rfl
  have f2 : Int.fdiv (n : Int) 65536 = ((n / 65536 : Nat) : Int) := by rw [Int.fdiv_eq_ediv_of_nonneg _ (by omega)]; rfl
  have f3 : Int.fdiv (n : Int) 256 = ((n / 256 : Nat) : Int) := by rw [Int.fdiv_eq_ediv_of_nonneg _ (by omega)]; rfl
  simp only [hd4, be, List.foldl, b8, f1, f2, f3, IntKind.wrap_u8]
  omega
/-- A record, of which what is behind the head may be any bytes. -/
theorem bodyP_head (n : Nat) (s rest : List Int) (h : n ≤ 60000) (hs : s.length = n + 4) : bodyP (hd4 n ++ (s ++ rest)) = opn s := by
  have e1 : (hd4 n ++ (s ++ rest)).take 4 = hd4 n := by rw [List.take_append_of_le_length (by simp [hd4_len])]; exact List.take_of_length_le (by simp [hd4_len])
  have e2 : (hd4 n ++ (s ++ rest)).drop 4 = s ++ rest := by
    rw [List.drop_append_of_le_length (by simp [hd4_len]), List.drop_of_length_le (by simp [hd4_len]), List.nil_append]
  have hl : (hd4 n ++ (s ++ rest)).length = 4 + (n + 4 + rest.length) := by simp [hd4_len, hs]
  rw [bodyP_open _ (by omega) (by rw [e1, be_hd4 n h]; omega) (by rw [e1, be_hd4 n h, hl]; omega), e1, e2, be_hd4 n h]
  congr 1
  rw [show ((n : Int)).toNat + 4 = s.length by omega]
  simp
theorem bodyP_cut (n : Nat) (r : List Int) (h : n ≤ 60000) (hr : r.length < n + 4) (c : Nat) : bodyP ((hd4 n ++ r).take c) = none := by
  have hl : ((hd4 n ++ r).take c).length ≤ 4 + r.length := by simp [hd4_len]; omega
  by_cases h8 : ((hd4 n ++ r).take c).length < 8
  · exact bodyP_short _ h8
  · have hc : 8 ≤ c := by simp at h8; omega
    have e1 : ((hd4 n ++ r).take c).take 4 = hd4 n := by
      rw [List.take_take, show min 4 c = 4 by omega, List.take_append_of_le_length (by simp [hd4_len])]; exact List.take_of_length_le (by simp [hd4_len])
    exact bodyP_big _ h8 (by rw [e1, be_hd4 n h]; omega)
theorem recd_eq2 (x : List Int) : recd x = hd4 x.length ++ (x ++ laid (sum x)) := rfl
theorem bodyP_recd (x rest : List Int) (h : x.length ≤ 60000) : bodyP (recd x ++ rest) = some x := by
  rw [recd_eq2, List.append_assoc, bodyP_head _ _ _ h (by simp [laid]), opn_seal]
theorem recs_recd (x rest : List Int) (h : x.length ≤ 60000) : recs (recd x ++ rest) = (8 + x.length, x) :: (recs rest).map (sh (8 + x.length)) := by
  have hb : bodyP ((recd x ++ rest).drop 0) = some x := bodyP_recd x rest h
  have hd : (recd x ++ rest).drop (8 + x.length) = rest := by
    have : (recd x).length = 8 + x.length := by rw [recd_len]; omega
    rw [List.drop_append_of_le_length (by omega), List.drop_of_length_le (by omega), List.nil_append]
  have hl : (recd x ++ rest).length = x.length + 8 + rest.length := by rw [List.length_append, recd_len]
  unfold recs
  rw [scanF_some hb, show 0 + 8 + x.length = (8 + x.length) + 0 by omega, scanF_shift, hd, scanF_fuel rest _ (rest.length + 1) 0 (by omega) (by omega) (by omega)]
  rfl
theorem recs_none (b : List Int) (h : bodyP b = none) : recs b = [] := scanF_none (k := b.length) (p := 0) h
/-- What is found, and up to where. -/
def fnd (b : List Int) : List (List Int) := (recs b).map (·.2)
def ato (b : List Int) : Nat := endof (recs b)
theorem fnd_none (b : List Int) (h : bodyP b = none) : fnd b = [] := by simp [fnd, recs_none b h]
theorem ato_none (b : List Int) (h : bodyP b = none) : ato b = 0 := by simp [ato, recs_none b h, endof]
theorem fnd_recd (x rest : List Int) (h : x.length ≤ 60000) : fnd (recd x ++ rest) = x :: fnd rest := by
  simp only [fnd, recs_recd x rest h, List.map_cons, List.map_map, List.cons.injEq, true_and]
  rfl
theorem endof_sh (p : Nat) (x : List Int) (t : List (Nat × List Int)) : endof ((p, x) :: t.map (sh p)) = p + endof t := by
  rcases List.eq_nil_or_concat t with rfl | ⟨t', y, rfl⟩
  · simp [endof]
  · rw [List.concat_eq_append, List.map_append, ← List.cons_append]
    show endof (((p, x) :: List.map (sh p) t') ++ [sh p y]) = _
    rw [endof_snoc, endof_snoc]; rfl
theorem ato_recd (x rest : List Int) (h : x.length ≤ 60000) : ato (recd x ++ rest) = 8 + x.length + ato rest := by
  simp only [ato, recs_recd x rest h, endof_sh]
theorem fnd_lay (rest : List Int) : ∀ l : List (List Int), (∀ x ∈ l, x.length ≤ 60000) → fnd (lay l ++ rest) = l ++ fnd rest
  | [], _ => rfl
  | x :: l, h => by
    have e : lay (x :: l) ++ rest = recd x ++ (lay l ++ rest) := by simp [lay]
    rw [e, fnd_recd x _ (h x (by simp)), fnd_lay rest l (fun y hy => h y (by simp [hy]))]; rfl
theorem ato_lay (rest : List Int) : ∀ l : List (List Int), (∀ x ∈ l, x.length ≤ 60000) → ato (lay l ++ rest) = (lay l).length + ato rest
  | [], _ => by simp [lay]
  | x :: l, h => by
    have e : lay (x :: l) ++ rest = recd x ++ (lay l ++ rest) := by simp [lay]
    have e2 : (lay (x :: l)).length = (recd x).length + (lay l).length := by simp [lay]
    rw [e, ato_recd x _ (h x (by simp)), ato_lay rest l (fun y hy => h y (by simp [hy])), e2, recd_len]; omega
theorem few_len {l : List (List Int)} (h : fewP l) : ∀ x ∈ l, x.length ≤ 60000 := by
  intro x hx
  obtain ⟨i, hi, rfl⟩ := List.getElem_of_mem hx
  have := get_le l i
  rw [List.getD_eq_getElem?_getD, List.getElem?_eq_getElem hi] at this
  have h2 := h.2
  simp only [Option.getD_some] at this; omega
/-- Cut anywhere. -/
theorem lay_take_drop (l : List (List Int)) (w : Nat) : lay l = lay (l.take w) ++ lay (l.drop w) := by rw [← lay_app, List.take_append_drop]
theorem take_cut (a s : List Int) (c : Nat) : (a ++ s).take c = (a ++ s.take (c - a.length)).take c := by
  rw [List.take_append, List.take_append, List.take_take, Nat.min_self]
theorem cut_none (l : List (List Int)) (h : ∀ x ∈ l, x.length ≤ 60000) (c w : Nat) (hw : w ≤ l.length) (h1 : w < l.length → c < (lay (l.take (w + 1))).length) (h0 : (lay (l.take w)).length ≤ c) (hc : c ≤ (lay l).length) :
    ∃ r, (lay l).take c = lay (l.take w) ++ r ∧ bodyP r = none := by
  refine ⟨(lay (l.drop w)).take (c - (lay (l.take w)).length), ?_, ?_⟩
  · conv => lhs; rw [lay_take_drop l w]
    rw [List.take_append, List.take_of_length_le h0]
  · rcases Nat.lt_or_ge w l.length with hw' | hw'
    · have hd : l.drop w = l.getD w [] :: l.drop (w + 1) := by
        rw [List.drop_eq_getElem_cons hw', List.getD_eq_getElem?_getD, List.getElem?_eq_getElem hw']; rfl
      have hlt := h1 hw'
      rw [← lay_snoc l w hw', List.length_append, recd_len] at hlt
      have e : lay (l.drop w) = recd (l.getD w []) ++ lay (l.drop (w + 1)) := by rw [hd]; simp [lay]
      have hx : (l.getD w []).length ≤ 60000 := by
        rw [List.getD_eq_getElem?_getD, List.getElem?_eq_getElem hw']; exact h _ (List.getElem_mem hw')
      rw [e, List.take_append_of_le_length (by rw [recd_len]; omega), recd_eq2]
      generalize hcc : c - (lay (l.take w)).length = cc
      have hcl : cc < (l.getD w []).length + 8 := by omega
      rcases Nat.lt_or_ge cc 8 with h8 | h8
      · exact bodyP_short _ (by simp; omega)
      · rw [take_cut, hd4_len]
        exact bodyP_cut _ _ hx (by rw [List.length_take]; omega) cc
    · have : l.drop w = [] := List.drop_of_length_le hw'
      rw [this]
      exact bodyP_short _ (by simp [lay])
theorem cut_fnd (l : List (List Int)) (hf : fewP l) (c w : Nat) (hw : w ≤ l.length) (h1 : w < l.length → c < (lay (l.take (w + 1))).length) (h0 : (lay (l.take w)).length ≤ c) (hc : c ≤ (lay l).length) :
    fnd ((lay l).take c) = l.take w ∧ ato ((lay l).take c) = (lay (l.take w)).length := by
  have h := few_len hf
  obtain ⟨r, e, hr⟩ := cut_none l h c w hw h1 h0 hc
  have h' : ∀ x ∈ l.take w, x.length ≤ 60000 := fun x hx => h x (List.mem_of_mem_take hx)
  rw [e, fnd_lay r _ h', ato_lay r _ h', fnd_none r hr, ato_none r hr, List.append_nil, Nat.add_zero]
  exact ⟨rfl, rfl⟩
/-- One byte turned. -/
theorem turned_fnd (l : List (List Int)) (hf : fewP l) (hb : ∀ x ∈ l, Bts x) (k o : Nat) (v : Int) (hk : k < l.length) (ho : o < (l.getD k []).length + 4) (hv : 0 ≤ v ∧ v < 256) (hne : v ≠ (lay l).getD ((lay (l.take k)).length + 4 + o) 0) :
    fnd ((lay l).set ((lay (l.take k)).length + 4 + o) v) = l.take k ∧ ato ((lay l).set ((lay (l.take k)).length + 4 + o) v) = (lay (l.take k)).length := by
  have h := few_len hf
  have hd : l.drop k = l.getD k [] :: l.drop (k + 1) := by
    rw [List.drop_eq_getElem_cons hk, List.getD_eq_getElem?_getD, List.getElem?_eq_getElem hk]; rfl
  have hx : (l.getD k []).length ≤ 60000 := by
    rw [List.getD_eq_getElem?_getD, List.getElem?_eq_getElem hk]; exact h _ (List.getElem_mem hk)
  have hbx : Bts (l.getD k []) := BB.get hb k
  generalize hX : l.getD k [] = x at *
  have e : lay l = lay (l.take k) ++ (hd4 x.length ++ ((x ++ laid (sum x)) ++ lay (l.drop (k + 1)))) := by
    conv => lhs; rw [lay_take_drop l k, hd]
    have : lay (x :: l.drop (k + 1)) = recd x ++ lay (l.drop (k + 1)) := by simp [lay]
    rw [this, recd_eq2, List.append_assoc, List.append_assoc]
  have hsl : (x ++ laid (sum x)).length = x.length + 4 := by simp [laid]
  have es : (lay l).set ((lay (l.take k)).length + 4 + o) v = lay (l.take k) ++ (hd4 x.length ++ ((x ++ laid (sum x)).set o v ++ lay (l.drop (k + 1)))) := by
    rw [e, List.set_append_right _ _ (by omega), show (lay (l.take k)).length + 4 + o - (lay (l.take k)).length = 4 + o by omega, List.set_append_right _ _ (by rw [hd4_len]; omega), hd4_len, show 4 + o - 4 = o by omega, List.set_append_left _ _ (by omega)]
  have eg : (lay l).getD ((lay (l.take k)).length + 4 + o) 0 = (x ++ laid (sum x)).getD o 0 := by
    rw [e]
    simp only [List.getD_eq_getElem?_getD]
    rw [List.getElem?_append_right (by omega), show (lay (l.take k)).length + 4 + o - (lay (l.take k)).length = 4 + o by omega, List.getElem?_append_right (by rw [hd4_len]; omega), hd4_len, show 4 + o - 4 = o by omega, List.getElem?_append_left (by omega)]
  rw [eg] at hne
  have hnone : bodyP (hd4 x.length ++ ((x ++ laid (sum x)).set o v ++ lay (l.drop (k + 1)))) = none := by
    rw [bodyP_head _ _ _ hx (by rw [List.length_set, hsl])]
    exact turned x o v (by omega) hbx hv hne
  have h' : ∀ y ∈ l.take k, y.length ≤ 60000 := fun y hy => h y (List.mem_of_mem_take hy)
  rw [es, fnd_lay _ _ h', ato_lay _ _ h', fnd_none _ hnone, ato_none _ hnone, List.append_nil, Nat.add_zero]
  exact ⟨rfl, rfl⟩
end Go.Rec
