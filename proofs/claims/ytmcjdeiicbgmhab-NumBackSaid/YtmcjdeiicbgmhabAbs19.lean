/- Library: an abstract machine over the model, part 19. -/
import Derived.Test.YtmcjdeiicbgmhabAbs18
set_option linter.unusedVariables false
set_option linter.unusedSimpArgs false
namespace Go.Abs
open Go

mutual
/-- A row becomes data. -/
def AVal.frz (id : Nat) (r : Row) : AVal → AVal
  | .sc v => .sc v
  | .sl c n k => .sl c n k
  | .agg cs => .agg (frzAll id r cs)
  | .tup cs => .tup (frzAll id r cs)
  | .dptr cs => .dptr cs
  | .fn f cs => .fn f (frzAll id r cs)
  | .ifc t v => .ifc t (v.frz id r)
  | .ptr i o => if i = id then (if r.st = .fresh then .dptr (r.cells.drop o) else .undef) else .ptr i o
  | .row i o n => if i = id then .sl ((r.cells.drop o).take (n * r.esz)) n .any else .row i o n
  | .mp i => .mp i
  | .undef => .undef
def frzAll (id : Nat) (r : Row) : List AVal → List AVal
  | [] => []
  | x :: l => x.frz id r :: frzAll id r l
end
theorem frzAll_length (id : Nat) (r : Row) (l : List AVal) : (frzAll id r l).length = l.length := by
  induction l with
  | nil => rfl
  | cons x l ih => simp [frzAll, ih]
theorem frzAll_getD (id : Nat) (r : Row) (l : List AVal) (i : Nat) : (frzAll id r l).getD i .undef = (l.getD i .undef).frz id r := by
  induction l generalizing i with
  | nil => simp [frzAll, AVal.frz]
  | cons x l ih => cases i with
    | zero => simp [frzAll]
    | succ i => simpa [frzAll] using ih i
mutual
theorem AVal.frz_data (id : Nat) (r : Row) : ∀ x : AVal, x.data = true → x.frz id r = x
  | .sc _, _ => rfl
  | .sl _ _ _, _ => rfl
  | .agg cs, h => by simp [AVal.data] at h; simp [AVal.frz, frzAll_data id r cs h]
  | .tup cs, h => by simp [AVal.data] at h; simp [AVal.frz, frzAll_data id r cs h]
  | .dptr _, _ => rfl
  | .fn _ cs, h => by simp [AVal.data] at h; simp [AVal.frz, frzAll_data id r cs h]
  | .ifc _ v, h => by simp [AVal.data] at h; simp [AVal.frz, AVal.frz_data id r v h]
  | .ptr _ _, h => by simp [AVal.data] at h
  | .row _ _ _, h => by simp [AVal.data] at h
  | .mp _, h => by simp [AVal.data] at h
  | .undef, h => by simp [AVal.data] at h
theorem frzAll_data (id : Nat) (r : Row) : ∀ l : List AVal, dataAll l = true → frzAll id r l = l
  | [], _ => rfl
  | x :: l, h => by
    simp [dataAll] at h
    simp [frzAll, AVal.frz_data id r x h.1, frzAll_data id r l h.2]
end

theorem frz_cell {E : Env} (hE : Rel E) {id : Nat} {r : Row} (hr : E.rows[id]? = some r) (hs : r.st = .fresh) (hd : dataAll r.cells = true) {b : Nat} (hm : E.m id = some b) (j : Nat) (hj : j < r.cells.length) :
    let E' : Env := ⟨E.rows.set id { r with st := .frozen }, E.m, E.w, E.x⟩
    ∃ v, E'.w.cell? ⟨b, j, none⟩ = some v ∧ Imm E' b j ∧ V E' (r.cells.getD j .undef) v := by
  intro E'
  obtain ⟨k1, k2⟩ := freeze_step hE hr (.inl hs) hd
  have hnf : r.st ≠ .frozen := by simp [hs]
  obtain ⟨c, e, hbk, hbl, hbv⟩ := hE.block hr (.inl hs) hm
  refine ⟨_, cell_getD hbk (by omega), ⟨lt_of_heap hbk, hE.xr id r b hr hnf hm j, ?_⟩, k2.val _ _ (hbv j hj) (hbv j hj).refLt⟩
  intro i' s' hs' hns hmi
  rcases get_set_cases hs' with ⟨_, a2, _⟩ | ⟨a1, a2⟩
  · subst a2; exact absurd rfl hns
  · exact absurd (hE.inj i' id s' r b a2 hr hns hnf hmi hm) a1

theorem V.rowAt {E : Env} {id off n : Nat} {v : Value} {r : Row} (h : V E (.row id off n) v) (hr : E.rows[id]? = some r) (hs : r.st = .frozen) (hd : dataAll r.cells = true) :
    V E (.sl ((r.cells.drop off).take (n * r.esz)) n .any) v := by
  have hdd : dataAll ((r.cells.drop off).take (n * r.esz)) = true := by
    rw [dataAll_iff] at hd ⊢
    intro i hi
    rw [List.length_take, List.length_drop] at hi
    have hi := Nat.lt_min.mp hi
    have := hd (off + i) (by omega)
    simpa [List.getD_eq_getElem?_getD, List.getElem?_take, hi.1] using this
  generalize hx : AVal.row id off n = x at h
  cases h <;> simp at hx
  · rename_i r2 hr2 hs2 hm hn ho hc
    obtain ⟨rfl, rfl, rfl⟩ := hx
    rw [hr] at hr2; cases hr2; simp [hs] at hs2
  · rename_i r2 base hr2 hs2
    obtain ⟨rfl, rfl, rfl⟩ := hx
    simp only [Nat.zero_mul, List.take_zero]
    cases base with
    | none => exact .slnil _ (by simp)
    | some p => exact .sl [] 0 .any p.1 p.2 0 (fun _ => Go.undef) (.inl rfl) (Nat.le_refl _) rfl (fun i hi => by simp at hi) (fun i hi => by simp at hi)
  · rename_i b o cap r2 vs hr2 hs2 hn ho hd2 hv hm he
    obtain ⟨rfl, rfl, rfl⟩ := hx
    rw [hr] at hr2; cases hr2
    refine .sl _ _ .any b o cap vs (.inl rfl) hn hdd (fun i hi => ?_) (fun i hi => ?_)
    · rw [List.length_take, List.length_drop] at hi
      have hi := Nat.lt_min.mp hi
      have := hv i hi.1
      simpa [List.getD_eq_getElem?_getD, List.getElem?_take, hi.1] using this
    · rw [List.length_take, List.length_drop] at hi
      exact hm i (Nat.lt_min.mp hi).1

theorem V.frz {E : Env} (hE : Rel E) {id : Nat} {r : Row} (hr : E.rows[id]? = some r) (hs : r.st = .fresh ∨ r.st = .grown) (hd : dataAll r.cells = true) {x : AVal} {v : Value} (h : V E x v) :
    V ⟨E.rows.set id { r with st := .frozen }, E.m, E.w, E.x⟩ (x.frz id r) v := by
  obtain ⟨k1, k2⟩ := freeze_step hE hr hs hd
  have keep : ∀ x v, V E x v → V ⟨E.rows.set id { r with st := .frozen }, E.m, E.w, E.x⟩ x v := fun x v h => k2.val x v h h.refLt
  induction h with
  | undef v => exact .undef v
  | sc v h => exact .sc v h
  | slnil k hk => exact .slnil k hk
  | slz b o => exact .slz b o
  | sl cells n k b o cap vs hk hn hd hv hm ih => exact keep _ _ (.sl cells n k b o cap vs hk hn hd hv hm)
  | agg cells vs hl hv ih =>
    exact .agg _ vs (by rw [frzAll_length]; exact hl) fun i hi => by rw [frzAll_getD]; exact ih i (by rwa [frzAll_length] at hi)
  | tup cells vs hl hv ih =>
    exact .tup _ vs (by rw [frzAll_length]; exact hl) fun i hi => by rw [frzAll_getD]; exact ih i (by rwa [frzAll_length] at hi)
  | ptr i off r1 b hr1 hs1 hm =>
    simp only [AVal.frz]
    split
    · rename_i he; subst he
      rw [hr] at hr1; cases hr1
      rw [if_pos hs1]
      have hc := fun j hj => frz_cell hE hr hs1 hd hm j hj
      refine .dptr _ b off (fun j => ((E.w.cell? ⟨b, off + j, none⟩).getD Go.undef)) ?_ (fun j hj => ?_) (fun j hj => ?_)
      · rw [dataAll_iff] at hd ⊢
        intro j hj
        simp at hj
        simpa [List.getD_eq_getElem?_getD] using hd (off + j) (by omega)
      · simp at hj
        obtain ⟨v, h1, h2, h3⟩ := hc (off + j) (by omega)
        simp at h1
        simpa [List.getD_eq_getElem?_getD, h1] using h3
      · simp at hj
        obtain ⟨v, h1, h2, h3⟩ := hc (off + j) (by omega)
        simp at h1
        exact ⟨by simp [h1], h2⟩
    · exact keep _ _ (.ptr i off r1 b hr1 hs1 hm)
  | ptrLost i off r1 v hr1 hs1 =>
    simp only [AVal.frz]
    split
    · rename_i he; subst he
      rw [hr] at hr1; cases hr1
      rw [if_neg hs1]; exact .undef _
    · exact keep _ _ (.ptrLost i off r1 v hr1 hs1)
  | dptr cells b o vs hd hv hm ih => exact keep _ _ (.dptr cells b o vs hd hv hm)
  | rowF i off n b cap r1 hr1 hs1 hm hn ho hc =>
    have h0 := V.rowF (E := E) i off n b cap r1 hr1 hs1 hm hn ho hc
    simp only [AVal.frz]
    split
    · rename_i he; subst he
      exact V.rowAt (r := { r with st := .frozen }) (keep _ _ h0) (get_set_same hr) rfl hd
    · exact keep _ _ h0
  | rowV i r1 base hr1 hs1 =>
    have h0 := V.rowV (E := E) i r1 base hr1 hs1
    simp only [AVal.frz]
    split
    · rename_i he; subst he
      exact V.rowAt (r := { r with st := .frozen }) (keep _ _ h0) (get_set_same hr) rfl hd
    · exact keep _ _ h0
  | rowG i off n b o cap r1 vs hr1 hs1 hn ho hd1 hv hm he ih =>
    have h0 := V.rowG (E := E) i off n b o cap r1 vs hr1 hs1 hn ho hd1 hv hm he
    simp only [AVal.frz]
    split
    · rename_i he; subst he
      exact V.rowAt (r := { r with st := .frozen }) (keep _ _ h0) (get_set_same hr) rfl hd
    · exact keep _ _ h0
  | fn f cap vs hl hv ih =>
    exact .fn f _ vs (by rw [frzAll_length]; exact hl) fun i hi => by rw [frzAll_getD]; exact ih i (by rwa [frzAll_length] at hi)
  | ifc t x v h ih => exact .ifc t _ v ih
  | mp i r1 b hr1 hs1 hm => exact keep _ _ (.mp i r1 b hr1 hs1 hm)

/-- What all the other rows become. -/
def frzRow (id : Nat) (r : Row) (s : Row) : Row := match s.st with
  | .frozen => s
  | .grown => s
  | .fresh => { s with cells := frzAll id r s.cells }
  | .map => { s with cells := frzAll id r s.cells }
def frzRows (id : Nat) (r : Row) (rows : List Row) : List Row := (rows.set id { r with st := .frozen }).map (frzRow id r)
theorem frzRow_st (id : Nat) (r s : Row) : (frzRow id r s).st = s.st ∧ (frzRow id r s).esz = s.esz ∧ (frzRow id r s).cells.length = s.cells.length := by
  unfold frzRow; split <;> simp [frzAll_length]

theorem frz_step {E : Env} (hE : Rel E) {id : Nat} {r : Row} (hr : E.rows[id]? = some r) (hs : r.st = .fresh ∨ r.st = .grown) (hd : dataAll r.cells = true) :
    let E' : Env := ⟨frzRows id r E.rows, E.m, E.w, E.x⟩
    Rel E' ∧ Evo E.rows.length E E' ∧ ∀ x v, V E x v → V E' (x.frz id r) v := by
  intro E'
  let E1 : Env := ⟨E.rows.set id { r with st := .frozen }, E.m, E.w, E.x⟩
  obtain ⟨k1, k2⟩ := freeze_step hE hr hs hd
  have hf : ∀ x v, V E x v → V E1 (x.frz id r) v := fun x v h => V.frz hE hr hs hd h
  have hget : ∀ (i : Nat) (s' : Row), E'.rows[i]? = some s' → ∃ s : Row, E1.rows[i]? = some s ∧ s' = frzRow id r s := by
    intro i s' h
    simp only [E', frzRows, List.getElem?_map] at h
    cases h1 : (E.rows.set id { r with st := .frozen })[i]? with
    | none => simp [h1] at h
    | some s => simp [h1] at h; exact ⟨s, rfl, h.symm⟩
  have hget' : ∀ (i : Nat) (s : Row), E1.rows[i]? = some s → E'.rows[i]? = some (frzRow id r s) := by
    intro i s h
    simp only [E', frzRows, List.getElem?_map]
    simp only [E1] at h
    rw [h]; rfl
  have hI : ∀ b o v, Imm E1 b o → E1.w.cell? ⟨b, o, none⟩ = some v → Imm E' b o ∧ E'.w.cell? ⟨b, o, none⟩ = some v := by
    intro b o v h hc
    refine ⟨⟨h.1, h.2.1, ?_⟩, hc⟩
    intro i s hs1 hns hm
    obtain ⟨s0, h1, rfl⟩ := hget i s hs1
    have := h.2.2 i s0 h1 (by rwa [(frzRow_st id r s0).1] at hns) hm
    rw [(frzRow_st id r s0).1, (frzRow_st id r s0).2.2]; exact this
  have hV : ∀ x v, V E1 x v → V E' x v := fun x v h => by
    refine V.mono (N := E1.rows.length) hI (fun i s _ hs1 => ⟨_, hget' i s hs1, ?_⟩) h h.refLt
    obtain ⟨a1, a2, a3⟩ := frzRow_st id r s
    cases hst : s.st with
    | fresh => exact .fresh hst (by rw [a1, hst]) a2 rfl a3 (fun _ _ _ h => h)
    | grown =>
      have e : frzRow id r s = s := by unfold frzRow; rw [hst]
      rw [e]; exact .grown hst (.inl hst) rfl ⟨[], by simp⟩ (fun _ _ => ⟨rfl, fun _ _ _ h => h⟩)
    | frozen =>
      have e : frzRow id r s = s := by unfold frzRow; rw [hst]
      rw [e]; exact .frozen hst hst rfl rfl
    | map => exact .map hst (by rw [a1, hst]) rfl
  have hfE : ∀ x v, V E x v → V E' (x.frz id r) v := fun x v h => hV _ _ (hf x v h)
  -- the row ahead of both
  have hcells : ∀ (i : Nat) (s : Row), E1.rows[i]? = some s → s.st ≠ .frozen → ∃ s0, E.rows[i]? = some s0 ∧ s0.st = s.st ∧ s0.cells = s.cells := by
    intro i s h hns
    rcases get_set_cases h with ⟨_, a2, _⟩ | ⟨_, a2⟩
    · subst a2; exact absurd rfl hns
    · exact ⟨s, a2, rfl, rfl⟩
  refine ⟨⟨k1.xlt, ?_, ?_, ?_, ?_, ?_⟩, k2.trans ⟨fun x v h _ => hV x v h, Nat.le_refl _, ?_, rfl, rfl, rfl⟩, hfE⟩
  · intro i s b h1 hns hmi o hx
    obtain ⟨s0, h2, rfl⟩ := hget i s h1
    exact k1.xr i s0 b h2 (by rwa [(frzRow_st id r s0).1] at hns) hmi o hx
  · intro i j s t b h1 h2 hn1 hn2 hi hj
    obtain ⟨s0, g1, rfl⟩ := hget i s h1
    obtain ⟨t0, g2, rfl⟩ := hget j t h2
    exact k1.inj i j s0 t0 b g1 g2 (by rwa [(frzRow_st id r s0).1] at hn1) (by rwa [(frzRow_st id r t0).1] at hn2) hi hj
  · intro i s h1 hns hnm
    obtain ⟨s0, g1, rfl⟩ := hget i s h1
    obtain ⟨a1, a2, a3⟩ := frzRow_st id r s0
    rw [a1] at hns hnm
    obtain ⟨e0, g2, g3, g4⟩ := hcells i s0 g1 hns
    rcases hE.own i e0 g2 (by rwa [g3]) (by rwa [g3]) with ⟨h, h'⟩ | ⟨b, c', e', h1, h2, h3, h4⟩
    · refine .inl ⟨h, List.eq_nil_of_length_eq_zero ?_⟩
      rw [a3, ← g4, h']; rfl
    · refine .inr ⟨b, c', e', h1, h2, by rw [a3, ← g4]; exact h3, fun j hj => ?_⟩
      rw [a3, ← g4] at hj
      have := h4 j hj
      rw [g4] at this
      have h5 := hfE _ _ this
      have h6 := hV _ _ (k2.val _ _ this this.refLt)
      unfold frzRow
      split
      · exact h6
      · exact h6
      · rw [frzAll_getD]; exact h5
      · rw [frzAll_getD]; exact h5
  · intro i s h1 hg
    obtain ⟨s0, g1, rfl⟩ := hget i s h1
    rw [(frzRow_st id r s0).1] at hg
    have e : frzRow id r s0 = s0 := by unfold frzRow; rw [hg]
    rw [e]; exact k1.grown i s0 g1 hg
  · intro i s h1 hg
    obtain ⟨s0, g1, rfl⟩ := hget i s h1
    obtain ⟨a1, a2, a3⟩ := frzRow_st id r s0
    rw [a1] at hg
    obtain ⟨e0, g2, g3, g4⟩ := hcells i s0 g1 (by rw [hg]; simp)
    obtain ⟨b, es, k, h1, h2, h3, h4⟩ := hE.map i e0 g2 (by rw [g3, hg])
    refine ⟨b, es, k, h1, h2, by rw [a3, ← g4]; exact h3, fun j hj => ?_⟩
    have e : (frzRow id r s0).cells = frzAll id r s0.cells := by unfold frzRow; rw [hg]
    rw [e, frzAll_getD, frzAll_getD, ← g4]
    exact ⟨hfE _ _ (h4 j hj).1, hfE _ _ (h4 j hj).2⟩
  · intro b hb hfree
    refine ⟨rfl, fun i s h1 hns hmi => ?_⟩
    obtain ⟨s0, g1, rfl⟩ := hget i s h1
    exact hfree i s0 g1 (by rwa [(frzRow_st id r s0).1] at hns) hmi

theorem Shrink.frz {N : Nat} {rows : List Row} {x : AVal} {id : Nat} {r : Row} (hr : rows[id]? = some r) (hs : r.st = .fresh ∨ r.st = .grown) (hd : dataAll r.cells = true) :
    Shrink N rows x (frzRows id r rows) (x.frz id r) := by
  intro X m w v h1 h2 hN
  obtain ⟨a1, a2, a3⟩ := frz_step (E := ⟨rows, m, w, X⟩) h1 hr hs hd
  exact ⟨m, a1, a3 _ _ h2, by simpa [frzRows] using hN, a2.mono hN⟩

/-- All rows that are new, that may, and that are data, one by one. -/
def frzB (N : Nat) : List Nat → List Row → AVal → Option (List Row × AVal)
  | [], rows, x => some (rows, x)
  | id :: l, rows, x => match rows[id]? with
    | some r => if (r.st = .fresh ∨ r.st = .grown) ∧ dataAll r.cells = true then frzB N l (frzRows id r rows) (x.frz id r) else none
    | none => none
theorem frzB_spec {N : Nat} : ∀ {l : List Nat} {rows rows' : List Row} {x x' : AVal}, frzB N l rows x = some (rows', x') → Shrink N rows x rows' x'
  | [], rows, rows', x, x', h => by simp [frzB] at h; obtain ⟨rfl, rfl⟩ := h; exact Shrink.refl _ _ _
  | id :: l, rows, rows', x, x', h => by
    simp only [frzB] at h
    split at h
    · rename_i r hr
      split at h
      · rename_i hc
        exact (Shrink.frz hr hc.1 hc.2).trans (frzB_spec h)
      · simp at h
    · simp at h
/-- New rows that the result needs become data; all the others go. -/
theorem Shrink.data {rows : List Row} {r1 r : AVal} (l : List Nat) (h : (frzB 0 l rows r1).map (·.2) = some r) (hd : r.data = true) : Shrink 0 rows r1 [] r := by
  cases h2 : frzB 0 l rows r1 with
  | none => simp [h2] at h
  | some p => simp [h2] at h; subst h; exact (frzB_spec (rows' := p.1) (x' := p.2) (by rw [h2])).trans (Shrink.all rfl hd)
/-- The rows of the caller stay. -/
theorem Shrink.dataN {N : Nat} {rows rows' ext : List Row} {r1 r : AVal} (l : List Nat) (h : frzB N l rows r1 = some (rows' ++ ext, r)) (hN : N ≤ rows'.length) (hwf : WfRows rows'.length rows') (hr : r.refLt rows'.length = true) : Shrink N rows r1 rows' r :=
  (frzB_spec h).trans (Shrink.drop hN hwf hr)
end Go.Abs
