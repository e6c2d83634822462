/- Library: an abstract machine over the model, part 25. -/
import Derived.Test.YtmcjdeiicbgmhabAbs24
set_option linter.unusedVariables false
set_option linter.unusedSimpArgs false
namespace Go.Abs
open Go

def flat1 : AVal → Bool
  | .sc _ => true
  | .undef => true
  | _ => false
/-- Numbers, bools, strings, and those side by side. -/
def flat : AVal → Bool
  | .sc _ => true
  | .undef => true
  | .tup l => l.all flat1
  | .agg l => l.all flat1
  | _ => false
theorem V.flat1 {E E' : Env} {x : AVal} {v : Value} (h : V E x v) (hf : flat1 x = true) : V E' x v := by
  cases h with
  | undef v => exact .undef v
  | sc v h => exact .sc v h
  | _ => simp [Abs.flat1] at hf
theorem V.flat {E E' : Env} {x : AVal} {v : Value} (h : V E x v) (hf : flat x = true) : V E' x v := by
  cases h with
  | undef v => exact .undef v
  | sc v h => exact .sc v h
  | tup cells vs hl hv =>
    refine .tup cells vs hl fun i hi => (hv i hi).flat1 ?_
    simp only [Abs.flat, List.all_eq_true] at hf
    have : cells.getD i .undef = cells[i] := by simp [List.getD_eq_getElem?_getD, hi]
    rw [this]; exact hf _ (List.getElem_mem hi)
  | agg cells vs hl hv =>
    refine .agg cells vs hl fun i hi => (hv i hi).flat1 ?_
    simp only [Abs.flat, List.all_eq_true] at hf
    have : cells.getD i .undef = cells[i] := by simp [List.getD_eq_getElem?_getD, hi]
    rw [this]; exact hf _ (List.getElem_mem hi)
  | _ => simp [Abs.flat] at hf

/-- What stands in a row, for one who only reads. -/
def snapA (rows : List Row) : AVal → Prop × AVal
  | .row id off n => match rows[id]? with
    | some r => (dataAll r.cells = true, .sl ((r.cells.drop off).take (n * r.esz)) n .any)
    | none => (False, .undef)
  | .ptr id off => match rows[id]? with
    | some r => (dataAll r.cells = true ∧ r.st = .fresh, .dptr (r.cells.drop off))
    | none => (False, .undef)
  | x => (x.data = true, x.anyA)
def snapL (rows : List Row) : List AVal → Prop × List AVal
  | [] => (True, [])
  | x :: l => ((snapA rows x).1 ∧ (snapL rows l).1, (snapA rows x).2 :: (snapL rows l).2)

theorem dataAll_drop {l : List AVal} (k : Nat) (h : dataAll l = true) : dataAll (l.drop k) = true := by
  rw [dataAll_iff] at h ⊢
  intro i hi
  simp at hi
  simpa [List.getD_eq_getElem?_getD] using h (k + i) (by omega)
theorem dataAll_take {l : List AVal} (k : Nat) (h : dataAll l = true) : dataAll (l.take k) = true := by
  rw [dataAll_iff] at h ⊢
  intro i hi
  rw [List.length_take] at hi
  have hi := Nat.lt_min.mp hi
  simpa [List.getD_eq_getElem?_getD, List.getElem?_take, hi.1] using h i hi.2

theorem V.snap {rows : List Row} {m : Nat → Option Nat} {w : World} {X : Nat → Nat → Prop} (hrel : Rel ⟨rows, m, w, X⟩) {x : AVal} {v : Value} (h : V ⟨rows, m, w, X⟩ x v) (hc : (snapA rows x).1) :
    V ⟨[], m, w, X⟩ (snapA rows x).2 v := by
  have hI : ∀ b o v, Imm ⟨rows, m, w, X⟩ b o → w.cell? ⟨b, o, none⟩ = some v → Imm ⟨[], m, w, X⟩ b o ∧ w.cell? ⟨b, o, none⟩ = some v :=
    fun b o v hi hcc => ⟨⟨hi.1, hi.2.1, fun i r hr => by simp at hr⟩, hcc⟩
  have hD : ∀ y u, V ⟨rows, m, w, X⟩ y u → y.data = true → V ⟨[], m, w, X⟩ y u := fun y u hy hd =>
    V.mono (N := 0) hI (fun i r h _ => absurd h (by omega)) hy (AVal.lt_of_data 0 _ hd)
  have hG : ∀ (l : List AVal) (off n i : Nat), i < ((l.drop off).take n).length → i < n ∧ off + i < l.length ∧ ((l.drop off).take n).getD i .undef = l.getD (off + i) .undef := by
    intro l off n i hi
    rw [List.length_take, List.length_drop] at hi
    have hi := Nat.lt_min.mp hi
    exact ⟨hi.1, by omega, by simp [List.getD_eq_getElem?_getD, List.getElem?_take, hi.1]⟩
  have other : (∀ id off n, x ≠ .row id off n) → (∀ id off, x ≠ .ptr id off) → V ⟨[], m, w, X⟩ (snapA rows x).2 v := by
    intro h1 h2
    have e : snapA rows x = (x.data = true, x.anyA) := by
      unfold snapA
      split
      · rename_i id off n; exact absurd rfl (h1 id off n)
      · rename_i id off; exact absurd rfl (h2 id off)
      · rfl
    rw [e] at hc ⊢
    exact (hD x v h hc).anyA
  cases h with
  | rowF id off n b cap r hr hs hm hn ho hcc =>
    simp only [snapA, hr] at hc ⊢
    obtain ⟨c, e, hbk, hbl, hbv⟩ := hrel.block hr (.inl hs) hm
    refine .sl _ n .any b off cap (fun j => c.getD (off + j) Go.undef) (.inl rfl) hn (dataAll_take _ (dataAll_drop _ hc)) (fun i hi => ?_) (fun i hi => ?_)
    · obtain ⟨g1, g2, g3⟩ := hG _ _ _ _ hi
      rw [g3]; exact hD _ _ (hbv _ g2) ((dataAll_iff _).1 hc _ g2)
    · obtain ⟨g1, g2, g3⟩ := hG _ _ _ _ hi
      exact ⟨cell_getD hbk (by omega), lt_of_heap hbk, hrel.xr id r b hr (by simp [hs]) hm _, fun i r hr => by simp at hr⟩
  | rowV id r base hr hs =>
    simp only [snapA, hr] at hc ⊢
    simp only [Nat.zero_mul, List.take_zero]
    cases base with
    | none => exact .slnil _ (by simp)
    | some p => exact .sl [] 0 .any p.1 p.2 0 (fun _ => Go.undef) (.inl rfl) (Nat.le_refl _) rfl (fun i hi => by simp at hi) (fun i hi => by simp at hi)
  | rowG id off n b o cap r vs hr hs hn ho hd hv hm he =>
    simp only [snapA, hr] at hc ⊢
    refine .sl _ n .any b o cap vs (.inl rfl) hn (dataAll_take _ (dataAll_drop _ hc)) (fun i hi => ?_) (fun i hi => ?_)
    · obtain ⟨g1, g2, g3⟩ := hG _ _ _ _ hi
      rw [g3]; exact hD _ _ (hv _ g1) (hd _ g1)
    · obtain ⟨g1, g2, g3⟩ := hG _ _ _ _ hi
      exact ⟨(hm _ g1).1, (hI _ _ _ (hm _ g1).2 (hm _ g1).1).1⟩
  | ptr id off r b hr hs hm =>
    simp only [snapA, hr] at hc ⊢
    obtain ⟨hc, _⟩ := hc
    obtain ⟨c, e, hbk, hbl, hbv⟩ := hrel.block hr (.inl hs) hm
    have hg : ∀ i, i < (r.cells.drop off).length → off + i < r.cells.length ∧ (r.cells.drop off).getD i .undef = r.cells.getD (off + i) .undef := by
      intro i hi
      rw [List.length_drop] at hi
      exact ⟨by omega, by simp [List.getD_eq_getElem?_getD]⟩
    refine .dptr _ b off (fun j => c.getD (off + j) Go.undef) (dataAll_drop _ hc) (fun i hi => ?_) (fun i hi => ?_)
    · obtain ⟨g2, g3⟩ := hg _ hi
      rw [g3]; exact hD _ _ (hbv _ g2) ((dataAll_iff _).1 hc _ g2)
    · obtain ⟨g2, g3⟩ := hg _ hi
      exact ⟨cell_getD hbk (by omega), lt_of_heap hbk, hrel.xr id r b hr (by simp [hs]) hm _, fun i r hr => by simp at hr⟩
  | ptrLost id off r v hr hs =>
    simp only [snapA, hr] at hc
    exact absurd hc.2 hs
  | undef v => exact other (by simp) (by simp)
  | sc v h => exact other (by simp) (by simp)
  | slnil k hk => exact other (by simp) (by simp)
  | slz b o => exact other (by simp) (by simp)
  | sl cells n k b o cap vs hk hn hd hv hm => exact other (by simp) (by simp)
  | agg cells vs hl hv => exact other (by simp) (by simp)
  | tup cells vs hl hv => exact other (by simp) (by simp)
  | dptr cells b o vs hd hv hm => exact other (by simp) (by simp)
  | fn f cap vs hl hv => exact other (by simp) (by simp)
  | ifc t x v h => exact other (by simp) (by simp)
  | mp id r b hr hs hm => exact other (by simp) (by simp)

theorem VL.snap {rows : List Row} {m : Nat → Option Nat} {w : World} {X : Nat → Nat → Prop} (hrel : Rel ⟨rows, m, w, X⟩) : ∀ {xs : List AVal} {vs : List Value}, VL ⟨rows, m, w, X⟩ xs vs → (snapL rows xs).1 → VL ⟨[], m, w, X⟩ (snapL rows xs).2 vs
  | [], vs, h, _ => ⟨h.1, fun i hi => by simp [snapL] at hi⟩
  | x :: l, [], h, _ => by have := h.1; simp at this
  | x :: l, v :: vs, h, hc => by
    have ht : VL ⟨rows, m, w, X⟩ l vs := ⟨by have := h.1; simpa using this, fun i hi => by simpa using h.2 (i + 1) (by simpa using hi)⟩
    have h2 := VL.snap hrel ht hc.2
    refine ⟨by simp [snapL, h2.1], fun i hi => ?_⟩
    cases i with
    | zero => simpa [snapL] using V.snap hrel (by simpa using h.2 0 (by simp)) hc.1
    | succ i => simpa [snapL] using h2.2 i (by simpa [snapL] using hi)

/-- A function of data that answers a number, or so, may be given rows. -/
theorem EvF.snap {P : Program} {f : FuncId} {args args' : List AVal} {r : AVal} {rows : List Row} (h : EvF P f args [] r []) (hr : flat r = true) (hs : (snapL rows args').2 = args) (hc : (snapL rows args').1) : EvF P f args' rows r rows := by
  intro X m w vs hrel hvl
  have hrel2 : Rel ⟨[], m, w, X⟩ :=
    ⟨hrel.xlt, fun i r b hr => by simp at hr, fun i j r s b hr => by simp at hr, fun i r hr => by simp at hr, fun i r hr => by simp at hr, fun i r hr => by simp at hr⟩
  have hvl2 : VL ⟨[], m, w, X⟩ args vs := hs ▸ VL.snap hrel hvl hc
  refine (h X m w vs hrel2 hvl2).mono ?_
  rintro e w' ⟨v, m', rfl, h1, h2, h3, h4⟩
  have hold : ∀ b, b < w.heap.size → w'.heap[b]? = w.heap[b]? := fun b hb => (h4.free b hb (fun id r hr => by simp at hr)).1
  have hsz : w.heap.size ≤ w'.heap.size := h4.size
  have hcell : ∀ b o, b < w.heap.size → w'.cell? ⟨b, o, none⟩ = w.cell? ⟨b, o, none⟩ := fun b o hb => cell_congr (hold b hb)
  have hI : ∀ b o v, Imm ⟨rows, m, w, X⟩ b o → w.cell? ⟨b, o, none⟩ = some v → Imm ⟨rows, m, w', X⟩ b o ∧ w'.cell? ⟨b, o, none⟩ = some v := by
    intro b o v hi hc
    exact ⟨⟨Nat.lt_of_lt_of_le hi.1 hsz, hi.2.1, hi.2.2⟩, by rw [hcell b o hi.1]; exact hc⟩
  have hV : ∀ x v, V ⟨rows, m, w, X⟩ x v → V ⟨rows, m, w', X⟩ x v := fun x v hv => by
    refine V.mono (N := rows.length) hI (fun id s _ hs => ⟨s, hs, RowEvo.keep rfl ?_⟩) hv hv.refLt
    intro hst b o hm hc
    have := hrel.lt hs (by rcases hst with h | h <;> simp [h]) hm
    show (w'.cell? _).isSome = true
    rw [hcell b o this]; exact hc
  refine ⟨v, m, rfl, ⟨fun b o hx => Nat.lt_of_lt_of_le (hrel.xlt b o hx) hsz, hrel.xr, hrel.inj, ?_, hrel.grown, ?_⟩, h2.flat hr, Nat.le_refl _, ⟨fun x v hv _ => hV x v hv, hsz, fun b hb hf => ⟨hold b hb, hf⟩, h4.os, h4.tape, h4.output⟩⟩
  · intro i s hs hns hnm
    rcases hrel.own i s hs hns hnm with h | ⟨b, c, e, k1, k2, k3, k4⟩
    · exact .inl h
    · exact .inr ⟨b, c, e, k1, (hold b (lt_of_heap k2)).trans k2, k3, fun j hj => hV _ _ (k4 j hj)⟩
  · intro i s hs hg
    obtain ⟨b, es, k, k1, k2, k3, k4⟩ := hrel.map i s hs hg
    exact ⟨b, es, k, k1, (hold b (lt_of_heap k2)).trans k2, k3, fun j hj => ⟨hV _ _ (k4 j hj).1, hV _ _ (k4 j hj).2⟩⟩
/-- What is asked of rows that are read as these values. -/
def snapC (rows : List Row) : List AVal → List AVal → Prop
  | x :: l, y :: l' => (snapA rows x).1 ∧ (snapA rows x).2 = y ∧ snapC rows l l'
  | [], [] => True
  | _, _ => False
theorem snapC_spec {rows : List Row} : ∀ {l l' : List AVal}, snapC rows l l' → (snapL rows l).1 ∧ (snapL rows l).2 = l'
  | [], [], _ => ⟨trivial, rfl⟩
  | x :: l, y :: l', h => ⟨⟨h.1, (snapC_spec h.2.2).1⟩, by rw [snapL, h.2.1, (snapC_spec h.2.2).2]⟩
  | [], _ :: _, h => absurd h (by simp [snapC])
  | _ :: _, [], h => absurd h (by simp [snapC])
theorem DerQ.callS {P : Program} {ops : Array Oper} {o : Oper} {l : List Oper} {st : St} {K : St → Prop} {f : FuncId} {args : List AVal} {r : AVal} (he : EvD P f args r) (args' : List AVal) (c : Prop) (st1 : St)
    (h : wantA ops o st.regs = some true ∧ Abs.callA P o (ev st.regs) = some (f, args') ∧ snapC st.rows args' args = c ∧ flat r = true ∧ st.put o.dst r st.rows = st1) (hc : c) (hk : DerQ P ops l st1 K) : DerQ P ops (o :: l) st K := by
  obtain ⟨h1, h2, h3, h4, h5⟩ := h
  rw [← h3] at hc
  exact DerQ.call (EvF.snap (he []) h4 (snapC_spec hc).2 (snapC_spec hc).1) st1 ⟨h1, h2, h5⟩ hk

theorem St.frz_weak (N : Nat) {st : St} {id : Nat} {r : Row} (hr : st.rows[id]? = some r) (hs : r.st = .fresh ∨ r.st = .grown) (hd : dataAll r.cells = true) : Weak N st ⟨frzAll id r st.regs, frzRows id r st.rows⟩ := by
  intro hN
  refine ⟨by simpa [frzRows] using hN, fun X m w a h => ?_⟩
  obtain ⟨a1, a2, a3⟩ := frz_step (E := ⟨st.rows, m, w, X⟩) h.rel hr hs hd
  refine ⟨m, ⟨a1, by rw [frzAll_length]; exact h.len, fun i hi => ?_, h.defers⟩, a2.mono hN⟩
  rw [frzAll_length] at hi
  rw [frzAll_getD]; exact a3 _ _ (h.regs i hi)
/-- A row that is not written any more becomes data. -/
theorem AWP.frz {P : Program} {N : Nat} {c : Code} {Q : Exit → St → Prop} {st : St} (id : Nat) (r : Row) (st' : St) (h : st.rows[id]? = some r ∧ (⟨frzAll id r st.regs, frzRows id r st.rows⟩ : St) = st') (hs : r.st = .fresh ∨ r.st = .grown) (hd : dataAll r.cells = true)
    (k : AWP P N c Q st') : AWP P N c Q st := by
  obtain ⟨h1, rfl⟩ := h
  exact AWP.weaken (St.frz_weak N h1 hs hd) k
end Go.Abs
namespace Go.Abs
open Go
theorem u8s_one (xs : List Int) : ∀ i : Nat, i < (u8s xs).length → ((u8s xs).getD i .undef).one = true := by
  intro i hi
  rw [u8s_length] at hi
  rw [u8s_getD xs i hi]; rfl
end Go.Abs
namespace Go.Abs
open Go
theorem DerX.callS {F : Oper → Bool} {P : Program} {ops : Array Oper} {R : List Row} {o : Oper} {l : List Oper} {st : St} {K : St → Prop} {f : FuncId} {args : List AVal} {r : AVal} (he : EvD P f args r) (args' : List AVal) (ext' : List Row) (c : Prop) (st1 : St)
    (h : F o = true ∧ wantA ops o st.regs = some true ∧ Abs.callA P o (ev st.regs) = some (f, args') ∧ snapC st.rows args' args = c ∧ flat r = true ∧ st.rows = R ++ ext' ∧ st.put o.dst r st.rows = st1) (hc : c) (hk : DerX P F ops R l st1 K) : DerX P F ops R (o :: l) st K := by
  obtain ⟨h0, h1, h2, h3, h4, h6, rfl⟩ := h
  rw [← h3] at hc
  obtain ⟨st', k1, k2⟩ := hk
  exact ⟨st', .eff o l _ _ r st.rows h0 h1 (callA_spec h2 (EvF.snap (he []) h4 (snapC_spec hc).2 (snapC_spec hc).1)) ⟨ext', h6⟩ k1, k2⟩
end Go.Abs
namespace Go.Abs
open Go
theorem DerX.callT {F : Oper → Bool} {P : Program} {ops : Array Oper} {R : List Row} {o : Oper} {l : List Oper} {st : St} {K : St → Prop} {f : FuncId} {args : List AVal} {r : AVal} (he : EvD P f args r) (args' : List AVal) (c : Prop) (st1 : St)
    (h0 : ∀ ext, snapC (R ++ ext) args' args = c) (h : wantA ops o st.regs = some true ∧ Abs.callA P o (ev st.regs) = some (f, args') ∧ flat r = true ∧ st.put o.dst r st.rows = st1) (hc : c) (hk : DerX P F ops R l st1 K) : DerX P F ops R (o :: l) st K := by
  obtain ⟨h1, h2, h4, rfl⟩ := h
  obtain ⟨st', k1, k2⟩ := hk
  refine ⟨st', .quiet o l _ _ r h1 (fun rows ⟨ext, hx⟩ => ?_) k1, k2⟩
  subst hx
  have hc' := hc
  rw [← h0 ext] at hc'
  exact callA_spec h2 (EvF.snap (he []) h4 (snapC_spec hc').2 (snapC_spec hc').1)
end Go.Abs
