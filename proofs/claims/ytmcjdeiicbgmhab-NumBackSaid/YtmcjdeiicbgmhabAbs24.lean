/- Library: an abstract machine over the model, part 24. -/
import Derived.Test.YtmcjdeiicbgmhabAbs23
set_option linter.unusedVariables false
set_option linter.unusedSimpArgs false
namespace Go.Abs
open Go

theorem V.shift {E0 E2 : Env} (k : Nat) (hw : E2.w = E0.w) (hI : ∀ b o v, Imm E0 b o → E0.w.cell? ⟨b, o, none⟩ = some v → Imm E2 b o)
    (hrow : ∀ (i : Nat) (r : Row), E0.rows[i]? = some r → E2.rows[i + k]? = some (r.ren (· + k))) (hm : ∀ (i : Nat) (r : Row), E0.rows[i]? = some r → E2.m (i + k) = E0.m i) {x : AVal} {v : Value} (h : V E0 x v) :
    V E2 (x.ren (· + k)) v := by
  have hc : ∀ a, E2.w.cell? a = E0.w.cell? a := fun a => by rw [hw]
  induction h with
  | undef v => exact .undef v
  | sc v h => exact .sc v h
  | slnil k hk => exact .slnil k hk
  | slz b o => exact .slz b o
  | sl cells n kk b o cap vs hk hn hd hv hmm ih =>
    refine .sl cells n kk b o cap vs hk hn hd (fun i hi => ?_) (fun i hi => ?_)
    · have := ih i hi
      rwa [AVal.ren_data _ ((dataAll_iff cells).1 hd i hi)] at this
    · exact ⟨by rw [hc]; exact (hmm i hi).1, hI _ _ _ (hmm i hi).2 (hmm i hi).1⟩
  | agg cells vs hl hv ih => exact .agg _ vs (by rw [renAll_length]; exact hl) fun i hi => by rw [renAll_getD]; exact ih i (by rwa [renAll_length] at hi)
  | tup cells vs hl hv ih => exact .tup _ vs (by rw [renAll_length]; exact hl) fun i hi => by rw [renAll_getD]; exact ih i (by rwa [renAll_length] at hi)
  | ptr i off r b hr hs hmi => exact .ptr _ off _ b (hrow i r hr) hs (by rw [hm i r hr]; exact hmi)
  | ptrLost i off r v hr hs => exact .ptrLost _ off _ v (hrow i r hr) hs
  | dptr cells b o vs hd hv hmm ih =>
    refine .dptr cells b o vs hd (fun i hi => ?_) (fun i hi => ?_)
    · have := ih i hi
      rwa [AVal.ren_data _ ((dataAll_iff cells).1 hd i hi)] at this
    · exact ⟨by rw [hc]; exact (hmm i hi).1, hI _ _ _ (hmm i hi).2 (hmm i hi).1⟩
  | rowF i off n b cap r hr hs hmi hn ho hcc =>
    exact .rowF _ off n b cap _ (hrow i r hr) hs (by rw [hm i r hr]; exact hmi) hn (by simpa [Row.ren, renAll_length] using ho) (fun j hj => by rw [hc]; exact hcc j hj)
  | rowV i r base hr hs =>
    refine .rowV _ _ base (hrow i r hr) ?_
    rcases hs with h | ⟨h, h'⟩ | ⟨h, h'⟩
    · exact .inl h
    · exact .inr (.inl ⟨h, by rw [hm i r hr]; exact h'⟩)
    · exact .inr (.inr ⟨h, fun e => h' (List.eq_nil_of_length_eq_zero (by have := congrArg List.length e; simpa [Row.ren, renAll_length] using this))⟩)
  | rowG i off n b o cap r vs hr hs hn ho hd hv hmm he ih =>
    refine .rowG _ off n b o cap _ vs (hrow i r hr) hs hn (by simpa [Row.ren, renAll_length] using ho) (fun j hj => ?_) (fun j hj => ?_) (fun j hj => ?_) (fun a1 a2 => ?_)
    · simp only [Row.ren, renAll_getD, AVal.data_ren]; exact hd j hj
    · simp only [Row.ren, renAll_getD]; exact ih j hj
    · exact ⟨by rw [hc]; exact (hmm j hj).1, hI _ _ _ (hmm j hj).2 (hmm j hj).1⟩
    · obtain ⟨e1, e2, e3⟩ := he a1 (by simpa [Row.ren, renAll_length] using a2)
      exact ⟨by rw [hm i r hr]; exact e1, e2, fun j hj => by rw [hc]; exact e3 j hj⟩
  | fn f cap vs hl hv ih => exact .fn f _ vs (by rw [renAll_length]; exact hl) fun i hi => by rw [renAll_getD]; exact ih i (by rwa [renAll_length] at hi)
  | ifc t x v h ih => exact .ifc t _ v ih
  | mp i r b hr hs hmi => exact .mp _ _ b (hrow i r hr) hs (by rw [hm i r hr]; exact hmi)

/-- A function that is given data does the same whatever rows the caller has; what it makes comes behind them. -/
theorem EvF.liftA {P : Program} {f : FuncId} {args : List AVal} {r : AVal} {ext : List Row} (h : EvF P f args [] r ext) (hd : dataAll args = true) (rows : List Row) :
    EvF P f args rows (r.ren (· + rows.length)) (rows ++ ext.map (Row.ren (· + rows.length))) := by
  intro X m w vs hrel hvl
  let k := rows.length
  let X2 : Nat → Nat → Prop := fun b o => b < w.heap.size ∧ ¬ Imm ⟨rows, m, w, X⟩ b o
  have hrel2 : Rel ⟨[], m, w, X2⟩ :=
    ⟨fun b o h => h.1, fun i r b hr => by simp at hr, fun i j r s b hr => by simp at hr, fun i r hr => by simp at hr, fun i r hr => by simp at hr, fun i r hr => by simp at hr⟩
  have hvl2 : VL ⟨[], m, w, X2⟩ args vs := by
    refine ⟨hvl.1, fun i hi => ?_⟩
    refine V.mono (N := 0) ?_ (fun id r h _ => absurd h (by omega)) (hvl.2 i hi) (AVal.lt_of_data 0 _ ((dataAll_iff _).1 hd i hi))
    intro b o v hi hc
    exact ⟨⟨hi.1, fun hx => hx.2 hi, fun id r hr => by simp at hr⟩, hc⟩
  refine (h X2 m w vs hrel2 hvl2).mono ?_
  rintro e w' ⟨v, m', rfl, h1, h2, h3, h4⟩
  have hold : ∀ b, b < w.heap.size → w'.heap[b]? = w.heap[b]? := fun b hb => (h4.free b hb (fun id r hr => by simp at hr)).1
  have hfr : ∀ b, b < w.heap.size → Free ⟨ext, m', w', X2⟩ b := fun b hb => (h4.free b hb (fun id r hr => by simp at hr)).2
  have hsz : w.heap.size ≤ w'.heap.size := h4.size
  have hcell : ∀ b o, b < w.heap.size → w'.cell? ⟨b, o, none⟩ = w.cell? ⟨b, o, none⟩ := fun b o hb => cell_congr (hold b hb)
  let m2 : Nat → Option Nat := fun i => if i < k then m i else m' (i - k)
  let E2 : Env := ⟨rows ++ ext.map (Row.ren (· + k)), m2, w', X⟩
  have hm2 : ∀ {i : Nat}, i < k → m2 i = m i := fun h => if_pos h
  have hm2' : ∀ i : Nat, m2 (i + k) = m' i := fun i => by show (if _ then _ else _) = _; rw [if_neg (by omega)]; congr 1; omega
  have hcase : ∀ {i : Nat} {s : Row}, E2.rows[i]? = some s → (i < k ∧ rows[i]? = some s) ∨ (∃ j s0, i = j + k ∧ ext[j]? = some s0 ∧ s = s0.ren (· + k)) := by
    intro i s hs
    rcases Nat.lt_or_ge i k with hi | hi
    · refine .inl ⟨hi, ?_⟩
      have : (rows ++ ext.map (Row.ren (· + k)))[i]? = some s := hs
      rwa [List.getElem?_append_left hi] at this
    · refine .inr ⟨i - k, ?_⟩
      have : (rows ++ ext.map (Row.ren (· + k)))[i]? = some s := hs
      rw [List.getElem?_append_right hi, List.getElem?_map] at this
      cases he : ext[i - k]? with
      | none => rw [show rows.length = k from rfl, he] at this; simp at this
      | some s0 => rw [show rows.length = k from rfl, he] at this; simp at this; exact ⟨s0, by omega, rfl, this.symm⟩
  have hI : ∀ b o v, Imm ⟨rows, m, w, X⟩ b o → w.cell? ⟨b, o, none⟩ = some v → Imm E2 b o ∧ E2.w.cell? ⟨b, o, none⟩ = some v := by
    intro b o v hi hc
    refine ⟨⟨Nat.lt_of_lt_of_le hi.1 hsz, hi.2.1, ?_⟩, by show w'.cell? _ = _; rw [hcell b o hi.1]; exact hc⟩
    intro i s hs hns hmi
    rcases hcase hs with ⟨a1, a2⟩ | ⟨j, s0, rfl, a2, rfl⟩
    · exact hi.2.2 i s a2 hns ((hm2 a1).symm.trans hmi)
    · exact absurd ((hm2' j).symm.trans hmi) (hfr b hi.1 j s0 a2 hns)
  have hV : ∀ x v, V ⟨rows, m, w, X⟩ x v → V E2 x v := fun x v hv => by
    refine V.mono (N := rows.length) hI (fun id s hid hs => ⟨s, ?_, RowEvo.keep (hm2 hid) ?_⟩) hv hv.refLt
    · show (rows ++ _)[id]? = _
      rw [List.getElem?_append_left hid]; exact hs
    · intro hst b o hmb hc
      have := hrel.lt hs (by rcases hst with h | h <;> simp [h]) hmb
      show (w'.cell? _).isSome = true
      rw [hcell b o this]; exact hc
  have hX : ∀ b o, ¬ X2 b o → ¬ X b o := by
    intro b o h hx
    exact h ⟨hrel.xlt b o hx, fun hh => hh.2.1 hx⟩
  have hS : ∀ x v, V ⟨ext, m', w', X2⟩ x v → V E2 (x.ren (· + k)) v := fun x v hv => by
    refine V.shift (E0 := ⟨ext, m', w', X2⟩) (E2 := E2) k rfl ?_ ?_ (fun i r _ => hm2' i) hv
    · intro b o u hi hc
      refine ⟨hi.1, hX b o hi.2.1, ?_⟩
      intro id s hs hns hmi
      rcases hcase hs with ⟨a1, a2⟩ | ⟨j, s0, rfl, a2, rfl⟩
      · have hmb := (hm2 a1).symm.trans hmi
        have hb := hrel.lt a2 hns hmb
        have : Imm ⟨rows, m, w, X⟩ b o := Classical.byContradiction fun hn => hi.2.1 ⟨hb, hn⟩
        exact this.2.2 id s a2 hns hmb
      · have := hi.2.2 j s0 a2 hns ((hm2' j).symm.trans hmi)
        simpa [Row.ren, renAll_length] using this
    · intro i r hr
      show (rows ++ ext.map (Row.ren (· + k)))[i + k]? = _
      rw [List.getElem?_append_right (by show k ≤ i + k; omega), List.getElem?_map]
      have e : i + k - rows.length = i := by show i + k - k = i; omega
      rw [e]
      have : ext[i]? = some r := hr
      rw [this]; rfl
  refine ⟨v, m2, rfl, ⟨fun b o hx => Nat.lt_of_lt_of_le (hrel.xlt b o hx) hsz, ?_, ?_, ?_, ?_, ?_⟩, hS _ _ h2, by simp, ⟨fun x v hv _ => hV x v hv, hsz, fun b hb hf => ⟨hold b hb, ?_⟩, h4.os, h4.tape, h4.output⟩⟩
  · intro i s b hs hns hmi o
    rcases hcase hs with ⟨a1, a2⟩ | ⟨j, s0, rfl, a2, rfl⟩
    · exact hrel.xr i s b a2 hns ((hm2 a1).symm.trans hmi) o
    · exact hX b o (h1.xr j s0 b a2 hns ((hm2' j).symm.trans hmi) o)
  · intro i j s t b hs ht hns hnt hi hj
    rcases hcase hs with ⟨a1, a2⟩ | ⟨i0, s0, rfl, a2, rfl⟩
    · have hmb := (hm2 a1).symm.trans hi
      rcases hcase ht with ⟨c1, c2⟩ | ⟨j0, t0, rfl, c2, rfl⟩
      · exact hrel.inj i j s t b a2 c2 hns hnt hmb ((hm2 c1).symm.trans hj)
      · exact absurd ((hm2' j0).symm.trans hj) (hfr b (hrel.lt a2 hns hmb) j0 t0 c2 hnt)
    · rcases hcase ht with ⟨c1, c2⟩ | ⟨j0, t0, rfl, c2, rfl⟩
      · have hmb := (hm2 c1).symm.trans hj
        exact absurd ((hm2' i0).symm.trans hi) (hfr b (hrel.lt c2 hnt hmb) i0 s0 a2 hns)
      · rw [h1.inj i0 j0 s0 t0 b a2 c2 hns hnt ((hm2' i0).symm.trans hi) ((hm2' j0).symm.trans hj)]
  · intro i s hs hns hnm
    rcases hcase hs with ⟨a1, a2⟩ | ⟨j, s0, rfl, a2, rfl⟩
    · rcases hrel.own i s a2 hns hnm with h | ⟨b, c, e, k1, k2, k3, k4⟩
      · exact .inl ⟨(hm2 a1).trans h.1, h.2⟩
      · exact .inr ⟨b, c, e, (hm2 a1).trans k1, (hold b (lt_of_heap k2)).trans k2, k3, fun j hj => hV _ _ (k4 j hj)⟩
    · rcases h1.own j s0 a2 hns hnm with h | ⟨b, c, e, k1, k2, k3, k4⟩
      · refine .inl ⟨(hm2' j).trans h.1, ?_⟩
        have h' : s0.cells = [] := h.2
        simp [Row.ren, h', renAll]
      · refine .inr ⟨b, c, e, (hm2' j).trans k1, k2, by simpa [Row.ren, renAll_length] using k3, fun i hi => ?_⟩
        simp only [Row.ren, renAll_length] at hi
        simp only [Row.ren, renAll_getD]
        exact hS _ _ (k4 i hi)
  · intro i s hs hg
    rcases hcase hs with ⟨a1, a2⟩ | ⟨j, s0, rfl, a2, rfl⟩
    · exact hrel.grown i s a2 hg
    · simp only [Row.ren, dataAll_ren]; exact h1.grown j s0 a2 hg
  · intro i s hs hg
    rcases hcase hs with ⟨a1, a2⟩ | ⟨j, s0, rfl, a2, rfl⟩
    · obtain ⟨b, es, kk, k1, k2, k3, k4⟩ := hrel.map i s a2 hg
      exact ⟨b, es, kk, (hm2 a1).trans k1, (hold b (lt_of_heap k2)).trans k2, k3, fun j hj => ⟨hV _ _ (k4 j hj).1, hV _ _ (k4 j hj).2⟩⟩
    · obtain ⟨b, es, kk, k1, k2, k3, k4⟩ := h1.map j s0 a2 hg
      refine ⟨b, es, kk, (hm2' j).trans k1, k2, by simpa [Row.ren, renAll_length] using k3, fun i hi => ?_⟩
      simp only [Row.ren, renAll_getD]
      exact ⟨hS _ _ (k4 i hi).1, hS _ _ (k4 i hi).2⟩
  · intro i s hs hns hmi
    rcases hcase hs with ⟨a1, a2⟩ | ⟨j, s0, rfl, a2, rfl⟩
    · exact hf i s a2 hns ((hm2 a1).symm.trans hmi)
    · exact hfr b hb j s0 a2 hns ((hm2' j).symm.trans hmi)

/-- What is made comes behind the rows of the caller. -/
def EvA (P : Program) (f : FuncId) (args : List AVal) (r : Nat → AVal) (ext : Nat → List Row) : Prop := ∀ rows, EvF P f args rows (r rows.length) (rows ++ ext rows.length)
theorem EvA.of {P : Program} {f : FuncId} {args : List AVal} {r : Nat → AVal} {ext : Nat → List Row} (hr : ∀ k, (r 0).ren (· + k) = r k) (he : ∀ k, (ext 0).map (Row.ren (· + k)) = ext k) (hd : dataAll args = true) (h : EvF P f args [] (r 0) (ext 0)) : EvA P f args r ext := fun rows => by
  have := h.liftA hd rows
  rwa [hr, he] at this
theorem EvA.body {P : Program} {f : FuncId} {fn : Func} {c : Code} {args : List AVal} {r : Nat → AVal} {ext : Nat → List Row} (hf : P.funcs[f]? = some fn) (hb : fn.body = some c) (hd : dataAll args = true) (hr : ∀ k, (r 0).ren (· + k) = r k) (he : ∀ k, (ext 0).map (Row.ren (· + k)) = ext k)
    (h : AWP P 0 c (fun e st' => (e = .normal ∨ e = .ret) ∧ ∃ r1, resA' P fn.results st' = some r1 ∧ Shrink 0 st'.rows r1 (ext 0) (r 0)) ⟨args ++ List.replicate (fn.ntmps - args.length) .undef, []⟩) : EvA P f args r ext :=
  EvA.of hr he hd (EvF.body hf hb fun _ => h)
theorem EvA.any {P : Program} {f : FuncId} {args args' : List AVal} {r : Nat → AVal} {ext : Nat → List Row} (h : EvA P f args r ext) (he : Abs.anyAll args' = args) : EvA P f args' r ext := by
  subst he
  exact fun rows X m w vs hr hvl => h rows X m w vs hr hvl.anyAll
theorem EvA.split {P : Program} {f : FuncId} (pre : List AVal) {post : List AVal} {cells : List AVal} {n : Nat} {r : Nat → AVal} {ext : Nat → List Row}
    (h0 : cells = [] → n = 0 → EvA P f (pre ++ .sl [] 0 .nil :: post) r ext) (h1 : EvA P f (pre ++ .sl cells n .nn :: post) r ext) : EvA P f (pre ++ .sl cells n .any :: post) r ext :=
  fun rows => EvF.split pre (fun a b => h0 a b rows) (h1 rows)
theorem DerQ.callA {P : Program} {ops : Array Oper} {o : Oper} {l : List Oper} {st : St} {K : St → Prop} {f : FuncId} {args : List AVal} {r : Nat → AVal} {ext : Nat → List Row} (he : EvA P f args r ext) (args' : List AVal) (st1 : St)
    (h : wantA ops o st.regs = some true ∧ Abs.callA P o (ev st.regs) = some (f, args') ∧ anyAll args' = args ∧ st.put o.dst (r st.rows.length) (st.rows ++ ext st.rows.length) = st1) (hk : DerQ P ops l st1 K) : DerQ P ops (o :: l) st K :=
  DerQ.call (he.any h.2.2.1 st.rows) st1 ⟨h.1, h.2.1, h.2.2.2⟩ hk
theorem DerX.callA {F : Oper → Bool} {P : Program} {ops : Array Oper} {R : List Row} {o : Oper} {l : List Oper} {st : St} {K : St → Prop} {f : FuncId} {args : List AVal} {r : Nat → AVal} {ext : Nat → List Row} (he : EvA P f args r ext) (args' : List AVal) (ext' : List Row) (st1 : St)
    (h : F o = true ∧ wantA ops o st.regs = some true ∧ Abs.callA P o (ev st.regs) = some (f, args') ∧ anyAll args' = args ∧ st.rows ++ ext st.rows.length = R ++ ext' ∧ st.put o.dst (r st.rows.length) (st.rows ++ ext st.rows.length) = st1) (hk : DerX P F ops R l st1 K) : DerX P F ops R (o :: l) st K := by
  obtain ⟨h0, h1, h2, h3, h4, rfl⟩ := h
  obtain ⟨st', k1, k2⟩ := hk
  exact ⟨st', .eff o l _ _ _ _ h0 h1 (callA_spec h2 (he.any h3 st.rows)) ⟨ext', h4⟩ k1, k2⟩
/-- One row of data. -/
theorem ren_row {cells : List AVal} {esz : Nat} {s : RowSt} (hd : dataAll cells = true) (k : Nat) : [(⟨cells, esz, s⟩ : Row)].map (Row.ren (· + k)) = [⟨cells, esz, s⟩] := by
  have : renAll (· + k) cells = cells := by
    apply List.ext_getElem (renAll_length _ _)
    intro i h1 h2
    have e1 := renAll_getD (· + k) cells i
    rw [AVal.ren_data _ ((dataAll_iff _).1 hd i h2)] at e1
    simpa [List.getD_eq_getElem?_getD, h1, h2] using e1
  simp [Row.ren, this]

/-- nil, or nothing, as a row of its own. -/
theorem Shrink.virt {rows : List Row} {k : SlK} (esz : Nat) (hk : k = .nil ∨ k = .cap0) : Shrink 0 rows (.sl [] 0 k) [⟨[], esz, .fresh⟩] (.row 0 0 0) := by
  refine Shrink.trans (B := []) (b := .sl [] 0 k) ?_ ?_
  · exact Shrink.all rfl rfl
  · intro X m w v h1 h2 _
    obtain ⟨k1, k2⟩ := virtual_step h1 esz
    refine ⟨_, k1, ?_, by simp, k2⟩
    have hb : ∃ base : Option (Nat × Nat), v = .slice (base.map fun p => ⟨p.1, p.2, none⟩) 0 0 := by
      generalize hx : AVal.sl [] 0 k = x at h2
      cases h2 <;> simp at hx
      · exact ⟨none, rfl⟩
      · rename_i b o; exact ⟨some (b, o), rfl⟩
      · rename_i b o cap vs hk2 hn hd hv hm
        obtain ⟨rfl, rfl, rfl⟩ := hx
        rcases hk with rfl | rfl <;> simp at hk2
    obtain ⟨base, rfl⟩ := hb
    exact .rowV 0 ⟨[], esz, .fresh⟩ base (by simp) (.inr (.inl ⟨.inl rfl, by simp⟩))
end Go.Abs
