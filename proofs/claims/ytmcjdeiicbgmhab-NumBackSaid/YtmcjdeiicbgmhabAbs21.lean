/- Library: an abstract machine over the model, part 21. -/
import Derived.Test.YtmcjdeiicbgmhabAbs20
set_option linter.unusedVariables false
set_option linter.unusedSimpArgs false
namespace Go.Abs
open Go

/-- A region that draws its order, operation by operation. -/
inductive DerGL (P : Program) (F : Oper → Bool) (ops : Array Oper) (G : List Row → Prop) : List Oper → St → St → Prop
  | nil (st : St) : DerGL P F ops G [] st st
  | quiet (o : Oper) (rest : List Oper) (st st' : St) (res : AVal) (hw : wantA ops o st.regs = some true)
      (hs : ∀ rows, G rows → OpS P o (ev st.regs) rows res rows) (h : DerGL P F ops G rest (st.put o.dst res st.rows) st') : DerGL P F ops G (o :: rest) st st'
  | eff (o : Oper) (rest : List Oper) (st st' : St) (res : AVal) (rows' : List Row) (he : F o = true) (hw : wantA ops o st.regs = some true)
      (hs : OpS P o (ev st.regs) st.rows res rows') (hg : G rows') (h : DerGL P F ops G rest (st.put o.dst res rows') st') : DerGL P F ops G (o :: rest) st st'
  | skip (o : Oper) (rest : List Oper) (st st' : St) (hw : wantA ops o st.regs = some false)
      (h : DerGL P F ops G rest (st.put o.dst (.tup []) st.rows) st') : DerGL P F ops G (o :: rest) st st'

theorem DerGL.der {F : Oper → Bool} {P : Program} {ops : Array Oper} {G : List Row → Prop} : ∀ {l : List Oper} {st st' : St} (k : Nat), (∀ j, l[j]? = ops[k + j]?) → DerGL P F ops G l st st' → DerG P F ops G (List.range' k l.length) st st'
  | [], st, st', k, _, h => by cases h; exact .nil _
  | o :: l, st, st', k, hk, h => by
    have h0 : ops[k]? = some o := by simpa using (hk 0).symm
    have hk' : ∀ j, l[j]? = ops[k + 1 + j]? := fun j => by have := hk (j + 1); simpa [Nat.add_assoc, Nat.add_comm 1 j] using this
    rw [List.length_cons, List.range'_succ]
    cases h with
    | quiet _ _ _ _ res hw hs h => exact .quiet k _ _ _ o res h0 hw hs (DerGL.der (k + 1) hk' h)
    | eff _ _ _ _ res rows' he hw hs hg h => exact .eff k _ _ _ o res rows' h0 he hw hs hg (DerGL.der (k + 1) hk' h)
    | skip _ _ _ _ hw h => exact .skip k _ _ _ o h0 hw (DerGL.der (k + 1) hk' h)

/-- The rows at the beginning stay ahead. -/
def DerX (P : Program) (F : Oper → Bool) (ops : Array Oper) (R : List Row) (l : List Oper) (st : St) (K : St → Prop) : Prop := ∃ st', DerGL P F ops (fun rows => ∃ ext, rows = R ++ ext) l st st' ∧ K st'

theorem AWP.drawX {P : Program} {N : Nat} {Q : Exit → St → Prop} {st : St} {id : Nat} {l : List Oper} (hm : P.follows .mixedOrders = true) (F : Oper → Bool) (hok : drawOk F l = true)
    (h : DerX P F l.toArray st.rows l st (Q .normal)) : AWP P N (.region id l.toArray true) Q st := by
  obtain ⟨st', h1, h2⟩ := h
  refine AWP.draw hm (fun rows => ∃ ext, rows = st.rows ++ ext) ⟨[], by simp⟩ hok ?_ h2
  have := h1.der 0 (fun j => by simp)
  rw [List.range_eq_range']
  simpa using this
theorem DerX.nil {F : Oper → Bool} {P : Program} {ops : Array Oper} {R : List Row} {st : St} {K : St → Prop} (h : K st) : DerX P F ops R [] st K := ⟨st, .nil _, h⟩
theorem DerX.quiet {F : Oper → Bool} {P : Program} {ops : Array Oper} {R : List Row} {o : Oper} {l : List Oper} {st : St} {K : St → Prop} (c : Prop) (v : AVal) (st1 : St)
    (h : ∀ ext, sop P o (ev st.regs) (R ++ ext) = some ⟨c, v, R ++ ext⟩) (hw : wantA ops o st.regs = some true ∧ st.put o.dst v st.rows = st1) (hc : c) (hk : DerX P F ops R l st1 K) : DerX P F ops R (o :: l) st K := by
  obtain ⟨h1, rfl⟩ := hw
  obtain ⟨st', k1, k2⟩ := hk
  exact ⟨st', .quiet o l _ _ v h1 (fun rows ⟨ext, he⟩ => by subst he; exact sop_spec (h ext) hc) k1, k2⟩
theorem DerX.eff {F : Oper → Bool} {P : Program} {ops : Array Oper} {R : List Row} {o : Oper} {l : List Oper} {st : St} {K : St → Prop} (c : Prop) (v : AVal) (ext : List Row) (st1 : St)
    (h : sop P o (ev st.regs) st.rows = some ⟨c, v, R ++ ext⟩) (hw : F o = true ∧ wantA ops o st.regs = some true ∧ st.put o.dst v (R ++ ext) = st1) (hc : c) (hk : DerX P F ops R l st1 K) : DerX P F ops R (o :: l) st K := by
  obtain ⟨h0, h1, rfl⟩ := hw
  obtain ⟨st', k1, k2⟩ := hk
  exact ⟨st', .eff o l _ _ v _ h0 h1 (sop_spec h hc) ⟨ext, rfl⟩ k1, k2⟩
theorem DerX.skip {F : Oper → Bool} {P : Program} {ops : Array Oper} {R : List Row} {o : Oper} {l : List Oper} {st : St} {K : St → Prop} (st1 : St)
    (hw : wantA ops o st.regs = some false ∧ st.put o.dst (.tup []) st.rows = st1) (hk : DerX P F ops R l st1 K) : DerX P F ops R (o :: l) st K := by
  obtain ⟨h1, rfl⟩ := hw
  obtain ⟨st', k1, k2⟩ := hk
  exact ⟨st', .skip o l _ _ h1 k1, k2⟩
theorem DerX.callD {F : Oper → Bool} {P : Program} {ops : Array Oper} {R : List Row} {o : Oper} {l : List Oper} {st : St} {K : St → Prop} {f : FuncId} {args : List AVal} {r : AVal} (he : EvD P f args r) (st1 : St)
    (h : wantA ops o st.regs = some true ∧ callA P o (ev st.regs) = some (f, args) ∧ st.put o.dst r st.rows = st1) (hk : DerX P F ops R l st1 K) : DerX P F ops R (o :: l) st K := by
  obtain ⟨h1, h2, rfl⟩ := h
  obtain ⟨st', k1, k2⟩ := hk
  exact ⟨st', .quiet o l _ _ r h1 (fun rows _ => callA_spec h2 (he rows)) k1, k2⟩
theorem AWP.toX {F : Oper → Bool} {P : Program} {ops : Array Oper} {R : List Row} {l : List Oper} {st : St} {K : St → Prop} (st' : St) (h : st = st') (k : DerX P F ops R l st' K) : DerX P F ops R l st K := h ▸ k
end Go.Abs
