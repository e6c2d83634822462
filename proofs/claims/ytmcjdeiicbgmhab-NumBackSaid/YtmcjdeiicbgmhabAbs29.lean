/- Library: an abstract machine over the model, part 29. -/
import Derived.Test.YtmcjdeiicbgmhabAbs28
set_option linter.unusedVariables false
set_option linter.unusedSimpArgs false
namespace Go.Abs
open Go
/-- The rows are one of these. -/
def oneOf (L : List (List Row)) (rows : List Row) : Prop := ∃ k : Nat, L[k]? = some rows
def DerY (P : Program) (F : Oper → Bool) (ops : Array Oper) (L : List (List Row)) (l : List Oper) (st : St) (K : St → Prop) : Prop := ∃ st', DerGL P F ops (oneOf L) l st st' ∧ K st'
theorem AWP.drawY {P : Program} {N : Nat} {Q : Exit → St → Prop} {st : St} {id : Nat} {l : List Oper} (hm : P.follows .mixedOrders = true) (F : Oper → Bool) (L : List (List Row)) (hok : drawOk F l = true) (h0 : L[0]? = some st.rows)
    (h : DerY P F l.toArray L l st (Q .normal)) : AWP P N (.region id l.toArray true) Q st := by
  obtain ⟨st', h1, h2⟩ := h
  refine AWP.draw (F := F) hm (oneOf L) ⟨0, h0⟩ hok ?_ h2
  have := h1.der 0 (fun j => by simp)
  rw [List.range_eq_range']
  simpa using this
def quietL (P : Program) (o : Oper) (ρ : Operand → AVal) (v : AVal) : List (List Row) → List Prop → Prop
  | [], [] => True
  | r :: l, c :: cs => sop P o ρ r = some ⟨c, v, r⟩ ∧ c ∧ quietL P o ρ v l cs
  | _, _ => False
theorem quietL_spec {P : Program} {o : Oper} {ρ : Operand → AVal} {v : AVal} : ∀ {L : List (List Row)} {cs : List Prop}, quietL P o ρ v L cs → ∀ rows, oneOf L rows → OpS P o ρ rows v rows
  | [], cs, _, rows, ⟨k, hk⟩ => by simp at hk
  | r :: l, [], h, _, _ => absurd h (by simp [quietL])
  | r :: l, c :: cs, h, rows, ⟨k, hk⟩ => by
    obtain ⟨h1, h2, h3⟩ := h
    cases k with
    | zero => simp at hk; subst hk; exact sop_spec h1 h2
    | succ k => exact quietL_spec h3 rows ⟨k, by simpa using hk⟩
theorem DerY.nil {F : Oper → Bool} {P : Program} {ops : Array Oper} {L : List (List Row)} {st : St} {K : St → Prop} (h : K st) : DerY P F ops L [] st K := ⟨st, .nil _, h⟩
theorem DerY.quiet {F : Oper → Bool} {P : Program} {ops : Array Oper} {L : List (List Row)} {o : Oper} {l : List Oper} {st : St} {K : St → Prop} (cs : List Prop) (v : AVal) (st1 : St)
    (h : quietL P o (ev st.regs) v L cs) (hw : wantA ops o st.regs = some true ∧ st.put o.dst v st.rows = st1) (hk : DerY P F ops L l st1 K) : DerY P F ops L (o :: l) st K := by
  obtain ⟨h1, rfl⟩ := hw
  obtain ⟨st', k1, k2⟩ := hk
  exact ⟨st', .quiet o l _ _ v h1 (quietL_spec h) k1, k2⟩
theorem DerY.eff {F : Oper → Bool} {P : Program} {ops : Array Oper} {L : List (List Row)} {o : Oper} {l : List Oper} {st : St} {K : St → Prop} (k : Nat) (c : Prop) (v : AVal) (rows' : List Row) (st1 : St)
    (h : sop P o (ev st.regs) st.rows = some ⟨c, v, rows'⟩) (hw : F o = true ∧ wantA ops o st.regs = some true ∧ L[k]? = some rows' ∧ st.put o.dst v rows' = st1) (hc : c) (hk : DerY P F ops L l st1 K) : DerY P F ops L (o :: l) st K := by
  obtain ⟨h0, h1, h2, rfl⟩ := hw
  obtain ⟨st', k1, k2⟩ := hk
  exact ⟨st', .eff o l _ _ v _ h0 h1 (sop_spec h hc) ⟨k, h2⟩ k1, k2⟩
theorem DerY.skip {F : Oper → Bool} {P : Program} {ops : Array Oper} {L : List (List Row)} {o : Oper} {l : List Oper} {st : St} {K : St → Prop} (st1 : St)
    (hw : wantA ops o st.regs = some false ∧ st.put o.dst (.tup []) st.rows = st1) (hk : DerY P F ops L l st1 K) : DerY P F ops L (o :: l) st K := by
  obtain ⟨h1, rfl⟩ := hw
  obtain ⟨st', k1, k2⟩ := hk
  exact ⟨st', .skip o l _ _ h1 k1, k2⟩
theorem DerY.callD {F : Oper → Bool} {P : Program} {ops : Array Oper} {L : List (List Row)} {o : Oper} {l : List Oper} {st : St} {K : St → Prop} {f : FuncId} {args : List AVal} {r : AVal} (he : EvD P f args r) (args' : List AVal) (st1 : St)
    (h : wantA ops o st.regs = some true ∧ callA P o (ev st.regs) = some (f, args') ∧ anyAll args' = args ∧ st.put o.dst r st.rows = st1) (hk : DerY P F ops L l st1 K) : DerY P F ops L (o :: l) st K := by
  obtain ⟨h1, h2, h3, rfl⟩ := h
  obtain ⟨st', k1, k2⟩ := hk
  exact ⟨st', .quiet o l _ _ r h1 (fun rows _ => callA_spec h2 (he.any h3 rows)) k1, k2⟩
end Go.Abs
namespace Go.Abs
open Go
theorem EvD.weak {P : Program} {f : FuncId} {args : List AVal} {r r' : AVal} (h : EvD P f args r) (hw : ∀ (E : Env) (v : Value), V E r v → V E r' v) : EvD P f args r' := fun rows X m w vs hr hvl => by
  refine (h rows X m w vs hr hvl).mono ?_
  rintro e w' ⟨v, m', rfl, h1, h2, h3, h4⟩
  exact ⟨v, m', rfl, h1, hw _ _ h2, h3, h4⟩
theorem V.tup_hide {E : Env} {x y : AVal} {v : Value} (h : V E (.tup [x, y]) v) : V E (.tup [.undef, y]) v := by
  obtain ⟨vs, rfl, hl, hv⟩ := h.tup_inv
  refine .tup _ vs (by simpa using hl) fun i hi => ?_
  match i, hi with
  | 0, _ => exact .undef _
  | 1, _ => simpa using hv 1 (by simp)
end Go.Abs
namespace Go.Abs
open Go
theorem u8s_spl (xs : List Int) (i : Nat) (v : Int) (h : i < xs.length) : spliceA (u8s xs) i (u8s [v]) = u8s (xs.set i v) := u8s_splice xs i v h
end Go.Abs
