/- Library: an abstract machine over the model, part 17. -/
import Derived.Test.YtmcjdeiicbgmhabAbs16
set_option linter.unusedVariables false
set_option linter.unusedSimpArgs false
namespace Go.Abs
open Go

/-- The rest of a region, operation by operation. -/
inductive DerL (P : Program) (ops : Array Oper) : List Oper → St → St → Prop
  | nil (st : St) : DerL P ops [] st st
  | op (o : Oper) (rest : List Oper) (st st' : St) (res : AVal) (rows' : List Row) (hw : wantA ops o st.regs = some true)
      (hs : OpS P o (ev st.regs) st.rows res rows') (h : DerL P ops rest (st.put o.dst res rows') st') : DerL P ops (o :: rest) st st'
  | skip (o : Oper) (rest : List Oper) (st st' : St) (hw : wantA ops o st.regs = some false)
      (h : DerL P ops rest (st.put o.dst (.tup []) st.rows) st') : DerL P ops (o :: rest) st st'

theorem DerL.der {P : Program} {ops : Array Oper} : ∀ {l : List Oper} {st st' : St} (k : Nat), (∀ j, l[j]? = ops[k + j]?) → DerL P ops l st st' → Der P ops (List.range' k l.length) st st'
  | [], st, st', k, _, h => by cases h; exact .nil _
  | o :: l, st, st', k, hk, h => by
    have h0 : ops[k]? = some o := by simpa using (hk 0).symm
    have hk' : ∀ j, l[j]? = ops[k + 1 + j]? := fun j => by have := hk (j + 1); simpa [Nat.add_assoc, Nat.add_comm 1 j] using this
    rw [List.length_cons, List.range'_succ]
    cases h with
    | op _ _ _ _ res rows' hw hs h => exact .op k _ _ _ o res rows' h0 hw hs (DerL.der (k + 1) hk' h)
    | skip _ _ _ _ hw h => exact .skip k _ _ _ o h0 hw (DerL.der (k + 1) hk' h)

theorem AWP.regionL {P : Program} {N : Nat} {Q : Exit → St → Prop} {st st' : St} {id : Nat} {l : List Oper} (h : DerL P l.toArray l st st') (hq : Q .normal st') : AWP P N (.region id l.toArray false) Q st := by
  refine AWP.region ?_ hq
  have := h.der 0 (fun j => by simp)
  rw [List.range_eq_range']
  simpa using this

/-- Operations without calls, all at once. -/
def runL (P : Program) (ops : Array Oper) : List Oper → St → Option (Prop × St)
  | [], st => some (True, st)
  | o :: r, st => match wantA ops o st.regs with
    | some true => match sop P o (ev st.regs) st.rows with
      | some q => match runL P ops r (st.put o.dst q.v q.rows) with
        | some (c, st') => some (q.ok ∧ c, st')
        | none => none
      | none => none
    | some false => runL P ops r (st.put o.dst (.tup []) st.rows)
    | none => none
theorem runL_spec {P : Program} {ops : Array Oper} : ∀ {l : List Oper} {st st' : St} {c : Prop}, runL P ops l st = some (c, st') → c → DerL P ops l st st'
  | [], st, st', c, h, hc => by simp [runL] at h; rw [h.2]; exact .nil _
  | o :: l, st, st', c, h, hc => by
    simp only [runL] at h
    split at h
    · rename_i hw
      split at h
      · rename_i q hq
        split at h
        · rename_i c2 st2 hr
          simp only [Option.some.injEq, Prod.mk.injEq] at h
          obtain ⟨rfl, rfl⟩ := h
          exact .op o l _ _ _ _ hw (sop_spec hq hc.1) (runL_spec hr hc.2)
        · simp at h
      · simp at h
    · rename_i hw
      exact .skip o l _ _ hw (runL_spec h hc)
    · simp at h
/-- The rest of a region, and what is wanted behind it. -/
def DerQ (P : Program) (ops : Array Oper) (l : List Oper) (st : St) (K : St → Prop) : Prop := ∃ st', DerL P ops l st st' ∧ K st'

theorem DerQ.nil {P : Program} {ops : Array Oper} {st : St} {K : St → Prop} (h : K st) : DerQ P ops [] st K := ⟨st, .nil _, h⟩
theorem runL_app {P : Program} {ops : Array Oper} : ∀ {l1 l2 : List Oper} {st st1 st' : St} {c : Prop}, runL P ops l1 st = some (c, st1) → c → DerL P ops l2 st1 st' → DerL P ops (l1 ++ l2) st st'
  | [], l2, st, st1, st', c, h, hc, hd => by simp [runL] at h; rw [h.2]; exact hd
  | o :: l, l2, st, st1, st', c, h, hc, hd => by
    simp only [runL] at h
    split at h
    · rename_i hw
      split at h
      · rename_i q hq
        split at h
        · rename_i c2 st2 hr
          simp only [Option.some.injEq, Prod.mk.injEq] at h
          obtain ⟨rfl, rfl⟩ := h
          exact .op o _ _ _ _ _ hw (sop_spec hq hc.1) (runL_app hr hc.2 hd)
        · simp at h
      · simp at h
    · rename_i hw
      exact .skip o _ _ _ hw (runL_app h hc hd)
    · simp at h
/-- The first n operations, without calls. -/
theorem DerQ.pre {P : Program} {ops : Array Oper} {l : List Oper} {st : St} {K : St → Prop} (n : Nat) (c : Prop) (st1 : St) (h : runL P ops (l.take n) st = some (c, st1)) (hc : c) (hk : DerQ P ops (l.drop n) st1 K) : DerQ P ops l st K := by
  obtain ⟨st', h1, h2⟩ := hk
  exact ⟨st', by have := runL_app h hc h1; rwa [List.take_append_drop] at this, h2⟩
/-- All the rest, without calls. -/
theorem DerQ.run {P : Program} {ops : Array Oper} {l : List Oper} {st : St} {K : St → Prop} (c : Prop) (st1 : St) (h : runL P ops l st = some (c, st1)) (hc : c) (hk : K st1) : DerQ P ops l st K := ⟨st1, runL_spec h hc, hk⟩

/-- What is called, with what. -/
def callA (P : Program) (o : Oper) (ρ : Operand → AVal) : Option (FuncId × List AVal) :=
  match o.op with
  | .call c => match c.callee with
    | .value fop => match ρ fop with
      | .fn f cap => if enterable P f then some (f, c.args.toList.map ρ ++ cap) else none
      | _ => none
    | _ => none
  | _ => none
theorem callA_spec {P : Program} {o : Oper} {ρ : Operand → AVal} {f : FuncId} {args : List AVal} {rows rows' : List Row} {r : AVal} (h : callA P o ρ = some (f, args)) (he : EvF P f args rows r rows') : OpS P o ρ rows r rows' := by
  unfold callA at h
  split at h
  · rename_i c ho
    split at h
    · rename_i fop hc
      split at h
      · rename_i f2 cap hf
        split at h
        · rename_i hen
          simp only [Option.some.injEq, Prod.mk.injEq] at h
          obtain ⟨rfl, rfl⟩ := h
          exact OpS.call ho hc hf rfl hen he
        · simp at h
      · simp at h
    · simp at h
  · simp at h

/-- A contract that speaks of data alone. -/
def EvD (P : Program) (f : FuncId) (args : List AVal) (r : AVal) : Prop := ∀ rows, EvF P f args rows r rows
theorem EvD.of {P : Program} {f : FuncId} {args : List AVal} {r : AVal} (hd : dataAll args = true) (hr : r.data = true) (h : EvF P f args [] r []) : EvD P f args r := fun rows => h.lift hd hr rows

theorem DerQ.call {P : Program} {ops : Array Oper} {o : Oper} {l : List Oper} {st : St} {K : St → Prop} {f : FuncId} {args : List AVal} {r : AVal} {rows' : List Row} (he : EvF P f args st.rows r rows') (st1 : St)
    (h : wantA ops o st.regs = some true ∧ callA P o (ev st.regs) = some (f, args) ∧ st.put o.dst r rows' = st1) (hk : DerQ P ops l st1 K) : DerQ P ops (o :: l) st K := by
  obtain ⟨h1, h2, h3⟩ := h
  subst h3
  obtain ⟨st', k1, k2⟩ := hk
  exact ⟨st', .op o l _ _ _ _ h1 (callA_spec h2 he) k1, k2⟩
theorem DerQ.callD {P : Program} {ops : Array Oper} {o : Oper} {l : List Oper} {st : St} {K : St → Prop} {f : FuncId} {args : List AVal} {r : AVal} (he : EvD P f args r) (st1 : St)
    (h : wantA ops o st.regs = some true ∧ callA P o (ev st.regs) = some (f, args) ∧ st.put o.dst r st.rows = st1) (hk : DerQ P ops l st1 K) : DerQ P ops (o :: l) st K :=
  DerQ.call (he st.rows) st1 h hk

theorem AWP.reg {P : Program} {N : Nat} {Q : Exit → St → Prop} {st : St} {id : Nat} {l : List Oper} (h : DerQ P l.toArray l st (Q .normal)) : AWP P N (.region id l.toArray false) Q st :=
  let ⟨_, h1, h2⟩ := h; AWP.regionL h1 h2
end Go.Abs
