/- Library: an abstract machine over the model, part C. -/
import Derived.Deep.RegionLaw
import Derived.Lib.AppendZerosOnto
import Derived.Lib.JoinLaws
import Derived.Lib.Overlaps
import Derived.RangeFuncFrom
import Derived.RangeFuncLeaves
import Derived.RangeFuncRecord
import Derived.Shelf.Spec.SlicesInsertGrow
import Derived.Test.YtikllaiggklljaaLibB
set_option linter.unusedVariables false
set_option linter.unusedSimpArgs false
namespace Go.Abs
open Go
inductive DerTL (P : Program) (K : Oper → Nat) (ops : Array Oper) (R : (Nat → Row) → List Row) : List Oper → St → St → Prop
  | nil (st : St) : DerTL P K ops R [] st st
  | mv (o : Oper) (rest : List Oper) (st st' : St) (res : AVal) (m : Mu) (hk : m.fits (K o) = true) (hw : wantA ops o st.regs = some true)
      (hs : ∀ rows, m.D R rows → OpS P o (ev st.regs) rows res (m.act rows)) (hd : m.D R st.rows) (h : DerTL P K ops R rest (st.put o.dst res (m.act st.rows)) st') : DerTL P K ops R (o :: rest) st st'
  | eff (o : Oper) (rest : List Oper) (st st' : St) (res : AVal) (rows' : List Row) (he : K o = 3) (hw : wantA ops o st.regs = some true)
      (hs : OpS P o (ev st.regs) st.rows res rows') (hg : GT R rows') (h : DerTL P K ops R rest (st.put o.dst res rows') st') : DerTL P K ops R (o :: rest) st st'
  | skip (o : Oper) (rest : List Oper) (st st' : St) (hw : wantA ops o st.regs = some false)
      (h : DerTL P K ops R rest (st.put o.dst (.tup []) st.rows) st') : DerTL P K ops R (o :: rest) st st'
theorem DerTL.der {K : Oper → Nat} {P : Program} {ops : Array Oper} {R : (Nat → Row) → List Row} : ∀ {l : List Oper} {st st' : St} (k : Nat), (∀ j, l[j]? = ops[k + j]?) → DerTL P K ops R l st st' → DerT P K ops R (List.range' k l.length) st st'
  | [], st, st', k, _, h => by cases h; exact .nil _
  | o :: l, st, st', k, hk, h => by
    have h0 : ops[k]? = some o := by simpa using (hk 0).symm
    have hk' : ∀ j, l[j]? = ops[k + 1 + j]? := fun j => by have := hk (j + 1); simpa [Nat.add_assoc, Nat.add_comm 1 j] using this
    rw [List.length_cons, List.range'_succ]
    cases h with
    | mv _ _ _ _ res m hk1 hw hs hd h => exact .mv k _ _ _ o res m h0 hk1 hw hs hd (DerTL.der (k + 1) hk' h)
    | eff _ _ _ _ res rows' he hw hs hg h => exact .eff k _ _ _ o res rows' h0 he hw hs hg (DerTL.der (k + 1) hk' h)
    | skip _ _ _ _ hw h => exact .skip k _ _ _ o h0 hw (DerTL.der (k + 1) hk' h)
def rowAt (rows : List Row) (i : Nat) : Row := rows.getD i ub
/-- A region in which rows come into being in any order, and some of the old ones are stored into. -/
def DerU (P : Program) (K0 : Oper → Nat) (ops : Array Oper) (R : (Nat → Row) → List Row) (l : List Oper) (st : St) (K : St → Prop) : Prop :=
  GT R st.rows → ∃ st', DerTL P K0 ops R l st st' ∧ K st'
theorem AWP.drawT {P : Program} {N : Nat} {Q : Exit → St → Prop} {st : St} {id : Nat} {l : List Oper} (hm : P.follows .mixedOrders = true) (K0 : Oper → Nat) (k : Nat) (R : (Nat → Row) → List Row) (st1 : St) (h1 : (⟨st.regs, st.rows ++ List.replicate k ub⟩ : St) = st1) (hR : R (rowAt st1.rows) = st1.rows) (hok : drawOkU K0 l = true)
    (h : DerU P K0 l.toArray R l st1 (Q .normal)) : AWP P N (.region id l.toArray true) Q st := by
  subst h1
  refine AWP.weaken (reserve_weak N k st) ?_
  have hg : GT R (st.rows ++ List.replicate k ub) := ⟨_, [], by rw [List.append_nil]; exact hR.symm⟩
  obtain ⟨st', h1, h2⟩ := h hg
  refine AWP.drawT0 hm R hg hok ?_ h2
  have := h1.der 0 (fun j => by simp)
  rw [List.range_eq_range']
  simpa using this
/-- what stands at one place is another one -/
def updR (x : Nat → Row) (k : Nat) (r : Row) (i : Nat) : Row := if i = k then r else x i
theorem DerU.nil {K0 : Oper → Nat} {P : Program} {ops : Array Oper} {R : (Nat → Row) → List Row} {st : St} {K : St → Prop} (h : K st) : DerU P K0 ops R [] st K := fun _ => ⟨st, .nil _, h⟩
theorem of_u3 {k : Nat} (h : (k == 3) = true) : k = 3 := by simpa using h
theorem DerU.skip {K0 : Oper → Nat} {P : Program} {ops : Array Oper} {R : (Nat → Row) → List Row} {o : Oper} {l : List Oper} {st : St} {K : St → Prop} (st1 : St)
    (hw : wantA ops o st.regs = some false ∧ st.put o.dst (.tup []) st.rows = st1) (hk : DerU P K0 ops R l st1 K) : DerU P K0 ops R (o :: l) st K := by
  obtain ⟨h1, rfl⟩ := hw
  intro hG
  obtain ⟨st', k1, k2⟩ := hk (by rw [rows_put]; exact hG)
  exact ⟨st', .skip o l _ _ h1 k1, k2⟩
theorem DerU.callD {K0 : Oper → Nat} {P : Program} {ops : Array Oper} {R : (Nat → Row) → List Row} {o : Oper} {l : List Oper} {st : St} {K : St → Prop} {f : FuncId} {args : List AVal} {r : AVal} (he : EvD P f args r) (st1 : St)
    (h : wantA ops o st.regs = some true ∧ callA P o (ev st.regs) = some (f, args) ∧ st.put o.dst r st.rows = st1) (hk : DerU P K0 ops R l st1 K) : DerU P K0 ops R (o :: l) st K := by
  obtain ⟨h1, h2, rfl⟩ := h
  intro hG
  obtain ⟨st', k1, k2⟩ := hk (by rw [rows_put]; exact hG)
  exact ⟨st', .mv o l _ _ r .id rfl h1 (fun rows _ => callA_spec h2 (he rows)) hG k1, k2⟩
theorem DerU.callK {K0 : Oper → Nat} {P : Program} {ops : Array Oper} {R : (Nat → Row) → List Row} {o : Oper} {l : List Oper} {st : St} {K : St → Prop} {f : FuncId} {args : List AVal} {r0 r1 : Row} {r : AVal} (he : EvK P f args r0 r r1) (nR id : Nat) (args' : List AVal) (st1 : St)
    (h : ((K0 o == 3) = true ∧ R (rowAt (st.rows.set id r1)) ++ List.drop nR (st.rows.set id r1) = st.rows.set id r1) ∧ wantA ops o st.regs = some true ∧ Abs.callA P o (ev st.regs) = some (f, args') ∧ st.rows[id]? = some r0 ∧ anyAll args' = renAll (fun _ => id) args ∧ st.put o.dst r (st.rows.set id r1) = st1) (hk : DerU P K0 ops R l st1 K) : DerU P K0 ops R (o :: l) st K := by
  obtain ⟨h0, h1, h2, h3, h4, rfl⟩ := h
  intro hG
  have hg : GT R (st.rows.set id r1) := ⟨_, _, h0.2.symm⟩
  obtain ⟨st', k1, k2⟩ := hk (by rw [rows_put]; exact hg)
  exact ⟨st', .eff o l _ _ r _ (of_u3 h0.1) h1 (callA_spec h2 (he.at h3 h4)) hg k1, k2⟩
theorem DerU.touch {K0 : Oper → Nat} {P : Program} {ops : Array Oper} {R : (Nat → Row) → List Row} {o : Oper} {l : List Oper} {st : St} {K : St → Prop} (k : Nat) (r0 r1 : Row) (c : Prop) (v : AVal) (st1 : St)
    (h : ∀ x ext, sop P o (ev st.regs) (R (updR x k r0) ++ ext) = some ⟨c, v, R (updR x k r1) ++ ext⟩)
    (hw : wantA ops o st.regs = some true ∧ (K0 o == 4 + k) = true ∧ st.rows[k]? = some r0 ∧ (∀ x, (R x).set k r0 = R (updR x k r0)) ∧ (∀ x, (R x).set k r1 = R (updR x k r1)) ∧ (∀ x, Nat.blt k (R x).length = true) ∧ st.put o.dst v (st.rows.set k r1) = st1) (hc : c) (hk : DerU P K0 ops R l st1 K) : DerU P K0 ops R (o :: l) st K := by
  obtain ⟨h1, h2, h3, h4, h4', h5, rfl⟩ := hw
  intro hG
  have h5' : ∀ x, k < (R x).length := fun x => Nat.le_of_ble_eq_true (h5 x)
  have hs : ∀ l', GT R l' → GT R (l'.set k r1) := by
    rintro l' ⟨x, e, rfl⟩
    exact ⟨_, e, by rw [List.set_append_left _ _ (h5' x), h4' x]⟩
  obtain ⟨st', k1, k2⟩ := hk (by rw [rows_put]; exact hs _ hG)
  refine ⟨st', .mv o l _ _ _ (.set k r0 r1) (by simp only [Mu.fits, Bool.or_eq_true]; exact .inr h2) h1 (fun rows hd => ?_) ⟨hG, h3, h5', hs⟩ k1, k2⟩
  obtain ⟨⟨x, e, rfl⟩, g2, _, _⟩ := hd
  rw [List.getElem?_append_left (h5' x)] at g2
  have e0 : R (updR x k r0) = R x := by
    rw [← h4 x]
    exact List.ext_getElem? fun i => by
      rw [List.getElem?_set]
      split
      · rename_i hik; subst hik
        split
        · exact g2.symm
        · rename_i hlt; exact absurd (h5' x) hlt
      · rfl
  have e1 : (R x ++ e).set k r1 = R (updR x k r1) ++ e := by rw [List.set_append_left _ _ (h5' x), h4' x]
  show OpS P o (ev st.regs) (R x ++ e) v ((R x ++ e).set k r1)
  rw [e1, ← e0]
  have := sop_spec (h x e) hc
  exact this
theorem DerU.preAux {K0 : Oper → Nat} {P : Program} {ops : Array Oper} {R : (Nat → Row) → List Row} {K : St → Prop} {l2 : List Oper} : ∀ (l1 : List Oper) (st : St) (vals regs' : List AVal),
    (∀ x ext, ∃ c : Prop, c ∧ runQ P ops (R x ++ ext) l1 st.regs = some (c, regs', vals.map fun v => (v, R x ++ ext))) → DerU P K0 ops R l2 ⟨regs', st.rows⟩ K → DerU P K0 ops R (l1 ++ l2) st K
  | [], st, vals, regs', h, hk => by
    obtain ⟨c, _, h1⟩ := h (fun _ => ub) []
    simp only [runQ, Option.some.injEq, Prod.mk.injEq] at h1
    obtain ⟨_, h2, _⟩ := h1
    subst h2
    exact hk
  | o :: l, st, vals, regs', h, hk => by
    cases hw : wantA ops o st.regs with
    | none =>
      obtain ⟨c, _, h1⟩ := h (fun _ => ub) []
      simp [runQ, hw] at h1
    | some b =>
      cases b with
      | false =>
        refine DerU.skip _ ⟨hw, rfl⟩ ?_
        refine DerU.preAux l _ vals regs' (fun x ext => ?_) ?_
        · obtain ⟨c, hc, h1⟩ := h x ext
          simp only [runQ, hw] at h1
          rw [put_regs] at h1
          exact ⟨c, hc, h1⟩
        · rw [put_rows]; exact hk
      | true =>
        have step : ∀ x ext, ∃ q c, sop P o (ev st.regs) (R x ++ ext) = some q ∧ q.ok ∧ c ∧ ∃ L, (q.v, q.rows) :: L = vals.map (fun v => (v, R x ++ ext)) ∧ runQ P ops (R x ++ ext) l (st.put o.dst q.v st.rows).regs = some (c, regs', L) := by
          intro x ext
          obtain ⟨c, hc, h1⟩ := h x ext
          simp only [runQ, hw] at h1
          split at h1
          · rename_i q hq
            split at h1
            · rename_i c2 r L h2
              simp only [Option.some.injEq, Prod.mk.injEq] at h1
              obtain ⟨rfl, rfl, h3⟩ := h1
              rw [put_regs] at h2
              exact ⟨q, c2, hq, hc.1, hc.2, L, h3, h2⟩
            · simp at h1
          · simp at h1
        cases vals with
        | nil =>
          obtain ⟨q, c, _, _, _, L, h3, _⟩ := step (fun _ => ub) []
          simp at h3
        | cons v vals =>
          have hk2 : DerU P K0 ops R (l ++ l2) (st.put o.dst v st.rows) K := by
            refine DerU.preAux l _ vals regs' (fun x ext => ?_) (by rw [put_rows]; exact hk)
            obtain ⟨q, c, _, _, hc, L, h3, h4⟩ := step x ext
            simp only [List.map_cons, List.cons.injEq, Prod.mk.injEq] at h3
            obtain ⟨⟨rfl, _⟩, rfl⟩ := h3
            exact ⟨c, hc, h4⟩
          intro hG
          obtain ⟨st', k1, k2⟩ := hk2 (by rw [rows_put]; exact hG)
          refine ⟨st', .mv o _ _ _ v .id rfl hw (fun rows ⟨x, ext, he⟩ => ?_) hG k1, k2⟩
          subst he
          obtain ⟨q, c, hq, hok, _, L, h3, _⟩ := step x ext
          simp only [List.map_cons, List.cons.injEq, Prod.mk.injEq] at h3
          obtain ⟨⟨rfl, hr⟩, _⟩ := h3
          have := sop_spec hq hok
          rwa [hr] at this
/-- The first n operations that change no rows. -/
theorem DerU.pre {K0 : Oper → Nat} {P : Program} {ops : Array Oper} {R : (Nat → Row) → List Row} {l : List Oper} {st : St} {K : St → Prop} (n : Nat) (c : Prop) (vals : List AVal) (st1 : St)
    (h : ∀ x ext, runQ P ops (R x ++ ext) (l.take n) st.regs = some (c, st1.regs, vals.map fun v => (v, R x ++ ext))) (hr : st1.rows = st.rows) (hc : c) (hk : DerU P K0 ops R (l.drop n) st1 K) : DerU P K0 ops R l st K := by
  have := DerU.preAux (K0 := K0) (K := K) (l2 := l.drop n) (l.take n) st vals st1.regs (fun x ext => ⟨c, hc, h x ext⟩) (by rw [← hr]; exact hk)
  rwa [List.take_append_drop] at this
end Go.Abs

set_option linter.unusedVariables false
namespace Go.Abs
open Go
/-- an operation's name in a table -/
def keyW (o : Oper) : Nat := match o.op with
  | .store _ (.tmp t) _ => 1000 + t
  | _ => o.dst.getD 0
def kindOf : List (Nat × Nat) → Nat → Nat
  | [], _ => 0
  | (a, b) :: l, n => if a = n then b else kindOf l n
end Go.Abs

set_option linter.unusedVariables false
set_option linter.unusedSimpArgs false
namespace Go.Abs
open Go
/-- The state behind some operations, not written out. -/
def runS (P : Program) (ops : Array Oper) (l : List Oper) (st : St) : St := match runL P ops l st with
  | some q => q.2
  | none => st
def runC (P : Program) (ops : Array Oper) (l : List Oper) (st : St) : Option Prop := match runL P ops l st with
  | some q => some q.1
  | none => none
theorem runL_of {P : Program} {ops : Array Oper} {l : List Oper} {st : St} {c : Prop} (h : runC P ops l st = some c) : runL P ops l st = some (c, runS P ops l st) := by
  unfold runC at h
  unfold runS
  cases e : runL P ops l st with
  | none => rw [e] at h; cases h
  | some q => rw [e] at h; cases h; rfl
theorem DerQ.preI {P : Program} {ops : Array Oper} {l : List Oper} {st : St} {K : St → Prop} (n : Nat) (c : Prop) (h : runC P ops (l.take n) st = some c) (hc : c) (hk : DerQ P ops (l.drop n) (runS P ops (l.take n) st) K) : DerQ P ops l st K :=
  DerQ.pre n c _ (runL_of h) hc hk
theorem DerQ.runI {P : Program} {ops : Array Oper} {l : List Oper} {st : St} {K : St → Prop} (c : Prop) (h : runC P ops l st = some c) (hc : c) (hk : K (runS P ops l st)) : DerQ P ops l st K :=
  DerQ.run c _ (runL_of h) hc hk
def callB (P : Program) (o : Oper) (ρ : Operand → AVal) : Option (FuncId × List AVal) := match callA P o ρ with
  | some q => some (q.1, anyAll q.2)
  | none => none
theorem callB_of {P : Program} {o : Oper} {ρ : Operand → AVal} {f : FuncId} {args : List AVal} (h : callB P o ρ = some (f, args)) : ∃ args', callA P o ρ = some (f, args') ∧ anyAll args' = args := by
  unfold callB at h
  cases e : callA P o ρ with
  | none => rw [e] at h; cases h
  | some q => rw [e] at h; cases h; exact ⟨q.2, rfl, rfl⟩
def sopV (P : Program) (o : Oper) (st : St) : AVal := match sop P o (ev st.regs) st.rows with
  | some q => q.v
  | none => .undef
def sopR (P : Program) (o : Oper) (st : St) : List Row := match sop P o (ev st.regs) st.rows with
  | some q => q.rows
  | none => st.rows
def sopC (P : Program) (o : Oper) (st : St) : Option Prop := match sop P o (ev st.regs) st.rows with
  | some q => some q.ok
  | none => none
theorem sop_of {P : Program} {o : Oper} {st : St} {c : Prop} (h : sopC P o st = some c) : sop P o (ev st.regs) st.rows = some ⟨c, sopV P o st, sopR P o st⟩ := by
  unfold sopC at h
  unfold sopV sopR
  cases e : sop P o (ev st.regs) st.rows with
  | none => rw [e] at h; cases h
  | some q => rw [e] at h; cases h; rfl
/-- what some quiet operations leave: registers, values -/
def quR (P : Program) (ops : Array Oper) (rows : List Row) (l : List Oper) (regs : List AVal) : List AVal := match runQ P ops rows l regs with
  | some q => q.2.1
  | none => regs
def quV (P : Program) (ops : Array Oper) (rows : List Row) (l : List Oper) (regs : List AVal) : List AVal := match runQ P ops rows l regs with
  | some q => q.2.2.map (·.1)
  | none => []
theorem DerQ.callDI {P : Program} {ops : Array Oper} {o : Oper} {l : List Oper} {st : St} {K : St → Prop} {f : FuncId} {args : List AVal} {r : AVal} (he : EvD P f args r) (h : wantA ops o st.regs = some true ∧ Abs.callA P o (ev st.regs) = some (f, args)) (hk : DerQ P ops l (st.put o.dst r st.rows) K) : DerQ P ops (o :: l) st K :=
  DerQ.callD he _ ⟨h.1, h.2, rfl⟩ hk
theorem DerQ.callEI {P : Program} {ops : Array Oper} {o : Oper} {l : List Oper} {st : St} {K : St → Prop} {f : FuncId} {args : List AVal} {r : AVal} (he : EvD P f args r) (h : wantA ops o st.regs = some true ∧ Abs.callB P o (ev st.regs) = some (f, args)) (hk : DerQ P ops l (st.put o.dst r st.rows) K) : DerQ P ops (o :: l) st K := by
  obtain ⟨args', h1, h2⟩ := callB_of h.2
  exact DerQ.callE he args' _ ⟨h.1, h1, h2, rfl⟩ hk
theorem DerX.callDI {P : Program} {ops : Array Oper} {o : Oper} {l : List Oper} {st : St} {K : St → Prop} {F : Oper → Bool} {R : List Row} {f : FuncId} {args : List AVal} {r : AVal} (he : EvD P f args r) (h : wantA ops o st.regs = some true ∧ Abs.callA P o (ev st.regs) = some (f, args)) (hk : DerX P F ops R l (st.put o.dst r st.rows) K) : DerX P F ops R (o :: l) st K :=
  DerX.callD he _ ⟨h.1, h.2, rfl⟩ hk
theorem DerX.preI {P : Program} {ops : Array Oper} {l : List Oper} {st : St} {K : St → Prop} {F : Oper → Bool} {R : List Row} (n : Nat) (c : Prop) (h : ∀ ext, runQ P ops (R ++ ext) (l.take n) st.regs = some (c, quR P ops st.rows (l.take n) st.regs, (quV P ops st.rows (l.take n) st.regs).map fun v => (v, R ++ ext))) (hc : c)
    (hk : DerX P F ops R (l.drop n) ⟨quR P ops st.rows (l.take n) st.regs, st.rows⟩ K) : DerX P F ops R l st K :=
  DerX.pre n c _ ⟨quR P ops st.rows (l.take n) st.regs, st.rows⟩ h rfl hc hk
theorem DerZ.callDI {P : Program} {ops : Array Oper} {o : Oper} {l : List Oper} {st : St} {K : St → Prop} {K0 : Oper → Nat} {n0 : Nat} {R : (Nat → List AVal) → List Row} {f : FuncId} {args : List AVal} {r : AVal} (he : EvD P f args r) (h : wantA ops o st.regs = some true ∧ Abs.callA P o (ev st.regs) = some (f, args)) (hk : DerZ P K0 ops R l (st.put o.dst r st.rows) K n0) : DerZ P K0 ops R (o :: l) st K n0 :=
  DerZ.callD he _ ⟨h.1, h.2, rfl⟩ hk
theorem DerZ.quietI {P : Program} {ops : Array Oper} {o : Oper} {l : List Oper} {st : St} {K : St → Prop} {K0 : Oper → Nat} {n0 : Nat} {R : (Nat → List AVal) → List Row} (c : Prop) (h : ∀ x ext, sop P o (ev st.regs) (R x ++ ext) = some ⟨c, sopV P o st, R x ++ ext⟩) (hw : wantA ops o st.regs = some true) (hc : c) (hk : DerZ P K0 ops R l (st.put o.dst (sopV P o st) st.rows) K n0) : DerZ P K0 ops R (o :: l) st K n0 :=
  DerZ.quiet c _ _ h ⟨hw, rfl⟩ hc hk
theorem DerZ.preI {P : Program} {ops : Array Oper} {l : List Oper} {st : St} {K : St → Prop} {K0 : Oper → Nat} {n0 : Nat} {R : (Nat → List AVal) → List Row} (n : Nat) (c : Prop) (h : ∀ x ext, runQ P ops (R x ++ ext) (l.take n) st.regs = some (c, quR P ops st.rows (l.take n) st.regs, (quV P ops st.rows (l.take n) st.regs).map fun v => (v, R x ++ ext))) (hc : c)
    (hk : DerZ P K0 ops R (l.drop n) ⟨quR P ops st.rows (l.take n) st.regs, st.rows⟩ K n0) : DerZ P K0 ops R l st K n0 :=
  DerZ.pre n c _ ⟨quR P ops st.rows (l.take n) st.regs, st.rows⟩ h rfl hc hk
theorem DerU.callDI {P : Program} {ops : Array Oper} {o : Oper} {l : List Oper} {st : St} {K : St → Prop} {K0 : Oper → Nat} {R : (Nat → Row) → List Row} {f : FuncId} {args : List AVal} {r : AVal} (he : EvD P f args r) (h : wantA ops o st.regs = some true ∧ Abs.callA P o (ev st.regs) = some (f, args)) (hk : DerU P K0 ops R l (st.put o.dst r st.rows) K) : DerU P K0 ops R (o :: l) st K :=
  DerU.callD he _ ⟨h.1, h.2, rfl⟩ hk
theorem DerU.preI {P : Program} {ops : Array Oper} {l : List Oper} {st : St} {K : St → Prop} {K0 : Oper → Nat} {R : (Nat → Row) → List Row} (n : Nat) (c : Prop) (h : ∀ x ext, runQ P ops (R x ++ ext) (l.take n) st.regs = some (c, quR P ops st.rows (l.take n) st.regs, (quV P ops st.rows (l.take n) st.regs).map fun v => (v, R x ++ ext))) (hc : c)
    (hk : DerU P K0 ops R (l.drop n) ⟨quR P ops st.rows (l.take n) st.regs, st.rows⟩ K) : DerU P K0 ops R l st K :=
  DerU.pre n c _ ⟨quR P ops st.rows (l.take n) st.regs, st.rows⟩ h rfl hc hk
theorem DerZ.effI {P : Program} {ops : Array Oper} {o : Oper} {l : List Oper} {st : St} {K : St → Prop} {K0 : Oper → Nat} {n0 : Nat} {R : (Nat → List AVal) → List Row} (nR : Nat) (c : Prop) (h : sopC P o st = some c) (hw : ((K0 o == 3 && Nat.ble n0 (sopR P o st).length) = true ∧ R (cellsAt (sopR P o st)) ++ List.drop nR (sopR P o st) = sopR P o st) ∧ wantA ops o st.regs = some true) (hc : c) (hk : DerZ P K0 ops R l (st.put o.dst (sopV P o st) (sopR P o st)) K n0) : DerZ P K0 ops R (o :: l) st K n0 :=
  DerZ.eff nR c _ _ _ (sop_of h) ⟨hw.1, hw.2, rfl⟩ hc hk
/-- what is born -/
def bornR (P : Program) (o : Oper) (ρ : Operand → AVal) : Row := match birthA P o ρ with
  | some q => ⟨q.1, q.2, .fresh⟩
  | none => ub
def bornB (P : Program) (o : Oper) (ρ : Operand → AVal) : Bool := match birthA P o ρ with
  | some _ => true
  | none => false
theorem DerU.touchI {P : Program} {ops : Array Oper} {o : Oper} {l : List Oper} {st : St} {K : St → Prop} {K0 : Oper → Nat} {R : (Nat → Row) → List Row} (k : Nat) (c : Prop)
    (h : ∀ x ext, sop P o (ev st.regs) (R (updR x k (rowAt st.rows k)) ++ ext) = some ⟨c, sopV P o st, R (updR x k (rowAt (sopR P o st) k)) ++ ext⟩)
    (hw : wantA ops o st.regs = some true ∧ (K0 o == 4 + k) = true ∧ Nat.blt k st.rows.length = true ∧ (∀ x, (R x).set k (rowAt st.rows k) = R (updR x k (rowAt st.rows k))) ∧ (∀ x, (R x).set k (rowAt (sopR P o st) k) = R (updR x k (rowAt (sopR P o st) k))) ∧ (∀ x, Nat.blt k (R x).length = true)) (hc : c)
    (hk : DerU P K0 ops R l (st.put o.dst (sopV P o st) (st.rows.set k (rowAt (sopR P o st) k))) K) : DerU P K0 ops R (o :: l) st K :=
  DerU.touch k _ _ c _ _ h ⟨hw.1, hw.2.1, by
    have : k < st.rows.length := Nat.le_of_ble_eq_true hw.2.2.1
    simp [rowAt, List.getD_eq_getElem?_getD, this], hw.2.2.2.1, hw.2.2.2.2.1, hw.2.2.2.2.2, rfl⟩ hc hk
theorem DerQ.callAI {P : Program} {ops : Array Oper} {o : Oper} {l : List Oper} {st : St} {K : St → Prop} {f : FuncId} {args : List AVal} {r : Nat → AVal} {ext : Nat → List Row} (he : EvA P f args r ext) (h : wantA ops o st.regs = some true ∧ Abs.callB P o (ev st.regs) = some (f, args)) (hk : DerQ P ops l (st.put o.dst (r st.rows.length) (st.rows ++ ext st.rows.length)) K) : DerQ P ops (o :: l) st K := by
  obtain ⟨args', h1, h2⟩ := callB_of h.2
  exact DerQ.callA he args' _ ⟨h.1, h1, h2, rfl⟩ hk
end Go.Abs

set_option linter.unusedVariables false
set_option linter.unusedSimpArgs false
namespace Go.Abs
open Go
end Go.Abs

set_option linter.unusedVariables false
set_option linter.unusedSimpArgs false
namespace Go.Abs
open Go
/-! Short names for steps that are taken often. -/
theorem RT {P : Program} {ops : Array Oper} {l : List Oper} {st : St} {K : St → Prop} (n : Nat) (hk : K (runS P ops l st)) (h : runC P ops l st = some (TT n) := by kernel_rfl) : DerQ P ops l st K := DerQ.runI (TT n) h (tt n) hk
theorem RI {P : Program} {ops : Array Oper} {l : List Oper} {st : St} {K : St → Prop} (c : Prop) (hc : c) (hk : K (runS P ops l st)) (h : runC P ops l st = some c := by kernel_rfl) : DerQ P ops l st K := DerQ.runI c h hc hk
theorem PT {P : Program} {ops : Array Oper} {l : List Oper} {st : St} {K : St → Prop} (n k : Nat) (hk : DerQ P ops (l.drop n) (runS P ops (l.take n) st) K) (h : runC P ops (l.take n) st = some (TT k) := by kernel_rfl) : DerQ P ops l st K := DerQ.preI n (TT k) h (tt k) hk
theorem PI {P : Program} {ops : Array Oper} {l : List Oper} {st : St} {K : St → Prop} (n : Nat) (c : Prop) (hc : c) (hk : DerQ P ops (l.drop n) (runS P ops (l.take n) st) K) (h : runC P ops (l.take n) st = some c := by kernel_rfl) : DerQ P ops l st K := DerQ.preI n c h hc hk
theorem KL {P : Program} {N : Nat} {c : Code} {Q : Exit → St → Prop} {st : St} (l : List Nat) (st' : St) (h : AWP P N c Q st') (he : (⟨killL l st.regs, st.rows⟩ : St) = st' := by kernel_rfl) : AWP P N c Q st := AWP.kill l st' he h
theorem SQ {P : Program} {N : Nat} {Q : Exit → St → Prop} {st : St} {id : Nat} {l : List Oper} {y : Code} (h : DerQ P l.toArray l st (thenQ (AWP P N y Q) Q .normal)) : AWP P N (.seq (.region id l.toArray false) y) Q st := AWP.seq (AWP.reg h)
theorem TO {P : Program} {N : Nat} {c : Code} {Q : Exit → St → Prop} {st : St} (st' : St) (k : AWP P N c Q st') (h : st = st' := by kernel_rfl) : AWP P N c Q st := h ▸ k
theorem CD {P : Program} {ops : Array Oper} {o : Oper} {l : List Oper} {st : St} {K : St → Prop} {f : FuncId} {args : List AVal} {r : AVal} (he : EvD P f args r) (hk : DerQ P ops l (st.put o.dst r st.rows) K) (h1 : wantA ops o st.regs = some true := by kernel_rfl) (h2 : Abs.callA P o (ev st.regs) = some (f, args) := by kernel_rfl) : DerQ P ops (o :: l) st K := DerQ.callDI he ⟨h1, h2⟩ hk
theorem FI {P : Program} {N : Nat} {rs : Array ResultVar} {st : St} {rows' : List Row} {r : AVal} {e : Exit} (r1 : AVal) (hs : Shrink N st.rows r1 rows' r) (he : e = .normal ∨ e = .ret := by simp) (h : resA' P rs st = some r1 := by kernel_rfl) : (e = .normal ∨ e = .ret) ∧ ∃ r1, resA' P rs st = some r1 ∧ Shrink N st.rows r1 rows' r := ⟨he, r1, h, hs⟩
theorem FA {P : Program} {rs : Array ResultVar} {st : St} {r : AVal} {e : Exit} (hd : r.data = true := by rfl) (he : e = .normal ∨ e = .ret := by simp) (h : resA' P rs st = some r := by kernel_rfl) : (e = .normal ∨ e = .ret) ∧ ∃ r1, resA' P rs st = some r1 ∧ Shrink 0 st.rows r1 [] r := ⟨he, r, h, Shrink.all rfl hd⟩
theorem CN {P : Program} {N : Nat} {Q : Exit → St → Prop} {st : St} {c : Operand} {x y : Code} (b : Bool) (ht : b = true → AWP P N x Q st) (hf : b = false → AWP P N y Q st) (hc : ev st.regs c = .sc (.bool b) := by kernel_rfl) : AWP P N (.cond c x y) Q st := AWP.cond (b := b) hc ht hf
/-- numbers one behind the other -/
def NN (a n : Nat) : List Nat := List.range' a n
end Go.Abs

set_option linter.unusedVariables false
set_option linter.unusedSimpArgs false
namespace Go.Abs
open Go
/-- A new row of which a slice without elements is answered: its cells are room. -/
theorem Shrink.room {r : Row} (hs : r.st = .fresh) : Shrink 0 [r] (.row 0 0 0) [⟨[], r.esz, .fresh⟩] (.row 0 0 0) := by
  intro X m w v hrel hv _
  have hget : ([r] : List Row)[0]? = some r := rfl
  have one : ∀ (i : Nat) (q : Row), ([⟨[], r.esz, .fresh⟩] : List Row)[i]? = some q → i = 0 ∧ q = ⟨[], r.esz, .fresh⟩ := by
    intro i q h
    cases i with
    | zero => exact ⟨rfl, by simpa using h.symm⟩
    | succ i => simp at h
  have hI : ∀ b o v, Imm ⟨[r], m, w, X⟩ b o → w.cell? ⟨b, o, none⟩ = some v → Imm ⟨[⟨[], r.esz, .fresh⟩], m, w, X⟩ b o ∧ w.cell? ⟨b, o, none⟩ = some v :=
    fun b o v hI hc => ⟨⟨hI.1, hI.2.1, fun id q h1 h2 h3 => by
      obtain ⟨rfl, rfl⟩ := one id q h1
      have := hI.2.2 0 r rfl (by simp [hs]) h3
      rw [hs] at this
      simp at this⟩, hc⟩
  have hevo : ∀ x u, V ⟨[r], m, w, X⟩ x u → x.refLt 0 = true → V ⟨[⟨[], r.esz, .fresh⟩], m, w, X⟩ x u := fun x u hx hlt =>
    V.mono (E := ⟨[r], m, w, X⟩) (E' := ⟨[⟨[], r.esz, .fresh⟩], m, w, X⟩) (N := 0) hI (fun id _ h => absurd h (by omega)) hx hlt
  refine ⟨m, ?_, ?_, by simp, ⟨hevo, Nat.le_refl _, fun b hb hf => ⟨rfl, fun id q h1 h2 => ?_⟩, rfl, rfl, rfl, hI⟩⟩
  · refine ⟨hrel.xlt, fun i q b h1 h2 h3 => ?_, fun i j q s b h1 h2 _ _ _ _ => ?_, fun i q h1 h2 h3 => ?_, fun i q h1 h2 => ?_, fun i q h1 h2 => ?_⟩
    · obtain ⟨rfl, rfl⟩ := one i q h1
      exact hrel.xr 0 r b rfl (by simp [hs]) h3
    · obtain ⟨rfl, _⟩ := one i q h1
      obtain ⟨rfl, _⟩ := one j s h2
      rfl
    · obtain ⟨rfl, rfl⟩ := one i q h1
      rcases hrel.own 0 r rfl (by simp [hs]) (by simp [hs]) with ⟨h, _⟩ | ⟨b, c, e, k1, k2, _⟩
      · exact .inl ⟨h, rfl⟩
      · exact .inr ⟨b, c, e, k1, k2, by simp, fun j hj => by simp at hj⟩
    · obtain ⟨rfl, rfl⟩ := one i q h1
      simp at h2
    · obtain ⟨rfl, rfl⟩ := one i q h1
      simp at h2
  · generalize hx : AVal.row 0 0 0 = x at hv
    cases hv <;> simp at hx
    · rename_i b cap r2 hr2 hs2 hm2 hn2 ho2 hcc2
      obtain ⟨rfl, rfl, rfl⟩ := hx
      cases hr2
      exact .rowF 0 0 0 b cap ⟨[], r.esz, .fresh⟩ rfl rfl hm2 hn2 (by simp) hcc2
    · rename_i r2 bs hr2 hs2
      subst hx
      cases hr2
      rcases hs2 with h | h | h
      · simp [hs] at h
      · exact .rowV 0 ⟨[], r.esz, .fresh⟩ _ rfl (.inr (.inl ⟨.inl rfl, h.2⟩))
      · simp [hs] at h
    · rename_i b o cap r2 vs hr2 hs2 hn2 ho2 hd2 hv2 hm2 he2
      obtain ⟨rfl, rfl, rfl⟩ := hx
      cases hr2
      rcases hs2 with h | h <;> simp [hs] at h
    · rename_i r2 hr2 hs2 h02 hv2
      obtain ⟨rfl, rfl, rfl⟩ := hx
      cases hr2
      simp [hs] at hs2
  · obtain ⟨rfl, rfl⟩ := one id q h1
    exact hf 0 r rfl (by simp [hs])
/-- A call that makes rows, of a contract over what is handed in as it is. -/
theorem DerQ.callAX {P : Program} {ops : Array Oper} {o : Oper} {l : List Oper} {st : St} {K : St → Prop} {f : FuncId} {args : List AVal} {r : Nat → AVal} {ext : Nat → List Row} (he : EvA P f args r ext) (st1 : St)
    (h : wantA ops o st.regs = some true ∧ Abs.callA P o (ev st.regs) = some (f, args) ∧ st.put o.dst (r st.rows.length) (st.rows ++ ext st.rows.length) = st1) (hk : DerQ P ops l st1 K) : DerQ P ops (o :: l) st K :=
  DerQ.call (he st.rows) st1 h hk
end Go.Abs

set_option linter.unusedVariables false
set_option linter.unusedSimpArgs false
namespace Go.Abs
open Go
/-! ### What is no cells may turn -/
end Go.Abs

set_option linter.unusedVariables false
set_option linter.unusedSimpArgs false
namespace Go.Abs
open Go
/-! ### An iterator's function: its own code, and the rounds that it asks for -/
/-- No rows of one's own. -/
def E0 (W : World) (X : Nat → Nat → Prop) : Env := ⟨[], fun _ => none, W, X⟩

/-- What the caller of an iterator keeps: it abides what is laid behind it. -/
def Calm {β : Type} (J : List β → (Nat → Nat → Prop) → World → Prop) : Prop := ∀ s X W W', J s X W → W.grownBy W' none → J s X W'
/-- What a round brings about. -/
def Rounds {β : Type} (P : Program) (l : Nat) (J : List β → (Nat → Nat → Prop) → World → Prop) (items : List β) (enc : β → List AVal) : Prop :=
  ∀ (pre : List β) (x : β) (rest : List β) (X : Nat → Nat → Prop) (W : World) (vs : List Value), items = pre ++ x :: rest → J pre X W → (∀ b o, X b o → b < W.heap.size) → VL (E0 W X) (enc x) vs →
    YieldAt (Fw none) 0 P l vs.toArray W fun e W' => e = .returned (.bool true) ∧ ∃ X', J (pre ++ [x]) X' W' ∧ (∀ b o, X' b o → b < W'.heap.size) ∧ ∀ x v, V (E0 W X) x v → V (E0 W' X') x v
/-- An iterator: which items come, one by one. -/
def IterD {β : Type} (P : Program) (f : FuncId) (cap : List AVal) (items : List β) (enc : β → List AVal) : Prop :=
  ∀ (l : Nat) (J : List β → (Nat → Nat → Prop) → World → Prop) (X : Nat → Nat → Prop) (W : World) (vs : List Value), Calm J → Rounds P l J items enc → J [] X W → (∀ b o, X b o → b < W.heap.size) → VL (E0 W X) cap vs →
    CallsIn (Fw none) 0 P f (#[.func (.yield l) #[] #[]] ++ vs.toArray) W fun e W' => (∃ v, e = .returned v) ∧ ∃ X', J items X' W'

/-- A piece of an iterator's code. -/
def AWJ {β : Type} (P : Program) (l : Nat) (items : List β) (enc : β → List AVal) (c : Code) (Q : Exit → List β → St → Prop) (pre : List β) (st : St) : Prop :=
  st.rows = [] → ∀ (J : List β → (Nat → Nat → Prop) → World → Prop) (X : Nat → Nat → Prop) (W : World) (a : Act) (m : Nat → Option Nat), Calm J → Rounds P l J items enc → J pre X W → RelSt [] X st m W a →
    c.wpIn (Fw none) 0 P (fun e a' W' => ∃ pre' st' X' m', Q e pre' st' ∧ st'.rows = [] ∧ J pre' X' W' ∧ RelSt [] X' st' m' W' a') a W

def thenJ {β : Type} (next : List β → St → Prop) (Q : Exit → List β → St → Prop) : Exit → List β → St → Prop
  | .normal, p, st => next p st
  | e, p, st => Q e p st
def inBlockJ {β : Type} (id : Nat) (Q : Exit → List β → St → Prop) : Exit → List β → St → Prop
  | .exit id', p, st => if id' = id then Q .normal p st else Q (.exit id') p st
  | e, p, st => Q e p st

section
variable {β : Type} {P : Program} {l : Nat} {items : List β} {enc : β → List AVal} {Q : Exit → List β → St → Prop} {pre : List β} {st : St}

end

/-! The region that calls yield. -/
/-- Which loop's yield is called, with what. -/
def callY (o : Oper) (ρ : Operand → AVal) : Option (Nat × List AVal) :=
  match o.op with
  | .call c => match c.callee with
    | .value fop => match ρ fop with
      | .sc (.func (.yield l) _ _) => some (l, c.args.toList.map ρ)
      | _ => none
    | _ => none
  | _ => none

end Go.Abs

set_option linter.unusedVariables false
set_option linter.unusedSimpArgs false
namespace Go.Abs
open Go
/-! ### Code that holds a range over a function -/
def NoMap (rows : List Row) : Prop := ∀ (i : Nat) (r : Row), rows[i]? = some r → r.st ≠ .map
def mark (D : Nat) : Deferred := { target := .collected D, args := #[] }
/-- The blocks for the rounds' deferred calls, and their marks. -/
def MarksOk (B : Nat) (ds : List Deferred) (w : World) : Prop :=
  ∃ Ds : List Nat, ds = Ds.map mark ∧ Ds.Nodup ∧ ∀ D ∈ Ds, B ≤ D ∧ w.heap[D]? = some (.deferred (some []))
def AWM (P : Program) (N : Nat) (c : Code) (Q : Exit → St → Prop) (st : St) : Prop :=
  N ≤ st.rows.length → NoMap st.rows → ∀ (B : Nat) (ds : List Deferred) (X : Nat → Nat → Prop) (m : Nat → Option Nat) (w : World) (a : Act), RelSt ds X st m w a → MarksOk B ds w → B ≤ w.heap.size →
    c.wpIn (Fw none) 0 P (fun e a' w' => ∃ st' m' ds', Q e st' ∧ NoMap st'.rows ∧ N ≤ st'.rows.length ∧ RelSt ds' X st' m' w' a' ∧ MarksOk B ds' w' ∧ Evo N ⟨st.rows, m, w, X⟩ ⟨st'.rows, m', w', X⟩) a w

section
variable {P : Program} {N : Nat} {Q : Exit → St → Prop} {st : St}
end

end Go.Abs

set_option linter.unusedVariables false
set_option linter.unusedSimpArgs false
namespace Go.Abs
open Go
/-! ### The statement 'for .. := range f' -/
/-- What of the caller's cells may yet be written. -/
def Xof (rows : List Row) (m : Nat → Option Nat) (X : Nat → Nat → Prop) (b o : Nat) : Prop :=
  X b o ∨ ∃ (id : Nat) (r : Row), rows[id]? = some r ∧ r.st ≠ .frozen ∧ m id = some b ∧ ¬ (r.st = .grown ∧ o < r.cells.length)
def setAll (regs : List AVal) (l : List (Nat × AVal)) : List AVal := l.foldl (fun t q => t.set q.1 q.2) regs
end Go.Abs

set_option linter.unusedVariables false
set_option linter.unusedSimpArgs false
namespace Go.Abs
open Go
/-! ### nil in a variable of a row is a row of its own -/
theorem relabel_step {E : Env} (hE : Rel E) {id : Nat} {r : Row} (hr : E.rows[id]? = some r) (hs : r.st = .fresh) (j : Nat) (y : AVal) (hj : j < r.cells.length) (hy : ∀ v, V E (r.cells.getD j .undef) v → V E y v) :
    let E' : Env := ⟨E.rows.set id ⟨r.cells.set j y, r.esz, r.st⟩, E.m, E.w, E.x⟩
    Rel E' ∧ Evo E.rows.length E E' := by
  intro E'
  have hlt : id < E.rows.length := lt_of_get hr
  have hsame : ∀ (i : Nat) (s : Row), E'.rows[i]? = some s → (i ≠ id ∧ E.rows[i]? = some s) ∨ (i = id ∧ s = ⟨r.cells.set j y, r.esz, r.st⟩) := by
    intro i s h
    change (E.rows.set id _)[i]? = some s at h
    by_cases e : i = id
    · subst e
      rw [List.getElem?_set_self hlt] at h
      exact .inr ⟨rfl, by simpa using h.symm⟩
    · rw [List.getElem?_set_ne (fun h => e h.symm)] at h
      exact .inl ⟨e, h⟩
  have hrow : ∀ (i : Nat) (s : Row), E.rows[i]? = some s → ∃ s' : Row, E'.rows[i]? = some s' ∧ RowEvo E E' i s s' := by
    intro i s h
    by_cases e : i = id
    · subst e
      have : s = r := by rw [hr] at h; simpa using h.symm
      subst this
      refine ⟨⟨s.cells.set j y, s.esz, s.st⟩, ?_, .fresh hs hs rfl rfl (by simp) (fun _ _ _ h => h)⟩
      show (E.rows.set i _)[i]? = _
      rw [List.getElem?_set_self hlt]
    · refine ⟨s, ?_, RowEvo.keep rfl (fun _ _ _ _ h => h)⟩
      show (E.rows.set id _)[i]? = _
      rw [List.getElem?_set_ne (fun h => e h.symm)]; exact h
  have hst : ∀ (i : Nat) (s : Row), E'.rows[i]? = some s → ∃ s0 : Row, E.rows[i]? = some s0 ∧ s0.st = s.st ∧ s0.cells.length = s.cells.length := by
    intro i s h
    rcases hsame i s h with ⟨_, h⟩ | ⟨rfl, rfl⟩
    · exact ⟨s, h, rfl, rfl⟩
    · exact ⟨r, hr, rfl, by simp⟩
  have hst' : ∀ (i : Nat) (s : Row), E.rows[i]? = some s → ∃ s0 : Row, E'.rows[i]? = some s0 ∧ s0.st = s.st ∧ s0.cells.length = s.cells.length := by
    intro i s h
    by_cases e : i = id
    · subst e
      have : s = r := by rw [hr] at h; simpa using h.symm
      subst this
      exact ⟨⟨s.cells.set j y, s.esz, s.st⟩, by show (E.rows.set i _)[i]? = _; rw [List.getElem?_set_self hlt], rfl, by simp⟩
    · exact ⟨s, by show (E.rows.set id _)[i]? = _; rw [List.getElem?_set_ne (fun h => e h.symm)]; exact h, rfl, rfl⟩
  have hI : ∀ b o v, Imm E b o → E.w.cell? ⟨b, o, none⟩ = some v → Imm E' b o ∧ E'.w.cell? ⟨b, o, none⟩ = some v := by
    intro b o v h hc
    refine ⟨⟨h.1, h.2.1, fun i s hs' hns hm => ?_⟩, hc⟩
    obtain ⟨s0, q1, q2, q3⟩ := hst i s hs'
    have := h.2.2 i s0 q1 (by rw [q2]; exact hns) hm
    rwa [q2, q3] at this
  have hV : ∀ x v, V E x v → V E' x v := fun x v h => V.mono (N := E.rows.length) hI (fun i s _ h => hrow i s h) h h.refLt
  refine ⟨⟨hE.xlt, ?_, ?_, ?_, ?_, ?_⟩, ⟨fun x v h _ => hV x v h, Nat.le_refl _, ?_, rfl, rfl, rfl, hI⟩⟩
  · intro i s b h hns hm
    obtain ⟨s0, q1, q2, _⟩ := hst i s h
    exact hE.xr i s0 b q1 (by rw [q2]; exact hns) hm
  · intro i k s t b h1 h2 n1 n2 m1 m2
    obtain ⟨s0, q1, q2, _⟩ := hst i s h1
    obtain ⟨t0, p1, p2, _⟩ := hst k t h2
    exact hE.inj i k s0 t0 b q1 p1 (by rw [q2]; exact n1) (by rw [p2]; exact n2) m1 m2
  · intro i s h hns hnm
    rcases hsame i s h with ⟨_, h⟩ | ⟨rfl, rfl⟩
    · rcases hE.own i s h hns hnm with h' | ⟨b, c, e, k1, k2, k3, k4⟩
      · exact .inl h'
      · exact .inr ⟨b, c, e, k1, k2, k3, fun q hq => hV _ _ (k4 q hq)⟩
    · rcases hE.own i r hr (by rw [hs]; simp) (by rw [hs]; simp) with h' | ⟨b, c, e, k1, k2, k3, k4⟩
      · rw [h'.2] at hj; simp at hj
      · refine .inr ⟨b, c, e, k1, k2, by simpa using k3, fun q hq => ?_⟩
        have hq' : q < r.cells.length := by simpa using hq
        by_cases eq : q = j
        · subst eq
          have e1 : (r.cells.set q y).getD q .undef = y := by simp [List.getD_eq_getElem?_getD, hq']
          show V E' ((r.cells.set q y).getD q .undef) _
          rw [e1]
          exact hV _ _ (hy _ (k4 q hq'))
        · have e1 : (r.cells.set j y).getD q .undef = r.cells.getD q .undef := by simp [List.getD_eq_getElem?_getD, List.getElem?_set, show ¬ j = q from fun h => eq h.symm]
          show V E' ((r.cells.set j y).getD q .undef) _
          rw [e1]
          exact hV _ _ (k4 q hq')
  · intro i s h hg
    rcases hsame i s h with ⟨_, h⟩ | ⟨rfl, rfl⟩
    · exact hE.grown i s h hg
    · rw [hs] at hg; simp at hg
  · intro i s h hm
    rcases hsame i s h with ⟨_, h⟩ | ⟨rfl, rfl⟩
    · obtain ⟨b, es, k, k1, k2, k3, k4⟩ := hE.map i s h hm
      exact ⟨b, es, k, k1, k2, k3, fun q hq => ⟨hV _ _ (k4 q hq).1, hV _ _ (k4 q hq).2⟩⟩
    · rw [hs] at hm; simp at hm
  · intro b hb hf
    refine ⟨rfl, fun i s h hns => ?_⟩
    obtain ⟨s0, q1, q2, _⟩ := hst i s h
    exact hf i s0 q1 (by rw [q2]; exact hns)

theorem Weak.virtC {N : Nat} {st : St} (id j esz : Nat) (r : Row) (st' : St)
    (h : st.rows[id]? = some r ∧ r.st = .fresh ∧ r.cells[j]? = some (.sl [] 0 .nil) ∧ (⟨st.regs, (st.rows ++ [(⟨[], esz, .fresh⟩ : Row)]).set id { cells := r.cells.set j (.row st.rows.length 0 0), esz := r.esz, st := r.st }⟩ : St) = st') : Weak N st st' := by
  obtain ⟨h1, h2, h3, rfl⟩ := h
  intro hN
  refine ⟨by simp; omega, fun ds X m w a ha => ?_⟩
  obtain ⟨k1, k2⟩ := virtual_step ha.rel esz
  have hj : j < r.cells.length := by
    rcases Nat.lt_or_ge j r.cells.length with h' | h'
    · exact h'
    · rw [List.getElem?_eq_none h'] at h3; simp at h3
  have ecell : r.cells.getD j .undef = .sl [] 0 .nil := by rw [List.getD_eq_getElem?_getD, h3]; rfl
  obtain ⟨q1, q2⟩ := relabel_step k1 (id := id) (r := r) (by show (st.rows ++ [(⟨[], esz, .fresh⟩ : Row)])[id]? = _; rw [List.getElem?_append_left (lt_of_get h1)]; exact h1) h2 j (.row st.rows.length 0 0) hj (fun v hv => by
    rw [ecell] at hv
    have hb : ∃ base : Option Addr, v = .slice base 0 0 := by
      generalize hx : AVal.sl [] 0 .nil = x at hv
      cases hv <;> simp at hx
      · exact ⟨none, rfl⟩
      · rename_i hk3 a; exact ⟨some a, rfl⟩
      · rename_i b o cap vs hk2 hn hd hv hm
        obtain ⟨rfl, rfl, rfl⟩ := hx
        simp at hk2
    obtain ⟨base, rfl⟩ := hb
    exact .rowV st.rows.length ⟨[], esz, .fresh⟩ base (by simp) (.inr (.inl ⟨.inl rfl, by simp⟩)))
  refine ⟨_, ⟨q1, ha.len, fun i hi => ?_, ha.defers⟩, ?_⟩
  · exact q2.val _ _ (k2.val _ _ (ha.regs i hi) (ha.regs i hi).refLt) (AVal.lt_mono (by simp) _ (ha.regs i hi).refLt)
  · exact (k2.mono hN).trans (q2.mono (by simp; omega))
end Go.Abs
namespace Go.Abs
open Go
end Go.Abs
namespace Go.Abs
open Go
theorem WfRows.of {rows : List Row} {n : Nat} (h : ∀ r ∈ rows, ltAll n r.cells = true) : WfRows n rows := fun i r hi _ => h r (List.mem_of_getElem? hi)
theorem Weak.cutW {N : Nat} {st : St} {rows2 : List Row} (k : Nat) (h2 : st.rows.take k = rows2) (hN : N ≤ rows2.length) (hr : ltAll rows2.length st.regs = true)
    (hd : WfRows rows2.length rows2) : Weak N st ⟨st.regs, rows2⟩ := by
  refine Weak.of_shrink ?_ rfl hN
  have e : st.rows = rows2 ++ st.rows.drop k := by rw [← h2, List.take_append_drop]
  rw [e]
  exact Shrink.drop hN hd hr
end Go.Abs
namespace Go.Abs
open Go
end Go.Abs

/-! Rows that are lost; what Insert and Delete of slices do to the memory. -/
set_option linter.unusedVariables false
set_option linter.unusedSimpArgs false
namespace Go.Abs
open Go
theorem run_copyK {P : Program} (w : World) (dT sT ty elem : TypeId) (b o dLen dCap : Nat) (a : Addr) (sLen sCap sz k : Nat) (cs : List Value)
    (hu : P.underlying dT = some (.slice elem)) (hs : (P.info? elem).map (·.size) = some sz) (hk : Nat.min sLen dLen = k) (hn : cs.length = k * sz)
    (hsrc : ∀ j v, cs[j]? = some v → w.cell? (a.add j) = some v) (hc : ∀ j, j < cs.length → (w.cell? ⟨b, o + j, none⟩).isSome = true) (hf : ∀ j, j < cs.length → w.frozen? ⟨b, o + j, none⟩ = false) (h1 : ∀ v ∈ cs, v.oneCell' = true) :
    (Builtin.copy_ #[dT, sT] ty #[.slice (some ⟨b, o, none⟩) dLen dCap, .slice (some a) sLen sCap]).run P w = .ok (goInt k) (w.setCells b o cs) := by
  subst hk
  have hl := run_loadCells_list (P := P) w a cs hsrc
  have hst := run_storeCells_cells (P := P) b o cs 0 w (by simpa using hc) (by simpa using hf) h1
  cases hq : P.info? elem with
  | none => simp [hq] at hs
  | some i =>
    have hi : i.size = sz := by simpa [hq] using hs
    simp [Builtin.copy_, run_underlying hu, Builtin.lenOf, Builtin.firstCells, sizeOf, typeInfo, hq, hi, ← hn, hl, hst]
theorem setCells_heap (b : Nat) : ∀ (vs : List Value) (o : Nat) (w : World), (w.setCells b o vs).heap.size = w.heap.size ∧ (∀ k, k ≠ b → (w.setCells b o vs).heap[k]? = w.heap[k]?) ∧ (w.setCells b o vs).os = w.os ∧ (w.setCells b o vs).tape = w.tape ∧ (w.setCells b o vs).output = w.output
  | [], o, w => ⟨rfl, fun _ _ => rfl, rfl, rfl, rfl⟩
  | v :: r, o, w => by
    obtain ⟨h1, h2, h3, h4, h5⟩ := setCells_heap b r (o + 1) (w.setCell ⟨b, o, none⟩ v)
    refine ⟨?_, fun k hk => ?_, ?_, ?_, ?_⟩
    · rw [World.setCells, h1]; simp
    · rw [World.setCells, h2 k hk]; exact heap_setCell_other w _ k v hk
    · rw [World.setCells, h3]; rfl
    · rw [World.setCells, h4]; rfl
    · rw [World.setCells, h5]; rfl
/-- A row is lost, and its block is anybody's. -/
theorem dead_step {E : Env} (hE : Rel E) {id : Nat} {r : Row} (hr : E.rows[id]? = some r) (hnm : r.st ≠ .map) (hnu : r.st ≠ .unborn) {w' : World} (hsz : E.w.heap.size ≤ w'.heap.size)
    (hold : ∀ b', b' < E.w.heap.size → (E.m id = some b' → r.st = .frozen) → w'.heap[b']? = E.w.heap[b']?) (hos : w'.os = E.w.os) (htp : w'.tape = E.w.tape) (hout : w'.output = E.w.output)
    (hgr : r.st = .grown → w' = E.w) :
    Rel ⟨E.rows.set id ⟨[], r.esz, .dead⟩, fun i => if i = id then none else E.m i, w', E.x⟩ ∧ Evo E.rows.length E ⟨E.rows.set id ⟨[], r.esz, .dead⟩, fun i => if i = id then none else E.m i, w', E.x⟩ := by
  have hother : ∀ (i : Nat) (s : Row) (b : Nat), i ≠ id → E.rows[i]? = some s → s.st ≠ .frozen → E.m i = some b → E.m id = some b → r.st = .frozen := fun i s b hne h hn hm hm2 =>
    Classical.byContradiction fun hns => hne (hE.inj i id s r b h hr hn hns hm hm2)
  have hI : ∀ b o v, Imm E b o → E.w.cell? ⟨b, o, none⟩ = some v → Imm ⟨E.rows.set id ⟨[], r.esz, .dead⟩, fun i => if i = id then none else E.m i, w', E.x⟩ b o ∧ w'.cell? ⟨b, o, none⟩ = some v := by
    intro b o v hi hc
    refine ⟨⟨Nat.lt_of_lt_of_le hi.1 hsz, hi.2.1, fun i s h1 h2 h3 => ?_⟩, ?_⟩
    · rcases get_set_cases h1 with ⟨rfl, rfl, _⟩ | ⟨hne, h1'⟩
      · simp at h3
      · have h3' : E.m i = some b := by simpa [hne] using h3
        exact hi.2.2 i s h1' h2 h3'
    · by_cases hm : E.m id = some b
      · by_cases hns : r.st = .frozen
        · rw [cell_congr (hold b hi.1 (fun _ => hns))]; exact hc
        · have hg := (hi.2.2 id r hr hns hm).1
          rw [hgr hg]; exact hc
      · rw [cell_congr (hold b hi.1 (fun h => absurd h hm))]; exact hc
  have hR : ∀ (i : Nat) (s : Row), i < E.rows.length → E.rows[i]? = some s → ∃ s', (E.rows.set id ⟨[], r.esz, .dead⟩)[i]? = some s' ∧ RowEvo E ⟨E.rows.set id ⟨[], r.esz, .dead⟩, fun i => if i = id then none else E.m i, w', E.x⟩ i s s' := by
    intro i s _ h
    by_cases e : i = id
    · subst e
      rw [hr] at h; cases h
      exact ⟨_, get_set_same hr, .dead hnm hnu rfl (.inl rfl)⟩
    · refine ⟨s, by rw [get_set_other e]; exact h, RowEvo.keep (by simp [e]) (fun hst b o hm hc => ?_)⟩
      have hb : E.m id = some b → r.st = .frozen := hother i s b e h (by rcases hst with h | h <;> simp [h]) hm
      have hlt := hE.lt h (by rcases hst with h | h <;> simp [h]) hm
      show (w'.cell? _).isSome = true
      rw [cell_congr (hold b hlt hb)]; exact hc
  have hV : ∀ x v, V E x v → V ⟨E.rows.set id ⟨[], r.esz, .dead⟩, fun i => if i = id then none else E.m i, w', E.x⟩ x v := fun x v h => V.mono (N := E.rows.length) hI (fun i s hi hs => hR i s hi hs) h h.refLt
  refine ⟨⟨?_, ?_, ?_, ?_, ?_, ?_⟩, ⟨fun x v h _ => hV x v h, hsz, ?_, hos, htp, hout, hI⟩⟩
  · intro b o hx; exact Nat.lt_of_lt_of_le (hE.xlt b o hx) hsz
  · intro i s b h1 h2 h3 o
    rcases get_set_cases h1 with ⟨rfl, rfl, _⟩ | ⟨hne, h1'⟩
    · simp at h3
    · exact hE.xr i s b h1' h2 (by simpa [hne] using h3) o
  · intro i j s t b h1 h2 n1 n2 m1 m2
    rcases get_set_cases h1 with ⟨rfl, rfl, _⟩ | ⟨hne, h1'⟩
    · simp at m1
    · rcases get_set_cases h2 with ⟨rfl, rfl, _⟩ | ⟨hne2, h2'⟩
      · simp at m2
      · exact hE.inj i j s t b h1' h2' n1 n2 (by simpa [hne] using m1) (by simpa [hne2] using m2)
  · intro i s h1 n1 n2
    rcases get_set_cases h1 with ⟨rfl, rfl, _⟩ | ⟨hne, h1'⟩
    · exact .inl ⟨by simp, rfl⟩
    · rcases hE.own i s h1' n1 n2 with ⟨h, h'⟩ | ⟨b, c, e, k1, k2, k3, k4⟩
      · exact .inl ⟨by simpa [hne] using h, h'⟩
      · have hb : E.m id = some b → r.st = .frozen := hother i s b hne h1' n1 k1
        refine .inr ⟨b, c, e, by simpa [hne] using k1, ?_, k3, fun j hj => hV _ _ (k4 j hj)⟩
        show w'.heap[b]? = _
        rw [hold b (lt_of_heap k2) hb]; exact k2
  · intro i s h1 hg
    rcases get_set_cases h1 with ⟨rfl, rfl, _⟩ | ⟨hne, h1'⟩
    · simp at hg
    · exact hE.grown i s h1' hg
  · intro i s h1 hm
    rcases get_set_cases h1 with ⟨rfl, rfl, _⟩ | ⟨hne, h1'⟩
    · simp at hm
    · obtain ⟨b, es, k, k1, k2, k3, k4⟩ := hE.map i s h1' hm
      have hb : E.m id = some b → r.st = .frozen := hother i s b hne h1' (by simp [hm]) k1
      refine ⟨b, es, k, by simpa [hne] using k1, ?_, k3, fun j hj => ⟨hV _ _ (k4 j hj).1, hV _ _ (k4 j hj).2⟩⟩
      show w'.heap[b]? = _
      rw [hold b (lt_of_heap k2) hb]; exact k2
  · intro b hb hf
    have hm : E.m id = some b → r.st = .frozen := fun hm => Classical.byContradiction fun hns => hf id r hr hns hm
    refine ⟨hold b hb hm, fun i s h1 h2 h3 => ?_⟩
    rcases get_set_cases h1 with ⟨rfl, rfl, _⟩ | ⟨hne, h1'⟩
    · simp at h3
    · exact hf i s h1' h2 (by simpa [hne] using h3)
/-- A slice of what lies in a block that is nobody's. -/
theorem V.ofBlock {E : Env} {cells : List AVal} {n b o cap : Nat} (hn : n ≤ cap) (hd : dataAll cells = true) (hb : b < E.w.heap.size) (hx : ∀ o, ¬ E.x b o) (hf : Free E b) (vs : Nat → Value)
    (hc : ∀ i, i < cells.length → E.w.cell? ⟨b, o + i, none⟩ = some (vs i)) (hv : ∀ i, i < cells.length → V E (cells.getD i .undef) (vs i)) : V E (.sl cells n .any) (.slice (some ⟨b, o, none⟩) n cap) :=
  .sl cells n .any b o cap vs (.inl rfl) hn hd hv (fun i hi => ⟨hc i hi, hf.imm hb (hx _)⟩)
end Go.Abs

/-! slices.Insert into a fresh row. -/
set_option linter.unusedVariables false
set_option linter.unusedSimpArgs false
namespace Go.Abs
open Go
theorem run_overlaps_target {P : Program} (w : World) (tS tR e : TypeId) (ht : P.underlying tS = some (.slice e)) (size : Nat) (hz : ∀ w, (Go.sizeOf e).run P w = .ok size w)
    (a b : Addr) (la ca lb cb : Nat) (hne : a.block ≠ b.block) (tA tB : TypeId) (kA kB : Nat)
    (hsa : w.shape? a.block = some (tA, kA)) (hsb : w.shape? b.block = some (tB, kB)) (hkA : kA ≠ 0) (hkB : kB ≠ 0)
    (hfb : w.frozen? b = false) (hfe : w.frozen? { block := b.block, off := kB } = false) :
    (Extern.SlicesOverlaps.overlaps #[tS, tS] #[tR] #[.slice (some a) la ca, .slice (some b) lb cb]).run P w = .ok (.bool false) w := by
  have hnb : (a.block != b.block) = true := by simpa using hne
  have hnb' : (a.block == b.block) = false := by simpa using hne
  change Sem.run P (α := Value) (do
    let some t := (#[tS, tS] : Array TypeId)[0]? | stuck "slices.overlaps: no parameter types"
    let .slice elem ← underlying t | stuck "slices.overlaps: slice type expected"
    let size ← sizeOf elem
    match (some a : Option Addr), (some b : Option Addr) with
    | some a, some b =>
      if la = 0 ∨ lb = 0 ∨ size = 0 then pure (Value.bool false)
      else if a.block != b.block && (← frozen a) && (← frozen b) then unsupported .addressObserved
      else do
        if a.block != b.block then do
          noView a; noView b
          if ← mayBeOne a b then return Value.bool ((← choose (.extern "sameAddr.stringBytes" 2)) == 1)
        pure (Value.bool (a.block == b.block && a.off < b.off + lb * size && b.off < a.off + la * size))
    | _, _ => pure (Value.bool false)) w = _
  by_cases h0 : la = 0 ∨ lb = 0 ∨ size = 0
  · simp [run_underlying ht, hz, h0]
  · cases kB with
    | zero => exact absurd rfl hkB
    | succ kB =>
      cases kA with
      | zero => exact absurd rfl hkA
      | succ kA =>
      cases hfa : w.frozen? a <;> cases hfa2 : w.frozen? { block := a.block, off := kA + 1 } <;>
      simp [run_underlying ht, hz, h0, hnb, hnb', frozen, noView, viewAt, mayBeOne, stringish, shape, Sem.run, hsa, hsb, hfb, hfe, hfa, hfa2]
/-- What slices.Insert does to the memory. -/
structure InsRaw (P : Program) (f TS TE K B : Nat) : Prop where
  und : P.underlying TS = some (.slice TE)
  inf : (P.info? TE).bind (fun i => i.zero.map fun z => (i.size, i.bytes, z.cells.size)) = some (K, B, K)
  room : ∀ (b n c i vb vo vc : Nat) (cs vs : List Value) (w : World) (hi : i < n) (hroom : n + 1 ≤ c) (hn9 : n ≤ 1000000000) (hvb : vb ≠ b) (hcl : cs.length = n * K) (hvl : vs.length = K)
    (hcs : ∀ j v, cs[j]? = some v → w.cell? ⟨b, j, none⟩ = some v) (hsp : ∀ j, j < (n + 1) * K → (w.cell? ⟨b, j, none⟩).isSome = true) (hfz : ∀ j, w.frozen? ⟨b, j, none⟩ = false)
    (hvs : ∀ j v, vs[j]? = some v → w.cell? ⟨vb, vo + j, none⟩ = some v) (h1c : ∀ v ∈ cs, v.oneCell' = true) (h1v : ∀ v ∈ vs, v.oneCell' = true)
    (tA tB : TypeId) (kA kB : Nat) (hsa : w.shape? vb = some (tA, kA)) (hsb : w.shape? b = some (tB, kB)) (hkA : kA ≠ 0) (hkB : kB ≠ 0),
    Calls P f #[.slice (some ⟨b, 0, none⟩) n c, .int .i64 i, .slice (some ⟨vb, vo, none⟩) 1 vc] w fun e w' =>
      e = .returned (.slice (some ⟨b, 0, none⟩) (n + 1) c) ∧ w' = (w.drew.setCells b ((i + 1) * K) (cs.drop (i * K))).setCells b (i * K) vs
  grow : ∀ (b n c i vb vo vc : Nat) (cs vs : List Value) (w : World) (hi : i < n) (hnc : n ≤ c) (hroom : c < n + 1) (hbig : (n + 1) * B ≤ 140737488355328) (hvb : vb ≠ b) (hcl : cs.length = n * K) (hvl : vs.length = K)
    (hcs : ∀ j v, cs[j]? = some v → w.cell? ⟨b, j, none⟩ = some v)
    (hvs : ∀ j v, vs[j]? = some v → w.cell? ⟨vb, vo + j, none⟩ = some v) (h1c : ∀ v ∈ cs, v.oneCell' = true) (h1v : ∀ v ∈ vs, v.oneCell' = true),
    Calls P f #[.slice (some ⟨b, 0, none⟩) n c, .int .i64 i, .slice (some ⟨vb, vo, none⟩) 1 vc] w fun e w' =>
      ∃ G, ∃ R : Array Value, n + 1 ≤ G ∧ (n + 1) * K ≤ R.size ∧ (∀ (j : Nat) (v : Value), (cs.take (i * K))[j]? = some v → R[j]? = some v) ∧ e = .returned (.slice (some ⟨w.heap.size, 0, none⟩) (n + 1) G) ∧
      w' = (((w.drew.alloc (.cells R TE)).setCells w.heap.size (i * K) vs).drew).setCells w.heap.size ((i + 1) * K) (cs.drop (i * K))
  fin : ∀ (base vbase : Option Addr) (n c vc : Nat) (w w' : World) (q : Value) (hnc : n ≤ c) (hnil : base = none → c = 0)
    (hrun : (Builtin.append_ #[TS, TS] TS #[.slice base n c, .slice vbase 1 vc]).run P w = .ok q w'),
    Calls P f #[.slice base n c, .int .i64 n, .slice vbase 1 vc] w fun e W => e = .returned q ∧ W = w'
end Go.Abs

set_option linter.unusedVariables false
set_option linter.unusedSimpArgs false
namespace Go.Abs
open Go
theorem V.rowF_inv {E : Env} {id off n : Nat} {v : Value} {r : Row} (h : V E (.row id off n) v) (hr : E.rows[id]? = some r) (hs : r.st = .fresh) :
    (∃ b cap, v = .slice (some ⟨b, off, none⟩) n cap ∧ E.m id = some b ∧ n ≤ cap ∧ off + n * r.esz ≤ r.cells.length ∧ ∀ i, i < cap * r.esz → (E.w.cell? ⟨b, off + i, none⟩).isSome = true) ∨
    (∃ base, v = .slice base 0 0 ∧ off = 0 ∧ n = 0 ∧ E.m id = none) := by
  generalize hx : AVal.row id off n = x at h
  cases h <;> simp at hx
  · rename_i b cap r2 hr2 hs2 hm hn ho hc
    obtain ⟨rfl, rfl, rfl⟩ := hx
    rw [hr] at hr2; cases hr2
    exact .inl ⟨b, cap, rfl, hm, hn, ho, hc⟩
  · rename_i r2 base hr2 hs2
    obtain ⟨rfl, rfl, rfl⟩ := hx
    rw [hr] at hr2; cases hr2
    rcases hs2 with h | h | h
    · simp [hs] at h
    · exact .inr ⟨base, rfl, rfl, rfl, h.2⟩
    · simp [hs] at h
  · rename_i b o cap r2 vs hr2 hs2 hn ho hd2 hv hm he
    obtain ⟨rfl, rfl, rfl⟩ := hx
    rw [hr] at hr2; cases hr2
    rcases hs2 with h | h <;> simp [hs] at h
  · rename_i r2 hr2 hs2 h02 hv2
    obtain ⟨rfl, rfl, rfl⟩ := hx
    rw [hr] at hr2; cases hr2
    simp [hs] at hs2
theorem ins_getD {α : Type} (l x : List α) (a j : Nat) (d : α) (ha : a ≤ l.length) : (l.take a ++ x ++ l.drop a).getD j d = if j < a then l.getD j d else if j < a + x.length then x.getD (j - a) d else l.getD (j - x.length) d := by
  simp only [List.getD_eq_getElem?_getD, List.append_assoc]
  have h1 : (l.take a).length = a := by rw [List.length_take]; omega
  by_cases h : j < a
  · rw [if_pos h, List.getElem?_append_left (by omega), List.getElem?_take, if_pos h]
  · rw [if_neg h, List.getElem?_append_right (by omega), h1]
    by_cases h2 : j < a + x.length
    · rw [if_pos h2, List.getElem?_append_left (by omega)]
    · rw [if_neg h2, List.getElem?_append_right (by omega), List.getElem?_drop]
      congr 2; omega
theorem V.one_of {E : Env} {x : AVal} {v : Value} (h : V E x v) (h1 : x.one = true) (hd : x.data = true) : v.oneCell' = true :=
  V.oneCell h h1 (fun id off e => by subst e; simp [AVal.data] at hd)
theorem getD_mem {l : List AVal} (h : dataAll l = true) {j : Nat} (hj : j < l.length) : (l.getD j .undef).data = true := (dataAll_iff l).1 h j hj
theorem dataAll_ins {l x : List AVal} (hl : dataAll l = true) (hx : dataAll x = true) (a : Nat) : dataAll (l.take a ++ x ++ l.drop a) = true := by
  rw [dataAll_append, dataAll_append, dataAll_take _ hl, hx, dataAll_drop _ hl]; rfl
theorem shape_of_cell {w : World} {b o : Nat} {v : Value} (h : w.cell? ⟨b, o, none⟩ = some v) : ∃ t k, w.shape? b = some (t, k) ∧ k ≠ 0 := by
  simp only [World.cell?] at h
  cases hb : w.heap[b]? with
  | none => rw [hb] at h; simp at h
  | some ob =>
    rw [hb] at h
    cases ob with
    | cells c e fr =>
      refine ⟨e, c.size, by simp [World.shape?, hb], fun h0 => ?_⟩
      have : c = #[] := Array.eq_empty_of_size_eq_zero h0
      subst this
      simp at h
    | _ => simp at h
theorem InsRaw.ev {P : Program} {f TS TE K B : Nat} (h : InsRaw P f TS TE K B) (hK : 0 < K) (hB : 0 < B ∧ B ≤ 1000) {rows : List Row} {id n i : Nat} {cells xs : List AVal} {k : SlK} (hr : rows[id]? = some ⟨cells, K, .fresh⟩) (hl : cells.length = n * K)
    (hd : dataAll cells = true) (ho : ∀ j, j < cells.length → (cells.getD j .undef).one = true) (hx : xs.length = K) (hxd : dataAll xs = true) (hxo : ∀ j, j < xs.length → (xs.getD j .undef).one = true) (hi : i ≤ n) (hn : n ≤ 100000) :
    EvF P f [.row id 0 n, .sc (.int .i64 i), .sl xs 1 k] rows (.sl (cells.take (i * K) ++ xs ++ cells.drop (i * K)) (n + 1) .any) (rows.set id ⟨[], K, .dead⟩) := by
  intro X m w vs hrel hvl
  obtain ⟨hlen, hv⟩ := hvl
  match vs, hlen, hv with
  | [v0, v1, v2], _, hv =>
  have hv0 : V ⟨rows, m, w, X⟩ (.row id 0 n) v0 := hv 0 (by simp)
  have hv1 : V ⟨rows, m, w, X⟩ (.sc (.int .i64 i)) v1 := hv 1 (by simp)
  have hv2 : V ⟨rows, m, w, X⟩ (.sl xs 1 k) v2 := hv 2 (by simp)
  have e1 := hv1.sc_inv
  subst e1
  obtain ⟨vb, vo, vc, us, rfl, hvn, _, _, _, huv, hum⟩ : ∃ (vb vo vc : Nat) (us : Nat → Value), v2 = .slice (some ⟨vb, vo, none⟩) 1 vc ∧ 1 ≤ vc ∧ True ∧ True ∧ True ∧ (∀ j, j < xs.length → V ⟨rows, m, w, X⟩ (xs.getD j .undef) (us j)) ∧ (∀ j, j < xs.length → w.cell? ⟨vb, vo + j, none⟩ = some (us j) ∧ Imm ⟨rows, m, w, X⟩ vb (vo + j)) := by
    rcases hv2.sl_inv with ⟨_, h0, _⟩ | ⟨b, o, cap, us, rfl, hn, _, _, _, hvv, hmm⟩ | ⟨ad, _, h0, _⟩
    · subst h0; simp at hx; omega
    · exact ⟨b, o, cap, us, rfl, hn, trivial, trivial, trivial, hvv, hmm⟩
    · subst h0; simp at hx; omega
  have hinf : ∃ i0 z, P.info? TE = some i0 ∧ i0.zero = some z ∧ i0.size = K ∧ i0.bytes = B ∧ z.cells.size = K := by
    have h := h.inf
    cases hq : P.info? TE with
    | none => rw [hq] at h; cases h
    | some i0 =>
      rw [hq] at h
      cases hq2 : i0.zero with
      | none => simp [hq2] at h
      | some z =>
        simp [hq2] at h
        exact ⟨i0, z, rfl, hq2, h.1, h.2.1, h.2.2⟩
  obtain ⟨i0, z, hi0, hz0, hzs, hzb, hzc⟩ := hinf
  let E : Env := ⟨rows, m, w, X⟩
  have hid : id < rows.length := lt_of_get hr
  rcases Nat.lt_or_ge i n with hin | hin
  · -- in the middle
    obtain ⟨b, cap, rfl, hm, hcap, hoo, hcc⟩ : ∃ b cap, v0 = .slice (some ⟨b, 0, none⟩) n cap ∧ m id = some b ∧ n ≤ cap ∧ True ∧ ∀ j, j < cap * K → (w.cell? ⟨b, j, none⟩).isSome = true := by
      rcases hv0.rowF_inv hr rfl with ⟨b, cap, rfl, h1, h2, h3, h4⟩ | ⟨base, rfl, _, h0, _⟩
      · exact ⟨b, cap, rfl, h1, h2, trivial, fun j hj => by have := h4 j hj; rwa [Nat.zero_add] at this⟩
      · omega
    obtain ⟨c, e, hbk, hbl, hbv⟩ := hrel.block (E := E) hr (.inl rfl) hm
    have hbl : cells.length ≤ c.size := hbl
    have hblt : b < w.heap.size := lt_of_heap hbk
    let cs : List Value := c.toList.take (n * K)
    let ws : List Value := (List.range K).map us
    have hcsl : cs.length = n * K := by show (c.toList.take (n * K)).length = _; rw [List.length_take, Array.length_toList]; omega
    have hwsl : ws.length = K := by simp [ws]
    have hcsg : ∀ j, j < n * K → cs.getD j Go.undef = c.getD j Go.undef := fun j hj => by
      simp only [cs, List.getD_eq_getElem?_getD, List.getElem?_take, if_pos hj, Array.getD_eq_getD_getElem?, Array.getElem?_toList]
    have hwsg : ∀ j, j < K → ws.getD j Go.undef = us j := fun j hj => by simp [ws, List.getD_eq_getElem?_getD, hj]
    have getd : ∀ (l : List Value) (j : Nat) (v : Value), l[j]? = some v → j < l.length ∧ v = l.getD j Go.undef := fun l j v h0 => by
      rcases Nat.lt_or_ge j l.length with h1 | h1
      · exact ⟨h1, by rw [List.getD_eq_getElem?_getD, h0]; rfl⟩
      · rw [List.getElem?_eq_none h1] at h0; cases h0
    have hcs : ∀ (j : Nat) (v : Value), cs[j]? = some v → w.cell? ⟨b, j, none⟩ = some v := fun j v h0 => by
      obtain ⟨h1, rfl⟩ := getd _ _ _ h0
      rw [hcsl] at h1
      rw [hcsg j h1]
      exact cell_getD hbk (by omega)
    have hws : ∀ (j : Nat) (v : Value), ws[j]? = some v → w.cell? ⟨vb, vo + j, none⟩ = some v := fun j v h0 => by
      obtain ⟨h1, rfl⟩ := getd _ _ _ h0
      rw [hwsl] at h1
      rw [hwsg j h1]
      exact (hum j (by omega)).1
    have h1c : ∀ v ∈ cs, v.oneCell' = true := fun v h0 => by
      obtain ⟨j, hj⟩ := List.mem_iff_getElem?.1 h0
      obtain ⟨h1, rfl⟩ := getd _ _ _ hj
      rw [hcsl] at h1
      rw [hcsg j h1]
      exact V.one_of (hbv j (by show j < cells.length; omega)) (ho j (by omega)) (getD_mem hd (by omega))
    have h1v : ∀ v ∈ ws, v.oneCell' = true := fun v h0 => by
      obtain ⟨j, hj⟩ := List.mem_iff_getElem?.1 h0
      obtain ⟨h1, rfl⟩ := getd _ _ _ hj
      rw [hwsl] at h1
      rw [hwsg j h1]
      exact V.one_of (huv j (by omega)) (hxo j (by omega)) (getD_mem hxd (by omega))
    have hvb : vb ≠ b := fun e0 => by
      have := ((hum 0 (by omega)).2.2.2 id ⟨cells, K, .fresh⟩ hr (by simp) (by rw [e0]; exact hm)).1
      simp at this
    have hfz : ∀ j, w.frozen? ⟨b, j, none⟩ = false := fun j => by
      have hbk' : w.heap[b]? = some (.cells c e (0, 0)) := hbk
      simp [World.frozen?, hbk']
    obtain ⟨tA, kA, hsa, hkA⟩ := shape_of_cell (hum 0 (by omega)).1
    have hn0 : 0 < n * K := Nat.mul_pos (by omega) hK
    obtain ⟨tB, kB, hsb, hkB⟩ := shape_of_cell (w := w) (b := b) (o := 0) (cell_getD (o := 0) hbk (by omega))
    have hiK : (i + 1) * K = i * K + K := by rw [Nat.add_mul, Nat.one_mul]
    have hiK2 : i * K + K ≤ n * K := by rw [← hiK]; exact Nat.mul_le_mul_right _ (by omega)
    have hnK : (n + 1) * K = n * K + K := by rw [Nat.add_mul, Nat.one_mul]
    have hdl : (cs.drop (i * K)).length = n * K - i * K := by rw [List.length_drop, hcsl]
    -- what both roads come to
    have fin : ∀ (b' cap' : Nat) (w' : World), n + 1 ≤ cap' → w.heap.size ≤ w'.heap.size → (∀ b2, b2 < w.heap.size → m id ≠ some b2 → w'.heap[b2]? = w.heap[b2]?) → w'.os = w.os → w'.tape = w.tape → w'.output = w.output →
        b' < w'.heap.size → (∀ o, ¬ X b' o) → (∀ (i2 : Nat) (s : Row), i2 ≠ id → rows[i2]? = some s → s.st ≠ .frozen → m i2 ≠ some b') →
        (∀ j, j < (n + 1) * K → w'.cell? ⟨b', j, none⟩ = some ((cs.take (i * K) ++ ws ++ cs.drop (i * K)).getD j Go.undef)) →
        ∃ v m', Ending.returned (.slice (some ⟨b', 0, none⟩) (n + 1) cap') = Ending.returned v ∧ Rel ⟨rows.set id ⟨[], K, .dead⟩, m', w', X⟩ ∧ V ⟨rows.set id ⟨[], K, .dead⟩, m', w', X⟩ (.sl (cells.take (i * K) ++ xs ++ cells.drop (i * K)) (n + 1) .any) v ∧ rows.length ≤ (rows.set id ⟨[], K, .dead⟩).length ∧ Evo rows.length ⟨rows, m, w, X⟩ ⟨rows.set id ⟨[], K, .dead⟩, m', w', X⟩ := by
      intro b' cap' w' hcp hsz hold hos htp hout hb' hx' hf' hcell
      obtain ⟨k1, k2⟩ := dead_step (E := E) hrel hr (by simp) (by simp) (w' := w') hsz (fun b2 h2 h3 => hold b2 h2 (fun h4 => by have := h3 h4; simp at this)) hos htp hout (fun h2 => by simp at h2)
      refine ⟨_, _, rfl, k1, ?_, by simp, k2⟩
      have hcl2 : (cells.take (i * K) ++ xs ++ cells.drop (i * K)).length = (n + 1) * K := by
        simp only [List.length_append, List.length_take, List.length_drop, hl, hx]; omega
      refine V.ofBlock hcp (dataAll_ins hd hxd _) hb' hx' (fun i2 s h1 h2 h3 => ?_) (fun j => (cs.take (i * K) ++ ws ++ cs.drop (i * K)).getD j Go.undef) (fun j hj => ?_) (fun j hj => ?_)
      · rcases get_set_cases h1 with ⟨rfl, rfl, _⟩ | ⟨hne, h1'⟩
        · simp at h3
        · exact hf' i2 s hne h1' h2 (by simpa [hne] using h3)
      · rw [Nat.zero_add]; exact hcell j (by rwa [hcl2] at hj)
      · rw [hcl2] at hj
        show V _ _ ((cs.take (i * K) ++ ws ++ cs.drop (i * K)).getD j Go.undef)
        rw [ins_getD cells xs (i * K) j .undef (by omega), ins_getD cs ws (i * K) j Go.undef (by omega), hx, hwsl]
        have hV : ∀ x v, V E x v → V ⟨rows.set id ⟨[], K, .dead⟩, fun i => if i = id then none else m i, w', X⟩ x v := fun x v h => k2.val x v h h.refLt
        split
        · rw [hcsg j (by omega)]; exact hV _ _ (hbv j (by show j < cells.length; omega))
        · split
          · rw [hwsg _ (by omega)]; exact hV _ _ (huv _ (by omega))
          · rw [hcsg _ (by omega)]; exact hV _ _ (hbv _ (by show _ < cells.length; omega))
    rcases Nat.lt_or_ge cap (n + 1) with hcp | hcp
    · -- a new block
      refine (h.grow b n cap i vb vo vc cs ws w hin hcap hcp (by have : (n + 1) * B ≤ 100001 * 1000 := Nat.mul_le_mul (by omega) hB.2; omega) hvb hcsl hwsl hcs hws h1c h1v).mono ?_
      rintro e' w' ⟨G, R, hG, hR, hRt, rfl, rfl⟩
      let W1 : World := w.drew.alloc (.cells R TE)
      let W2 : World := W1.setCells w.heap.size (i * K) ws
      obtain ⟨p1, p2, p3, p4, p5⟩ := setCells_heap w.heap.size ws (i * K) W1
      obtain ⟨q1, q2, q3, q4, q5⟩ := setCells_heap w.heap.size (cs.drop (i * K)) ((i + 1) * K) W2.drew
      have hs1 : W1.heap.size = w.heap.size + 1 := by show (w.heap.push _).size = _; rw [Array.size_push]
      have hnew : ∀ j, W1.cell? ⟨w.heap.size, j, none⟩ = R[j]? := fun j => World.cell?_alloc_at (w := w.drew) R TE w.heap.size j rfl
      have hsm : ∀ j, j < (n + 1) * K → (W1.cell? ⟨w.heap.size, j, none⟩).isSome = true := fun j hj => by rw [hnew, Array.getElem?_eq_getElem (by omega)]; rfl
      refine fin _ _ _ hG ?_ ?_ ?_ ?_ ?_ ?_ ?_ ?_ ?_
      · rw [q1]; show w.heap.size ≤ W2.heap.size; rw [p1, hs1]; omega
      · intro b2 hb2 _
        rw [q2 b2 (by omega)]; show W2.heap[b2]? = _; rw [p2 b2 (by omega)]; exact alloc_old hb2
      · rw [q3]; exact p3
      · rw [q4]; exact p4
      · rw [q5]; exact p5
      · rw [q1]; show w.heap.size < W2.heap.size; rw [p1, hs1]; omega
      · intro o hx2; exact absurd (hrel.xlt _ _ hx2) (by show ¬ w.heap.size < w.heap.size; omega)
      · intro i2 s hne h1 h2 h3; exact absurd (hrel.lt (E := E) h1 h2 h3) (by show ¬ w.heap.size < w.heap.size; omega)
      · intro j hj
        rw [ins_getD cs ws (i * K) j Go.undef (by omega), hwsl]
        by_cases h1 : j < i * K
        · rw [if_pos h1, World.cell?_setCells_out _ _ _ _ _ (fun _ _ => .inl (by show j < _; omega))]
          show W2.cell? _ = _
          rw [World.cell?_setCells_out _ _ _ _ _ (fun _ _ => .inl (by show j < _; omega)), hnew]
          refine hRt j _ ?_
          rw [List.getElem?_take, if_pos h1, List.getElem?_eq_getElem (by omega), List.getD_eq_getElem?_getD, List.getElem?_eq_getElem (by omega)]; rfl
        · rw [if_neg h1]
          by_cases h2 : j < i * K + K
          · rw [if_pos h2, World.cell?_setCells_out _ _ _ _ _ (fun _ _ => .inl (by show j < _; omega))]
            show W2.cell? _ = _
            have := World.cell?_setCells_in w.heap.size ws (i * K) W1 (fun t ht => hsm _ (by omega)) (j - i * K) (by omega)
            rw [show i * K + (j - i * K) = j by omega] at this
            rw [this, List.getD_eq_getElem?_getD, List.getElem?_eq_getElem (by omega)]; rfl
          · rw [if_neg h2]
            have hs2 : ∀ t, t < (n + 1) * K → (W2.drew.cell? ⟨w.heap.size, t, none⟩).isSome = true := fun t ht => Go.Proofs.isSome_setCells w.heap.size ws (i * K) W1 (fun t ht => hsm _ (by omega)) t (hsm t ht)
            have := World.cell?_setCells_in w.heap.size (cs.drop (i * K)) ((i + 1) * K) W2.drew (fun t ht => hs2 _ (by omega)) (j - (i + 1) * K) (by omega)
            rw [show (i + 1) * K + (j - (i + 1) * K) = j by omega] at this
            rw [this, List.getElem_drop, List.getD_eq_getElem?_getD, List.getElem?_eq_getElem (by omega)]
            simp only [Option.getD_some]
            congr 2; omega
    · refine (h.room b n cap i vb vo vc cs ws w hin hcp (by omega) hvb hcsl hwsl hcs (fun j hj => hcc j (Nat.lt_of_lt_of_le hj (Nat.mul_le_mul_right _ hcp))) hfz hws h1c h1v tA tB kA kB hsa hsb hkA hkB).mono ?_
      rintro e' w' ⟨rfl, rfl⟩
      let W1 : World := w.drew.setCells b ((i + 1) * K) (cs.drop (i * K))
      obtain ⟨p1, p2, p3, p4, p5⟩ := setCells_heap b (cs.drop (i * K)) ((i + 1) * K) w.drew
      obtain ⟨q1, q2, q3, q4, q5⟩ := setCells_heap b ws (i * K) W1
      have hsm : ∀ j, j < (n + 1) * K → (w.drew.cell? ⟨b, j, none⟩).isSome = true := fun j hj => hcc j (Nat.lt_of_lt_of_le hj (Nat.mul_le_mul_right _ hcp))
      have hsm1 : ∀ j, j < (n + 1) * K → (W1.cell? ⟨b, j, none⟩).isSome = true := fun j hj => Go.Proofs.isSome_setCells b _ _ _ (fun t ht => hsm _ (by omega)) _ (hsm j hj)
      refine fin _ _ _ hcp ?_ ?_ ?_ ?_ ?_ ?_ ?_ ?_ ?_
      · rw [q1, p1]; exact Nat.le_refl _
      · intro b2 hb2 hne
        have : b2 ≠ b := fun e0 => hne (by rw [e0]; exact hm)
        rw [q2 b2 this, p2 b2 this]; rfl
      · rw [q3]; exact p3
      · rw [q4]; exact p4
      · rw [q5]; exact p5
      · rw [q1, p1]; exact hblt
      · intro o; exact hrel.xr id _ b hr (by simp) hm o
      · intro i2 s hne h1 h2 h3; exact hne (hrel.inj i2 id s _ b h1 hr h2 (by simp) h3 hm)
      · intro j hj
        rw [ins_getD cs ws (i * K) j Go.undef (by omega), hwsl]
        by_cases h1 : j < i * K
        · rw [if_pos h1, World.cell?_setCells_out _ _ _ _ _ (fun _ _ => .inl (by show j < _; omega)), World.cell?_setCells_out _ _ _ _ _ (fun _ _ => .inl (by show j < _; omega))]
          refine hcs j _ ?_
          rw [List.getD_eq_getElem?_getD, List.getElem?_eq_getElem (by omega)]; rfl
        · rw [if_neg h1]
          by_cases h2 : j < i * K + K
          · rw [if_pos h2]
            have := World.cell?_setCells_in b ws (i * K) W1 (fun t ht => hsm1 _ (by omega)) (j - i * K) (by omega)
            rw [show i * K + (j - i * K) = j by omega] at this
            rw [this, List.getD_eq_getElem?_getD, List.getElem?_eq_getElem (by omega)]; rfl
          · rw [if_neg h2, World.cell?_setCells_out _ _ _ _ _ (fun _ _ => .inr (by show _ ≤ j; omega))]
            have := World.cell?_setCells_in b (cs.drop (i * K)) ((i + 1) * K) w.drew (fun t ht => hsm _ (by omega)) (j - (i + 1) * K) (by omega)
            rw [show (i + 1) * K + (j - (i + 1) * K) = j by omega] at this
            rw [this, List.getElem_drop, List.getD_eq_getElem?_getD, List.getElem?_eq_getElem (by omega)]
            simp only [Option.getD_some]
            congr 2; omega
  · -- at the end
    have hie : i = n := by omega
    subst hie
    obtain ⟨sz, rfl⟩ : ∃ sz, K = sz + 1 := ⟨K - 1, by omega⟩
    have ha : appendA P #[TS, TS] (.row id 0 i) (.sl xs 1 k) rows = some (xs.length = 1 * (sz + 1) ∧ (sz + 1) = sz + 1 ∧ i * (sz + 1) = cells.length ∧ i + 1 ≤ 1073741824 ∧ dataAll (cells ++ xs) = true ∧ ∀ j, j < xs.length → (xs.getD j .undef).one = true, .row id 0 (i + 1), rows.set id ⟨cells ++ xs, sz + 1, .grown⟩) := by
      simp only [appendA, List.getElem?_toArray, List.getElem?_cons_zero, List.getElem?_cons_succ, h.und, hi0, hzs, hz0]
      rw [if_neg (by rw [hzb, hzc]; omega)]
      simp [srcA, h.und, hr]
    have hdx : dataAll (cells ++ xs) = true := by rw [dataAll_append, hd, hxd]; rfl
    obtain ⟨q, w', m', hrun, k1, k2, _, k3⟩ := append_spec (ty := TS) ha ⟨by omega, rfl, hl.symm, by omega, hdx, hxo⟩ hrel hv0 hv2
    have hgo : ∃ base cap, v0 = .slice base i cap ∧ i ≤ cap ∧ (base = none → cap = 0) := by
      rcases hv0.rowF_inv hr rfl with ⟨b, cap, rfl, h1, h2, h3, h4⟩ | ⟨base, rfl, _, rfl, _⟩
      · exact ⟨_, cap, rfl, h2, fun h => by cases h⟩
      · exact ⟨base, 0, rfl, Nat.le_refl _, fun _ => rfl⟩
    obtain ⟨base, cap, rfl, hic, hnil⟩ := hgo
    refine (h.fin base _ i cap vc w w' q hic hnil hrun).mono ?_
    rintro e' W ⟨rfl, rfl⟩
    let r1 : Row := ⟨cells ++ xs, sz + 1, .grown⟩
    have hr1 : (rows.set id r1)[id]? = some r1 := get_set_same hr
    obtain ⟨f1, f2⟩ := freeze_step (E := ⟨rows.set id r1, m', W, X⟩) k1 hr1 (.inr rfl) hdx
    have hr2 : ((rows.set id r1).set id { r1 with st := .frozen })[id]? = some { r1 with st := .frozen } := get_set_same hr1
    have hq := V.rowAt (f2.val _ _ k2 k2.refLt) hr2 rfl hdx
    obtain ⟨d1, d2⟩ := dead_step (E := ⟨(rows.set id r1).set id { r1 with st := .frozen }, m', W, X⟩) f1 hr2 (by simp) (by simp) (w' := W) (Nat.le_refl _) (fun _ _ _ => rfl) rfl rfl rfl (fun h => by simp at h)
    have e2 : ((rows.set id r1).set id { r1 with st := .frozen }).set id ⟨[], sz + 1, .dead⟩ = rows.set id ⟨[], sz + 1, .dead⟩ := by simp [List.set_set]
    have d1' : Rel ⟨((rows.set id r1).set id { r1 with st := .frozen }).set id ⟨[], sz + 1, .dead⟩, _, W, X⟩ := d1
    have d2' : Evo _ _ ⟨((rows.set id r1).set id { r1 with st := .frozen }).set id ⟨[], sz + 1, .dead⟩, _, W, X⟩ := d2
    have hq2 := d2'.val _ _ hq hq.refLt
    rw [e2] at d1' d2' hq2
    refine ⟨q, _, rfl, d1', ?_, by simp, (k3.trans (f2.mono (by simp))).trans (d2'.mono (by simp))⟩
    have e3 : (List.take ((i + 1) * (sz + 1)) (List.drop 0 (cells ++ xs))) = cells.take (i * (sz + 1)) ++ xs ++ cells.drop (i * (sz + 1)) := by
      have h1 : (i + 1) * (sz + 1) = i * (sz + 1) + (sz + 1) := by rw [Nat.add_mul, Nat.one_mul]
      rw [List.drop_zero, List.take_of_length_le (by rw [List.length_append]; omega), List.take_of_length_le (by omega), List.drop_of_length_le (by omega), List.append_nil]
    rw [← e3]
    exact hq2
/-- slices.Insert of one element into a fresh row. -/
theorem InsRaw.evK {P : Program} {f TS TE K B : Nat} (h : InsRaw P f TS TE K B) (hK : 0 < K) (hB : 0 < B ∧ B ≤ 1000) {n i : Nat} {cells xs out : List AVal} (hl : cells.length = n * K)
    (hd : dataAll cells = true) (ho : ∀ j, j < cells.length → (cells.getD j .undef).one = true) (hx : xs.length = K) (hxd : dataAll xs = true) (hxo : ∀ j, j < xs.length → (xs.getD j .undef).one = true) (hi : i ≤ n) (hn : n ≤ 100000) (hout : out = cells.take (i * K) ++ xs ++ cells.drop (i * K)) :
    EvK P f [.row 0 0 n, .sc (.int .i64 i), .sl xs 1 .any] ⟨cells, K, .fresh⟩ (.sl out (n + 1) .any) ⟨[], K, .dead⟩ := fun rows id hr => by
  subst hout
  exact h.ev hK hB hr hl hd ho hx hxd hxo hi hn
end Go.Abs

set_option linter.unusedVariables false
set_option linter.unusedSimpArgs false
namespace Go.Abs
open Go
/-- A function that is given one fresh row, and leaves it fresh, is the same wherever the row lies. -/
theorem EvF.frameF {P : Program} {f : FuncId} {args : List AVal} {res : AVal} {r0 r1 : Row} (h : EvF P f args [r0] res [r1]) (hs0 : r0.st = .fresh) (hs1 : r1.st = .fresh) (hd0 : ltAll 0 r0.cells = true) (hd1 : ltAll 0 r1.cells = true)
    (hesz : r1.esz = r0.esz) (hlen : r1.cells.length = r0.cells.length) (hez : 0 < r0.esz) (hle : r0.esz ≤ r0.cells.length) (hargs : ltAll 1 args = true) (hres : res.refLt 0 = true) (rows : List Row) (id : Nat) (hr : rows[id]? = some r0) :
    EvF P f (renAll (fun _ => id) args) rows res (rows.set id r1) := by
  intro X m w vs hrel hvl
  have hns0 : r0.st ≠ .frozen := by rw [hs0]; simp
  have hns1 : r1.st ≠ .frozen := by rw [hs1]; simp
  let E : Env := ⟨rows, m, w, X⟩
  let X2 : Nat → Nat → Prop := fun b o => b < w.heap.size ∧ ¬ Imm E b o ∧ m id ≠ some b
  let E1 : Env := ⟨rows, m, w, X2⟩
  let E2 : Env := ⟨[r0], fun _ => m id, w, X2⟩
  -- what is seen stays
  have hE1 : ∀ x v, V E x v → V E1 x v := fun x v hv => by
    refine V.mono (E := E) (E' := E1) (N := rows.length) ?_ (fun i s _ hs => ⟨s, hs, RowEvo.keep rfl (fun _ _ _ _ hc => hc)⟩) hv hv.refLt
    intro b o u hi hc
    exact ⟨⟨hi.1, fun hx => hx.2.1 hi, hi.2.2⟩, hc⟩
  have hA : ∀ x v, V E (x.ren fun _ => id) v → x.refLt 1 = true → V E2 x v := fun x v hv hx => by
    refine V.unren (E1 := E1) (E2 := E2) (ρ := fun _ => id) rfl rfl ?_ (fun i hi => rfl) (hE1 _ _ hv) x rfl hx
    intro i r hi
    have : i = 0 ∧ r = r0 := by
      cases i with
      | zero => simp [E2] at hi; exact ⟨rfl, hi.symm⟩
      | succ i => simp [E2] at hi
    obtain ⟨rfl, rfl⟩ := this
    show rows[id]? = some (r.ren _)
    rw [hr]
    have : r.ren (fun _ => id) = r := by
      unfold Row.ren
      rw [renAll_lt (N := 0) (fun _ h => absurd h (by omega)) _ hd0]
    rw [this]
  have hone : ∀ (i : Nat) (r : Row), E2.rows[i]? = some r → i = 0 ∧ r = r0 := by
    intro i r hi
    cases i with
    | zero => simp [E2] at hi; exact ⟨rfl, hi.symm⟩
    | succ i => simp [E2] at hi
  have hrel2 : Rel E2 := by
    refine ⟨fun b o hx => hx.1, ?_, ?_, ?_, ?_, ?_⟩
    · intro i r b hi _ hm o hx; exact hx.2.2 hm
    · intro i j r s b hi hj _ _ _ _; rw [(hone i r hi).1, (hone j s hj).1]
    · intro i r hi hns hnm
      obtain ⟨rfl, rfl⟩ := hone i r hi
      rcases hrel.own id r hr hns hnm with h' | ⟨b, c, e, k1, k2, k3, k4⟩
      · exact .inl h'
      · refine .inr ⟨b, c, e, k1, k2, k3, fun j hj => ?_⟩
        have hdj := (ltAll_iff _ _).1 hd0 j hj
        exact hA _ _ (by rw [AVal.ren_lt (N := 0) (fun _ h => absurd h (by omega)) _ hdj]; exact k4 j hj) (AVal.lt_mono (Nat.zero_le _) _ hdj)
    · intro i r hi hg; rw [(hone i r hi).2, hs0] at hg; simp at hg
    · intro i r hi hg; rw [(hone i r hi).2, hs0] at hg; simp at hg
  have hvl2 : VL E2 args vs := by
    refine ⟨by have := hvl.1; rw [renAll_length] at this; exact this, fun i hi => ?_⟩
    refine hA _ _ ?_ ((ltAll_iff _ _).1 hargs i hi)
    have := hvl.2 i (by rw [renAll_length]; exact hi)
    rw [renAll_getD] at this
    exact this
  refine (h X2 (fun _ => m id) w vs hrel2 hvl2).mono ?_
  rintro e w' ⟨v, m', rfl, h1, h2, h3, h4⟩
  let F2 : Env := ⟨[r1], m', w', X2⟩
  let F : Env := ⟨rows.set id r1, m, w', X⟩
  have hsz : w.heap.size ≤ w'.heap.size := h4.size
  have hfree : ∀ b, m id ≠ some b → Free E2 b := fun b hb i r hi _ hm => hb hm
  have hold : ∀ b, b < w.heap.size → m id ≠ some b → w'.heap[b]? = w.heap[b]? := fun b hb hm => (h4.free b hb (hfree b hm)).1
  -- the block of the row
  obtain ⟨b0, c0, e0, hm0, hbk0, hbl0, hbv0⟩ : ∃ b c e, m id = some b ∧ w.heap[b]? = some (.cells c e (0, 0)) ∧ r0.cells.length ≤ c.size ∧ ∀ j, j < r0.cells.length → V E (r0.cells.getD j .undef) (c.getD j Go.undef) := by
    rcases hrel.own id r0 hr hns0 (by rw [hs0]; simp) with ⟨_, h0⟩ | ⟨b, c, e, k1, k2, k3, k4⟩
    · rw [h0] at hle; simp at hle; omega
    · exact ⟨b, c, e, k1, k2, k3, k4⟩
  have hm1 : m' 0 = some b0 := by
    have hp : V E2 (.ptr 0 0) (.pointer (some ⟨b0, 0, none⟩)) := .ptr 0 0 r0 b0 rfl hs0 hm0
    have hp2 := h4.val _ _ hp (by simp [AVal.refLt])
    obtain ⟨b, e1, e2⟩ := hp2.ptr_inv (r := r1) rfl hs1
    cases e1; exact e2
  have hone1 : ∀ (i : Nat) (r : Row), F2.rows[i]? = some r → i = 0 ∧ r = r1 := by
    intro i r hi
    cases i with
    | zero => simp [F2] at hi; exact ⟨rfl, hi.symm⟩
    | succ i => simp [F2] at hi
  obtain ⟨c1, e1, hbk1, hbl1, hbv1⟩ := h1.block (r := r1) (id := 0) rfl (.inl hs1) hm1
  have hbk1 : w'.heap[b0]? = some (.cells c1 e1 (0, 0)) := hbk1
  -- all cells stay
  have hstay : ∀ o, (w.cell? ⟨b0, o, none⟩).isSome = true → (w'.cell? ⟨b0, o, none⟩).isSome = true := by
    intro o ho
    have hbk0' : w.heap[b0]? = some (.cells c0 e0 (0, 0)) := hbk0
    rw [isSome_cell hbk0'] at ho
    have ho : o < c0.size := ho
    rcases Nat.lt_or_ge o r0.cells.length with h5 | h5
    · rw [isSome_cell hbk1]
      have : r1.cells.length ≤ c1.size := hbl1
      show o < c1.size
      omega
    · have hmod : c0.size % r0.esz < r0.esz := Nat.mod_lt _ hez
      have hdm : r0.esz * (c0.size / r0.esz) + c0.size % r0.esz = c0.size := Nat.div_add_mod _ _
      have hrow : V E2 (.row 0 (c0.size % r0.esz) 0) (.slice (some ⟨b0, c0.size % r0.esz, none⟩) 0 (c0.size / r0.esz)) := by
        refine .rowF 0 _ 0 b0 _ r0 rfl hs0 hm0 (Nat.zero_le _) (by omega) (fun i hi => ?_)
        show (w.cell? _).isSome = true
        rw [isSome_cell hbk0']
        rw [Nat.mul_comm] at hi
        show _ < c0.size
        omega
      have hrow2 := h4.val _ _ hrow (by simp [AVal.refLt])
      rcases hrow2.rowF_inv (r := r1) rfl hs1 with ⟨b2, cap2, hv2, hm2, hn2, ho2, hcc2⟩ | ⟨base, hv2, _, _, _⟩
      · injection hv2 with g1 g2 g3
        injection g1 with g1
        injection g1 with g1
        subst g1 g3
        have := hcc2 (o - c0.size % r0.esz) (by rw [hesz, Nat.mul_comm]; omega)
        rwa [show c0.size % r0.esz + (o - c0.size % r0.esz) = o by omega] at this
      · injection hv2 with _ _ h6
        have h8 : r0.esz ≤ c0.size := by omega
        have := Nat.div_pos h8 hez
        omega
  -- from the inner world to the outer one
  have hI2 : ∀ b o u, Imm F2 b o → w'.cell? ⟨b, o, none⟩ = some u → Imm F b o ∧ w'.cell? ⟨b, o, none⟩ = some u := by
    intro b o u hi hc
    refine ⟨⟨hi.1, fun hx => ?_, fun i s hs hns hm => ?_⟩, hc⟩
    · have hb := hrel.xlt b o hx
      exact hi.2.1 ⟨hb, fun hh => hh.2.1 hx, fun hm => hrel.xr id r0 b hr hns0 hm o hx⟩
    · rcases get_set_cases hs with ⟨rfl, rfl, _⟩ | ⟨hne, hs'⟩
      · have hmb : b0 = b := by
          have hm' : m i = some b := hm
          rw [hm0] at hm'; cases hm'; rfl
        subst hmb
        have := (hi.2.2 0 s rfl hns hm1).1
        rw [hs1] at this; simp at this
      · have hb := hrel.lt hs' hns hm
        have hii : Imm E b o := Classical.byContradiction fun hn => hi.2.1 ⟨hb, hn, fun hm2 => hne (hrel.inj i id s r0 b hs' hr hns hns0 hm hm2)⟩
        exact hii.2.2 i s hs' hns hm
  have hD2 : ∀ x u, x.refLt 0 = true → V F2 x u → V F x u := fun x u hd hv => V.mono (N := 0) hI2 (fun i s hi _ => absurd hi (by omega)) hv hd
  have hnm : ∀ b o, Imm E b o → m id ≠ some b := fun b o hi hm => by
    have := (hi.2.2 id r0 hr hns0 hm).1
    rw [hs0] at this; simp at this
  -- the old values
  have hIo : ∀ b o u, Imm E b o → w.cell? ⟨b, o, none⟩ = some u → Imm F b o ∧ w'.cell? ⟨b, o, none⟩ = some u := by
    intro b o u hi hc
    refine ⟨⟨Nat.lt_of_lt_of_le hi.1 hsz, hi.2.1, fun i s hs hns hm => ?_⟩, by rw [cell_congr (hold b hi.1 (hnm b o hi))]; exact hc⟩
    rcases get_set_cases hs with ⟨rfl, rfl, _⟩ | ⟨hne, hs'⟩
    · exact absurd hm (hnm b o hi)
    · exact hi.2.2 i s hs' hns hm
  have hRo : ∀ (i : Nat) (s : Row), i < rows.length → E.rows[i]? = some s → ∃ s', F.rows[i]? = some s' ∧ RowEvo E F i s s' := by
    intro i s _ hs
    by_cases hi : i = id
    · subst hi
      have hs' : rows[i]? = some s := hs
      rw [hr] at hs'; cases hs'
      refine ⟨r1, get_set_same hr, RowEvo.fresh hs0 hs1 hesz rfl hlen (fun b o hm hc => ?_)⟩
      have hm' : m i = some b := hm
      rw [hm0] at hm'; cases hm'
      exact hstay o hc
    · refine ⟨s, by show (rows.set id r1)[i]? = _; rw [get_set_other hi]; exact hs, RowEvo.keep rfl ?_⟩
      intro hst b o hm hc
      have hns : s.st ≠ .frozen := by rcases hst with h' | h' <;> simp [h']
      have hne : m id ≠ some b := fun hm2 => hi (hrel.inj i id s r0 b hs hr hns hns0 hm hm2)
      show (w'.cell? _).isSome = true
      rw [cell_congr (hold b (hrel.lt hs hns hm) hne)]; exact hc
  have hV : ∀ x u, V E x u → V F x u := fun x u hv => V.mono (N := rows.length) hIo hRo hv hv.refLt
  refine ⟨v, m, rfl, ⟨fun b o hx => Nat.lt_of_lt_of_le (hrel.xlt b o hx) hsz, ?_, ?_, ?_, ?_, ?_⟩, hD2 _ _ hres h2, by simp, ⟨fun x u hv _ => hV x u hv, hsz, fun b hb hf => ?_, h4.os, h4.tape, h4.output, hIo⟩⟩
  · intro i s b hs hns hm
    rcases get_set_cases hs with ⟨rfl, rfl, _⟩ | ⟨hne, hs'⟩
    · exact hrel.xr i r0 b hr hns0 hm
    · exact hrel.xr i s b hs' hns hm
  · intro i j s t b hs ht hns hnt hm1 hm2
    have key : ∀ (i : Nat) (s : Row), (rows.set id r1)[i]? = some s → s.st ≠ .frozen → ∃ s', rows[i]? = some s' ∧ s'.st ≠ .frozen := fun i s hs hns => by
      rcases get_set_cases hs with ⟨rfl, rfl, _⟩ | ⟨_, hs'⟩
      · exact ⟨r0, hr, hns0⟩
      · exact ⟨s, hs', hns⟩
    obtain ⟨s', p1, p2⟩ := key i s hs hns
    obtain ⟨t', q1, q2⟩ := key j t ht hnt
    exact hrel.inj i j s' t' b p1 q1 p2 q2 hm1 hm2
  · intro i s hs hns hnm'
    rcases get_set_cases hs with ⟨rfl, rfl, _⟩ | ⟨hne, hs'⟩
    · exact .inr ⟨b0, c1, e1, hm0, hbk1, hbl1, fun j hj => hD2 _ _ ((ltAll_iff _ _).1 hd1 j hj) (hbv1 j hj)⟩
    · rcases hrel.own i s hs' hns hnm' with h' | ⟨b, c, e, k1, k2, k3, k4⟩
      · exact .inl h'
      · have hmne : m id ≠ some b := fun hm2 => hne (hrel.inj i id s r0 b hs' hr hns hns0 k1 hm2)
        exact .inr ⟨b, c, e, k1, (hold b (lt_of_heap k2) hmne).trans k2, k3, fun j hj => hV _ _ (k4 j hj)⟩
  · intro i s hs hg
    rcases get_set_cases hs with ⟨rfl, rfl, _⟩ | ⟨hne, hs'⟩
    · rw [hs1] at hg; simp at hg
    · exact hrel.grown i s hs' hg
  · intro i s hs hg
    rcases get_set_cases hs with ⟨rfl, rfl, _⟩ | ⟨hne, hs'⟩
    · rw [hs1] at hg; simp at hg
    · obtain ⟨b, es, k, k1, k2, k3, k4⟩ := hrel.map i s hs' hg
      have hmne : m id ≠ some b := fun hm2 => hne (hrel.inj i id s r0 b hs' hr (by rw [hg]; simp) hns0 k1 hm2)
      exact ⟨b, es, k, k1, (hold b (lt_of_heap k2) hmne).trans k2, k3, fun j hj => ⟨hV _ _ (k4 j hj).1, hV _ _ (k4 j hj).2⟩⟩
  · have hmne : m id ≠ some b := fun hm2 => hf id r0 hr hns0 hm2
    refine ⟨hold b hb hmne, fun i s hs hns hm => ?_⟩
    rcases get_set_cases hs with ⟨rfl, rfl, _⟩ | ⟨hne, hs'⟩
    · exact hmne hm
    · exact hf i s hs' hns hm
theorem EvK.ofF {P : Program} {f : FuncId} {args : List AVal} {r0 r1 : Row} {res : AVal} (h0 : EvF P f args [r0] res [r1]) (h1 : r0.st = .fresh ∧ r1.st = .fresh ∧ ltAll 0 r0.cells = true ∧ ltAll 0 r1.cells = true ∧ r1.esz = r0.esz ∧ r1.cells.length = r0.cells.length ∧ 0 < r0.esz ∧ r0.esz ≤ r0.cells.length ∧ ltAll 1 args = true ∧ res.refLt 0 = true) : EvK P f args r0 res r1 := by
  obtain ⟨h1, h2, h3, h4, h5, h6, h7, h8, h9, h10⟩ := h1
  exact fun rows id hr => EvF.frameF h0 h1 h2 h3 h4 h5 h6 h7 h8 h9 h10 rows id hr
end Go.Abs

set_option linter.unusedVariables false
set_option linter.unusedSimpArgs false
namespace Go.Abs
open Go
/-- What slices.Delete of one element does to the memory. -/
structure DelRaw (P : Program) (f TS TE K : Nat) : Prop where
  run : ∀ (b n c i : Nat) (cs : List Value) (w : World) (hi : i < n) (hnc : n ≤ c) (hn9 : n ≤ 1000000000) (hcl : cs.length = n * K)
    (hcs : ∀ j v, cs[j]? = some v → w.cell? ⟨b, j, none⟩ = some v) (hfz : ∀ j, w.frozen? ⟨b, j, none⟩ = false) (h1c : ∀ v ∈ cs, v.oneCell' = true),
    Calls P f #[.slice (some ⟨b, 0, none⟩) n c, .int .i64 i, .int .i64 ((i : Int) + 1)] w fun e w' =>
      e = .returned (.slice (some ⟨b, 0, none⟩) (n - 1) c) ∧ ∃ zs : List Value, zs.length = K ∧ w' = (w.drew.setCells b (i * K) (cs.drop ((i + 1) * K))).setCells b ((n - 1) * K) zs
end Go.Abs

set_option linter.unusedVariables false
set_option linter.unusedSimpArgs false
namespace Go.Abs
open Go
end Go.Abs

set_option linter.unusedVariables false
set_option linter.unusedSimpArgs false
namespace Go.Abs
open Go
/-! ### A call whose contract names all rows -/
theorem EvF.anyArgs {P : Program} {f : FuncId} {args args' : List AVal} {rows rows0 rows' : List Row} {r : AVal} (h : EvF P f args rows r rows') (ha : anyAll args' = args) (hr : rows0 = rows) : EvF P f args' rows0 r rows' := by
  subst hr ha
  exact fun X m w vs hrel hvl => h X m w vs hrel hvl.anyAll
theorem DerQ.callM {P : Program} {ops : Array Oper} {o : Oper} {l : List Oper} {st : St} {K : St → Prop} {f : FuncId} {args : List AVal} {rows rows' : List Row} {r : AVal} (he : EvF P f args rows r rows') (args' : List AVal) (st1 : St)
    (h : wantA ops o st.regs = some true ∧ Abs.callA P o (ev st.regs) = some (f, args') ∧ st.rows = rows ∧ anyAll args' = args ∧ st.put o.dst r rows' = st1) (hk : DerQ P ops l st1 K) : DerQ P ops (o :: l) st K := by
  obtain ⟨h1, h2, h3, h4, h6⟩ := h
  exact DerQ.call (he.anyArgs h4 h3) st1 ⟨h1, h2, h6⟩ hk
end Go.Abs
