/- Library: an abstract machine over the model, part C. -/
import Derived.Deep.RegionLaw
import Derived.Lib.AppendZerosOnto
import Derived.Lib.JoinLaws
import Derived.Lib.Overlaps
import Derived.RangeFuncFrom
import Derived.RangeFuncLeaves
import Derived.RangeFuncRecord
import Derived.Shelf.Spec.SlicesInsertGrow
import Derived.Test.YtikllaiggklljaaLibB
set_option linter.unusedVariables false
set_option linter.unusedSimpArgs false
namespace Go.Abs
open Go
inductive DerBL (P : Program) (K : Oper → Nat) (ops : Array Oper) (R : (Nat → List AVal) → List Row) (n0 : Nat) : List Oper → St → St → Prop
  | nil (st : St) : DerBL P K ops R n0 [] st st
  | mv (o : Oper) (rest : List Oper) (st st' : St) (res : AVal) (m : Mv) (hk : m.kind ≤ K o) (hw : wantA ops o st.regs = some true)
      (hs : ∀ rows, m.D R n0 rows → OpS P o (ev st.regs) rows res (m.act rows)) (hd : m.D R n0 st.rows) (h : DerBL P K ops R n0 rest (st.put o.dst res (m.act st.rows)) st') : DerBL P K ops R n0 (o :: rest) st st'
  | eff (o : Oper) (rest : List Oper) (st st' : St) (res : AVal) (rows' : List Row) (he : K o = 3) (hw : wantA ops o st.regs = some true)
      (hs : OpS P o (ev st.regs) st.rows res rows') (hg : GZ R n0 rows') (h : DerBL P K ops R n0 rest (st.put o.dst res rows') st') : DerBL P K ops R n0 (o :: rest) st st'
  | skip (o : Oper) (rest : List Oper) (st st' : St) (hw : wantA ops o st.regs = some false)
      (h : DerBL P K ops R n0 rest (st.put o.dst (.tup []) st.rows) st') : DerBL P K ops R n0 (o :: rest) st st'
theorem DerBL.der {K : Oper → Nat} {P : Program} {ops : Array Oper} {R : (Nat → List AVal) → List Row} {n0 : Nat} : ∀ {l : List Oper} {st st' : St} (k : Nat), (∀ j, l[j]? = ops[k + j]?) → DerBL P K ops R n0 l st st' → DerB P K ops R n0 (List.range' k l.length) st st'
  | [], st, st', k, _, h => by cases h; exact .nil _
  | o :: l, st, st', k, hk, h => by
    have h0 : ops[k]? = some o := by simpa using (hk 0).symm
    have hk' : ∀ j, l[j]? = ops[k + 1 + j]? := fun j => by have := hk (j + 1); simpa [Nat.add_assoc, Nat.add_comm 1 j] using this
    rw [List.length_cons, List.range'_succ]
    cases h with
    | mv _ _ _ _ res m hk1 hw hs hd h => exact .mv k _ _ _ o res m h0 hk1 hw hs hd (DerBL.der (k + 1) hk' h)
    | eff _ _ _ _ res rows' he hw hs hg h => exact .eff k _ _ _ o res rows' h0 he hw hs hg (DerBL.der (k + 1) hk' h)
    | skip _ _ _ _ hw h => exact .skip k _ _ _ o h0 hw (DerBL.der (k + 1) hk' h)
def cellsAt (rows : List Row) (i : Nat) : List AVal := (rows.getD i ub).cells
/-- A region in which rows come into being in any order, and some of the old ones are stored into. -/
def DerZ (P : Program) (K0 : Oper → Nat) (ops : Array Oper) (R : (Nat → List AVal) → List Row) (l : List Oper) (st : St) (K : St → Prop) (n0 : Nat) : Prop :=
  GZ R n0 st.rows → ∃ st', DerBL P K0 ops R n0 l st st' ∧ K st'
theorem reserve_weak (N : Nat) : ∀ (k : Nat) (st : St), Weak N st ⟨st.regs, st.rows ++ List.replicate k ub⟩
  | 0, st => by
    intro hN
    refine ⟨by simpa using hN, fun ds X m w a ha => ⟨m, ?_, ?_⟩⟩
    · simpa using ha
    · simpa using Evo.refl N _
  | k + 1, st => by
    intro hN
    obtain ⟨h1, h2⟩ := reserve_weak N k ⟨st.regs, st.rows ++ [ub]⟩ (by simp; omega)
    refine ⟨by simp; omega, fun ds X m w a ha => ?_⟩
    obtain ⟨k1, k2⟩ := reserve_step ha.rel
    have hr : RelSt ds X ⟨st.regs, st.rows ++ [ub]⟩ (fun i => if i = st.rows.length then none else m i) w a :=
      ⟨k1, ha.len, fun i hi => k2.val _ _ (ha.regs i hi) (ha.regs i hi).refLt, ha.defers⟩
    obtain ⟨m', e1, e2⟩ := h2 ds X _ w a hr
    refine ⟨m', ?_, (k2.mono hN).trans ?_⟩
    · have e : st.rows ++ List.replicate (k + 1) ub = st.rows ++ [ub] ++ List.replicate k ub := by simp [List.replicate_succ]
      rw [e]; exact e1
    · have e : st.rows ++ List.replicate (k + 1) ub = st.rows ++ [ub] ++ List.replicate k ub := by simp [List.replicate_succ]
      rw [e]; exact e2
theorem AWP.drawB {P : Program} {N : Nat} {Q : Exit → St → Prop} {st : St} {id : Nat} {l : List Oper} (hm : P.follows .mixedOrders = true) (K0 : Oper → Nat) (k nR : Nat) (R : (Nat → List AVal) → List Row) (st1 : St) (h1 : (⟨st.regs, st.rows ++ List.replicate k ub⟩ : St) = st1) (hR : R (cellsAt st.rows) = st.rows ∧ st.rows.length = nR) (hok : drawOkK K0 l = true)
    (h : DerZ P K0 l.toArray R l st1 (Q .normal) (nR + k)) : AWP P N (.region id l.toArray true) Q st := by
  subst h1
  refine AWP.weaken (reserve_weak N k st) ?_
  obtain ⟨hR, rfl⟩ := hR
  have hg : GZ R (st.rows.length + k) (st.rows ++ List.replicate k ub) := ⟨⟨cellsAt st.rows, _, by rw [hR]⟩, by simp⟩
  obtain ⟨st', h1, h2⟩ := h hg
  refine AWP.drawB0 hm R (st.rows.length + k) hg hok ?_ h2
  have := h1.der 0 (fun j => by simp)
  rw [List.range_eq_range']
  simpa using this
theorem DerZ.nil {K0 : Oper → Nat} {n0 : Nat} {P : Program} {ops : Array Oper} {R : (Nat → List AVal) → List Row} {st : St} {K : St → Prop} (h : K st) : DerZ P K0 ops R [] st K n0 := fun _ => ⟨st, .nil _, h⟩
theorem of_e3 {k n0 m : Nat} (h : (k == 3 && Nat.ble n0 m) = true) : k = 3 ∧ n0 ≤ m := by
  simp only [Bool.and_eq_true, beq_iff_eq] at h
  exact ⟨h.1, Nat.le_of_ble_eq_true h.2⟩
theorem DerZ.quiet {K0 : Oper → Nat} {n0 : Nat} {P : Program} {ops : Array Oper} {R : (Nat → List AVal) → List Row} {o : Oper} {l : List Oper} {st : St} {K : St → Prop} (c : Prop) (v : AVal) (st1 : St)
    (h : ∀ x ext, sop P o (ev st.regs) (R x ++ ext) = some ⟨c, v, R x ++ ext⟩) (hw : wantA ops o st.regs = some true ∧ st.put o.dst v st.rows = st1) (hc : c) (hk : DerZ P K0 ops R l st1 K n0) : DerZ P K0 ops R (o :: l) st K n0 := by
  obtain ⟨h1, rfl⟩ := hw
  intro hG
  obtain ⟨st', k1, k2⟩ := hk (by rw [rows_put]; exact hG)
  exact ⟨st', .mv o l _ _ v .id (Nat.zero_le _) h1 (fun rows ⟨⟨x, ext, he⟩, _⟩ => by subst he; exact sop_spec (h x ext) hc) hG k1, k2⟩
theorem DerZ.eff {K0 : Oper → Nat} {n0 : Nat} {P : Program} {ops : Array Oper} {R : (Nat → List AVal) → List Row} {o : Oper} {l : List Oper} {st : St} {K : St → Prop} (nR : Nat) (c : Prop) (v : AVal) (rows' : List Row) (st1 : St)
    (h : sop P o (ev st.regs) st.rows = some ⟨c, v, rows'⟩) (hw : ((K0 o == 3 && Nat.ble n0 (rows').length) = true ∧ R (cellsAt (rows')) ++ List.drop nR (rows') = rows') ∧ wantA ops o st.regs = some true ∧ st.put o.dst v rows' = st1) (hc : c) (hk : DerZ P K0 ops R l st1 K n0) : DerZ P K0 ops R (o :: l) st K n0 := by
  obtain ⟨h0, h1, rfl⟩ := hw
  intro hG
  have hg : GZ R n0 rows' := ⟨⟨_, _, h0.2.symm⟩, (of_e3 h0.1).2⟩
  obtain ⟨st', k1, k2⟩ := hk (by rw [rows_put]; exact hg)
  exact ⟨st', .eff o l _ _ v _ (of_e3 h0.1).1 h1 (sop_spec h hc) hg k1, k2⟩
theorem DerZ.skip {K0 : Oper → Nat} {n0 : Nat} {P : Program} {ops : Array Oper} {R : (Nat → List AVal) → List Row} {o : Oper} {l : List Oper} {st : St} {K : St → Prop} (st1 : St)
    (hw : wantA ops o st.regs = some false ∧ st.put o.dst (.tup []) st.rows = st1) (hk : DerZ P K0 ops R l st1 K n0) : DerZ P K0 ops R (o :: l) st K n0 := by
  obtain ⟨h1, rfl⟩ := hw
  intro hG
  obtain ⟨st', k1, k2⟩ := hk (by rw [rows_put]; exact hG)
  exact ⟨st', .skip o l _ _ h1 k1, k2⟩
theorem DerZ.callD {K0 : Oper → Nat} {n0 : Nat} {P : Program} {ops : Array Oper} {R : (Nat → List AVal) → List Row} {o : Oper} {l : List Oper} {st : St} {K : St → Prop} {f : FuncId} {args : List AVal} {r : AVal} (he : EvD P f args r) (st1 : St)
    (h : wantA ops o st.regs = some true ∧ callA P o (ev st.regs) = some (f, args) ∧ st.put o.dst r st.rows = st1) (hk : DerZ P K0 ops R l st1 K n0) : DerZ P K0 ops R (o :: l) st K n0 := by
  obtain ⟨h1, h2, rfl⟩ := h
  intro hG
  obtain ⟨st', k1, k2⟩ := hk (by rw [rows_put]; exact hG)
  exact ⟨st', .mv o l _ _ r .id (Nat.zero_le _) h1 (fun rows _ => callA_spec h2 (he rows)) hG k1, k2⟩
theorem DerZ.callA {K0 : Oper → Nat} {n0 : Nat} {P : Program} {ops : Array Oper} {R : (Nat → List AVal) → List Row} {o : Oper} {l : List Oper} {st : St} {K : St → Prop} {f : FuncId} {args : List AVal} {r : Nat → AVal} {ext : Nat → List Row} (he : EvA P f args r ext) (args' : List AVal) (st1 : St)
    (h : Nat.ble 2 (K0 o) = true ∧ wantA ops o st.regs = some true ∧ Abs.callA P o (ev st.regs) = some (f, args') ∧ anyAll args' = args ∧ st.put o.dst (r st.rows.length) (st.rows ++ ext st.rows.length) = st1) (hk : DerZ P K0 ops R l st1 K n0) : DerZ P K0 ops R (o :: l) st K n0 := by
  obtain ⟨h0, h1, h2, h3, rfl⟩ := h
  intro hG
  obtain ⟨st', k1, k2⟩ := hk (by rw [rows_put]; exact hG.app)
  refine ⟨st', .mv o l _ _ _ (.app st.rows.length (ext st.rows.length)) (Nat.le_of_ble_eq_true h0) h1 (fun rows hd => ?_) ⟨hG, rfl⟩ k1, k2⟩
  have := callA_spec h2 (he.any h3 rows)
  rw [hd.2] at this
  exact this
/-- A variable that comes into being: its cells, and their size. -/
def birthA (P : Program) (o : Oper) (ρ : Operand → AVal) : Option (List AVal × Nat) :=
  match o.op with
  | .alloc e => match zeroA P e, eszOf P e with
    | some z, some s => match z.cellsA with
      | some cs => if z.data = true then some (cs, s) else none
      | none => none
    | _, _ => none
  | .box e x => match (ρ x).cellsA, eszOf P e with
    | some cs, some s => if (ρ x).data = true then some (cs, s) else none
    | _, _ => none
  | _ => none
theorem not_ptr_of_data {x : AVal} (h : x.data = true) (rows : List Row) : ∀ id off, x = .ptr id off → ∃ r, rows[id]? = some r ∧ r.st = .fresh := by
  rintro id off rfl; simp [AVal.data] at h
theorem newRow_birth {P : Program} {rows : List Row} {X : Nat → Nat → Prop} {m : Nat → Option Nat} {w : World} (hrel : Rel ⟨rows, m, w, X⟩) {cs : List AVal} {c : Array Value} (hc : VC ⟨rows, m, w, X⟩ cs c) (esz : Nat) (e : TypeId) {id : Nat} (hid : rows[id]? = some ub) :
    ∃ w' m', (newRow e c).run P w = .ok ⟨w.heap.size, 0, none⟩ w' ∧ Rel ⟨rows.set id ⟨cs, esz, .fresh⟩, m', w', X⟩ ∧ m' id = some w.heap.size ∧
      Evo rows.length ⟨rows, m, w, X⟩ ⟨rows.set id ⟨cs, esz, .fresh⟩, m', w', X⟩ ∧ w' = w.alloc (.cells c e) := by
  obtain ⟨h1, h2⟩ := birth_step hrel hid ⟨cs, esz, .fresh⟩ c e rfl (Nat.le_of_eq hc.1) (fun j hj => hc.2 j hj)
  refine ⟨_, _, ?_, h1, ?_, h2, rfl⟩
  · simp [newRow, newObj, Sem.run]
  · simp
theorem birth_spec {P : Program} {o : Oper} {ρ : Operand → AVal} {rows : List Row} {id s : Nat} {cs : List AVal} (h : birthA P o ρ = some (cs, s)) (hid : rows[id]? = some ub) : OpS P o ρ rows (.ptr id 0) (rows.set id ⟨cs, s, .fresh⟩) := by
  unfold birthA at h
  split at h
  · rename_i e ho
    split at h
    · rename_i z s' hz hs
      split at h
      · rename_i cs' hcs
        split at h
        · rename_i hst
          simp at h; obtain ⟨rfl, rfl⟩ := h
          refine OpS.of_run fun X m w a hrel hv => ?_
          obtain ⟨zv, hzr, hzV⟩ := run_zero hz w
          have hvc := (hzV ⟨rows, m, w, X⟩).cells hcs (not_ptr_of_data hst rows)
          obtain ⟨w', m', k1, k2, k3, k4, k5⟩ := newRow_birth (P := P) hrel hvc s' e hid
          refine ⟨.pointer (some ⟨w.heap.size, 0, none⟩), w', m', ?_, k2, .ptr _ _ ⟨cs', s', .fresh⟩ _ (get_set_same hid) rfl k3, by simp, k4⟩
          simp only [execOp, ho, Sem.run_bind, Instr.alloc, hzr, Result.andThen_ok, newVar, k1, Sem.run_pure]
        · simp at h
      · simp at h
    · simp at h
  · rename_i e x ho
    split at h
    · rename_i cs' s' hcs hs
      split at h
      · rename_i hst
        simp at h; obtain ⟨rfl, rfl⟩ := h
        refine OpS.of_run fun X m w a hrel hv => ?_
        have hvc := (hv x (by rw [ho]; simp [Op.operands])).cells hcs (not_ptr_of_data hst rows)
        obtain ⟨w', m', k1, k2, k3, k4, k5⟩ := newRow_birth (P := P) hrel hvc s' e hid
        refine ⟨.pointer (some ⟨w.heap.size, 0, none⟩), w', m', ?_, k2, .ptr _ _ ⟨cs', s', .fresh⟩ _ (get_set_same hid) rfl k3, by simp, k4⟩
        simp only [execOp, ho, Sem.run_bind, Instr.box, newVar, k1, Result.andThen_ok, Sem.run_pure]
      · simp at h
    · simp at h
  · simp at h
theorem DerZ.birth {K0 : Oper → Nat} {n0 : Nat} {P : Program} {ops : Array Oper} {R : (Nat → List AVal) → List Row} {o : Oper} {l : List Oper} {st : St} {K : St → Prop} (id s : Nat) (cs : List AVal) (st1 : St)
    (h : birthA P o (ev st.regs) = some (cs, s) ∧ wantA ops o st.regs = some true ∧ Nat.ble 1 (K0 o) = true ∧ st.rows[id]? = some ub ∧ (∀ x, Nat.ble (R x).length id = true) ∧ Nat.blt id n0 = true ∧ st.put o.dst (.ptr id 0) (st.rows.set id ⟨cs, s, .fresh⟩) = st1) (hk : DerZ P K0 ops R l st1 K n0) : DerZ P K0 ops R (o :: l) st K n0 := by
  obtain ⟨h0, h1, h2, h3, h4, h5, rfl⟩ := h
  intro hG
  have h4' := fun x => Nat.le_of_ble_eq_true (h4 x)
  have h5' : id < n0 := Nat.le_of_ble_eq_true h5
  obtain ⟨st', k1, k2⟩ := hk (by rw [rows_put]; exact hG.set h4')
  exact ⟨st', .mv o l _ _ _ (.set id ⟨cs, s, .fresh⟩) (Nat.le_of_ble_eq_true h2) h1 (fun rows hd => birth_spec h0 hd.2.2.2.1) ⟨hG, h4', h5', h3, rfl⟩ k1, k2⟩
theorem DerZ.preAux {K0 : Oper → Nat} {n0 : Nat} {P : Program} {ops : Array Oper} {R : (Nat → List AVal) → List Row} {K : St → Prop} {l2 : List Oper} : ∀ (l1 : List Oper) (st : St) (vals regs' : List AVal),
    (∀ x ext, ∃ c : Prop, c ∧ runQ P ops (R x ++ ext) l1 st.regs = some (c, regs', vals.map fun v => (v, R x ++ ext))) → DerZ P K0 ops R l2 ⟨regs', st.rows⟩ K n0 → DerZ P K0 ops R (l1 ++ l2) st K n0
  | [], st, vals, regs', h, hk => by
    obtain ⟨c, _, h1⟩ := h (fun _ => []) []
    simp only [runQ, Option.some.injEq, Prod.mk.injEq] at h1
    obtain ⟨_, h2, _⟩ := h1
    subst h2
    exact hk
  | o :: l, st, vals, regs', h, hk => by
    cases hw : wantA ops o st.regs with
    | none =>
      obtain ⟨c, _, h1⟩ := h (fun _ => []) []
      simp [runQ, hw] at h1
    | some b =>
      cases b with
      | false =>
        refine DerZ.skip _ ⟨hw, rfl⟩ ?_
        refine DerZ.preAux l _ vals regs' (fun x ext => ?_) ?_
        · obtain ⟨c, hc, h1⟩ := h x ext
          simp only [runQ, hw] at h1
          rw [put_regs] at h1
          exact ⟨c, hc, h1⟩
        · rw [put_rows]; exact hk
      | true =>
        have step : ∀ x ext, ∃ q c, sop P o (ev st.regs) (R x ++ ext) = some q ∧ q.ok ∧ c ∧ ∃ L, (q.v, q.rows) :: L = vals.map (fun v => (v, R x ++ ext)) ∧ runQ P ops (R x ++ ext) l (st.put o.dst q.v st.rows).regs = some (c, regs', L) := by
          intro x ext
          obtain ⟨c, hc, h1⟩ := h x ext
          simp only [runQ, hw] at h1
          split at h1
          · rename_i q hq
            split at h1
            · rename_i c2 r L h2
              simp only [Option.some.injEq, Prod.mk.injEq] at h1
              obtain ⟨rfl, rfl, h3⟩ := h1
              rw [put_regs] at h2
              exact ⟨q, c2, hq, hc.1, hc.2, L, h3, h2⟩
            · simp at h1
          · simp at h1
        cases vals with
        | nil =>
          obtain ⟨q, c, _, _, _, L, h3, _⟩ := step (fun _ => []) []
          simp at h3
        | cons v vals =>
          have hk2 : DerZ P K0 ops R (l ++ l2) (st.put o.dst v st.rows) K n0 := by
            refine DerZ.preAux l _ vals regs' (fun x ext => ?_) (by rw [put_rows]; exact hk)
            obtain ⟨q, c, _, _, hc, L, h3, h4⟩ := step x ext
            simp only [List.map_cons, List.cons.injEq, Prod.mk.injEq] at h3
            obtain ⟨⟨rfl, _⟩, rfl⟩ := h3
            exact ⟨c, hc, h4⟩
          intro hG
          obtain ⟨st', k1, k2⟩ := hk2 (by rw [rows_put]; exact hG)
          refine ⟨st', .mv o _ _ _ v .id (Nat.zero_le _) hw (fun rows ⟨⟨x, ext, he⟩, _⟩ => ?_) hG k1, k2⟩
          subst he
          obtain ⟨q, c, hq, hok, _, L, h3, _⟩ := step x ext
          simp only [List.map_cons, List.cons.injEq, Prod.mk.injEq] at h3
          obtain ⟨⟨rfl, hr⟩, _⟩ := h3
          have := sop_spec hq hok
          rwa [hr] at this
/-- The first n operations that change no rows. -/
theorem DerZ.pre {K0 : Oper → Nat} {n0 : Nat} {P : Program} {ops : Array Oper} {R : (Nat → List AVal) → List Row} {l : List Oper} {st : St} {K : St → Prop} (n : Nat) (c : Prop) (vals : List AVal) (st1 : St)
    (h : ∀ x ext, runQ P ops (R x ++ ext) (l.take n) st.regs = some (c, st1.regs, vals.map fun v => (v, R x ++ ext))) (hr : st1.rows = st.rows) (hc : c) (hk : DerZ P K0 ops R (l.drop n) st1 K n0) : DerZ P K0 ops R l st K n0 := by
  have := DerZ.preAux (K0 := K0) (K := K) (l2 := l.drop n) (l.take n) st vals st1.regs (fun x ext => ⟨c, hc, h x ext⟩) (by rw [← hr]; exact hk)
  rwa [List.take_append_drop] at this
end Go.Abs

set_option linter.unusedVariables false
set_option linter.unusedSimpArgs false
namespace Go.Abs
open Go
mutual
/-- Whether a slice is nil is forgotten, in the cells of slices too. -/
def AVal.deepA : AVal → AVal
  | .sc v => .sc v
  | .sl c n _ => .sl (deepAll c) n .any
  | .agg cs => .agg (deepAll cs)
  | .tup cs => .tup (deepAll cs)
  | .dptr cs => .dptr (deepAll cs)
  | .fn f cs => .fn f (deepAll cs)
  | .ifc t v => .ifc t (v.deepA)
  | .ptr id o => .ptr id o
  | .row id o n => .row id o n
  | .mp id => .mp id
  | .undef => .undef
def deepAll : List AVal → List AVal
  | [] => []
  | x :: r => x.deepA :: deepAll r
end
theorem deepAll_length (l : List AVal) : (deepAll l).length = l.length := by
  induction l with
  | nil => rfl
  | cons x r ih => simp only [deepAll, List.length_cons, ih]
theorem deepAll_getD (l : List AVal) (i : Nat) : (deepAll l).getD i .undef = (l.getD i .undef).deepA := by
  induction l generalizing i with
  | nil => simp [deepAll, AVal.deepA]
  | cons x r ih =>
    cases i with
    | zero => simp [deepAll]
    | succ i => simpa [deepAll] using ih i
mutual
theorem AVal.deepA_data : ∀ x : AVal, x.deepA.data = x.data
  | .sc _ => rfl
  | .sl _ _ _ => rfl
  | .agg cs => by simp only [AVal.deepA, AVal.data]; exact deepAll_data cs
  | .tup cs => by simp only [AVal.deepA, AVal.data]; exact deepAll_data cs
  | .dptr _ => rfl
  | .fn _ cs => by simp only [AVal.deepA, AVal.data]; exact deepAll_data cs
  | .ifc _ v => by simp only [AVal.deepA, AVal.data]; exact AVal.deepA_data v
  | .ptr _ _ => rfl
  | .row _ _ _ => rfl
  | .mp _ => rfl
  | .undef => rfl
theorem deepAll_data : ∀ l : List AVal, dataAll (deepAll l) = dataAll l
  | [] => rfl
  | x :: r => by simp only [deepAll, dataAll, AVal.deepA_data x, deepAll_data r]
end
theorem V.deep {E : Env} {x : AVal} {v : Value} (h : V E x v) : V E x.deepA v := by
  induction h with
  | undef v => exact .undef v
  | sc v h => exact .sc v h
  | slnil k hk => exact .slnil .any (by simp)
  | slz k hk a => exact .slz .any (by simp) a
  | sl cells n k b o cap vs hk hn hd hv hm ih =>
    refine .sl _ n .any b o cap vs (.inl rfl) hn (by rw [deepAll_data]; exact hd) (fun i hi => ?_) (fun i hi => ?_)
    · rw [deepAll_getD]; exact ih i (by rwa [deepAll_length] at hi)
    · exact hm i (by rwa [deepAll_length] at hi)
  | agg cells vs hl hv ih => exact .agg _ vs (by rw [deepAll_length]; exact hl) fun i hi => by rw [deepAll_getD]; exact ih i (by rwa [deepAll_length] at hi)
  | tup cells vs hl hv ih => exact .tup _ vs (by rw [deepAll_length]; exact hl) fun i hi => by rw [deepAll_getD]; exact ih i (by rwa [deepAll_length] at hi)
  | ptr id off r b hr hs hm => exact .ptr id off r b hr hs hm
  | ptrLost id off r v hr hs hu => exact .ptrLost id off r v hr hs hu
  | dptr cells b o vs hd hv hm ih =>
    refine .dptr _ b o vs (by rw [deepAll_data]; exact hd) (fun i hi => ?_) (fun i hi => ?_)
    · rw [deepAll_getD]; exact ih i (by rwa [deepAll_length] at hi)
    · exact hm i (by rwa [deepAll_length] at hi)
  | rowF id off n b cap r hr hs hm hn ho hc => exact .rowF id off n b cap r hr hs hm hn ho hc
  | rowLost id off n r v hr hs h0 hv => exact .rowLost id off n r v hr hs h0 hv
  | rowV id r base hr hs => exact .rowV id r base hr hs
  | rowG id off n b o cap r vs hr hs hn ho hd hv hm he ih => exact .rowG id off n b o cap r vs hr hs hn ho hd hv hm he
  | fn f cap vs hl hv ih => exact .fn f _ vs (by rw [deepAll_length]; exact hl) fun i hi => by rw [deepAll_getD]; exact ih i (by rwa [deepAll_length] at hi)
  | ifc t x v h ih => exact .ifc t _ v ih
  | mp id r b hr hs hm => exact .mp id r b hr hs hm
/-- What holds whatever is nil, inside too, holds. -/
theorem EvD.deep {P : Program} {f : FuncId} {args args' : List AVal} {r : AVal} (h : EvD P f args r) (he : deepAll args' = args) : EvD P f args' r := by
  subst he
  intro rows X m w vs hrel hv
  exact h rows X m w vs hrel ⟨by rw [deepAll_length]; exact hv.1, fun i hi => by rw [deepAll_getD]; exact (hv.2 i (by rwa [deepAll_length] at hi)).deep⟩
/-- Registers of which nobody asks any more. -/
def killL : List Nat → List AVal → List AVal
  | [], r => r
  | i :: l, r => killL l (r.set i .undef)
theorem killL_length : ∀ (l : List Nat) (r : List AVal), (killL l r).length = r.length
  | [], r => rfl
  | i :: l, r => by rw [killL, killL_length, List.length_set]
theorem killL_get : ∀ (l : List Nat) (r : List AVal) (i : Nat), (killL l r).getD i .undef = r.getD i .undef ∨ (killL l r).getD i .undef = .undef
  | [], r, i => .inl rfl
  | k :: l, r, i => by
    rcases killL_get l (r.set k .undef) i with h | h
    · rw [killL, h]
      by_cases e : k = i
      · subst e
        by_cases hk : k < r.length
        · exact .inr (by simp [List.getD_eq_getElem?_getD, hk])
        · exact .inr (by simp [List.getD_eq_getElem?_getD, hk])
      · exact .inl (by simp [List.getD_eq_getElem?_getD, List.getElem?_set, e])
    · exact .inr (by rw [killL]; exact h)
theorem AWP.kill {P : Program} {N : Nat} {c : Code} {Q : Exit → St → Prop} {st : St} (l : List Nat) (st' : St) (he : (⟨killL l st.regs, st.rows⟩ : St) = st') (h : AWP P N c Q st') : AWP P N c Q st := by
  subst he
  refine AWP.weaken ?_ h
  intro hN
  refine ⟨hN, fun ds X m w a ha => ⟨m, ⟨ha.rel, by rw [killL_length]; exact ha.len, fun i hi => ?_, ha.defers⟩, Evo.refl _ _⟩⟩
  rcases killL_get l st.regs i with h | h
  · show V _ ((killL l st.regs).getD i .undef) _
    rw [h]; exact ha.reg i
  · show V _ ((killL l st.regs).getD i .undef) _
    rw [h]; exact .undef _
end Go.Abs

set_option linter.unusedVariables false
set_option linter.unusedSimpArgs false
namespace Go.Abs
open Go
/-- How an operation moves the rows, whatever stands elsewhere. -/
inductive Mu
  | id | set (k : Nat) (r0 r : Row) | app (n : Nat) (ext : List Row) | peek (k : Nat) (r0 : Row)
def Mu.act : Mu → List Row → List Row
  | .id, l => l
  | .set k _ r, l => l.set k r
  | .app _ ext, l => l ++ ext
  | .peek _ _, l => l
def GT (R : (Nat → Row) → List Row) (rows : List Row) : Prop := ∃ x ext, rows = R x ++ ext
def Mu.D (R : (Nat → Row) → List Row) : Mu → List Row → Prop
  | .id, l => GT R l
  | .set k r0 r, l => GT R l ∧ l[k]? = some r0 ∧ (∀ x, k < (R x).length) ∧ ∀ l', GT R l' → GT R (l'.set k r)
  | .app n _, l => GT R l ∧ l.length = n
  | .peek k r0, l => GT R l ∧ l[k]? = some r0 ∧ ∀ x, k < (R x).length
/-- 0: quiet; 2: comes behind; 3: anything; 4 + k: stores into, or reads, row k alone -/
def Mu.fits : Mu → Nat → Bool
  | .id, _ => true
  | .set k _ _, n => n == 3 || n == 4 + k
  | .app _ _, n => n == 2 || n == 3
  | .peek k _, n => n == 1 || n == 3 || n == 4 + k
def clashU (a b : Nat) : Bool := (a == 2 && b == 2) || (decide (1 ≤ a) && b == 3) || (a == 3 && decide (1 ≤ b)) || (decide (4 ≤ a) && a == b) || (a == 1 && decide (4 ≤ b)) || (decide (4 ≤ a) && b == 1)
theorem GT.app {R : (Nat → Row) → List Row} {l ext : List Row} (h : GT R l) : GT R (l ++ ext) := by
  obtain ⟨x, e, rfl⟩ := h
  exact ⟨x, e ++ ext, by rw [List.append_assoc]⟩
theorem Mu.Gact {R : (Nat → Row) → List Row} {m : Mu} {l : List Row} (h : m.D R l) : GT R (m.act l) := by
  cases m with
  | peek k r0 => exact h.1
  | id => exact h
  | set k r0 r => exact h.2.2.2 _ h.1
  | app n ext => exact h.1.app
theorem Mu.comm {R : (Nat → Row) → List Row} {m1 m2 : Mu} {l : List Row} {a b : Nat} (f1 : m1.fits a = true) (f2 : m2.fits b = true) (hc : clashU a b = false) (h1 : m1.D R l) (h2 : m2.D R (m1.act l)) :
    m2.D R l ∧ m1.D R (m2.act l) ∧ m1.act (m2.act l) = m2.act (m1.act l) := by
  simp only [clashU, Bool.or_eq_false_iff, Bool.and_eq_false_iff, beq_eq_false_iff_ne, decide_eq_false_iff_not, ne_eq] at hc
  cases m1 with
  | id => exact ⟨h2, Mu.Gact h2, rfl⟩
  | peek k1 p1 =>
    simp only [Mu.fits, Bool.or_eq_true, beq_iff_eq] at f1
    obtain ⟨a1, a2, a3⟩ := h1
    cases m2 with
    | id => exact ⟨h2, ⟨a1, a2, a3⟩, rfl⟩
    | peek k2 p2 => exact ⟨h2, ⟨a1, a2, a3⟩, rfl⟩
    | set k2 p2 r2 =>
      simp only [Mu.fits, Bool.or_eq_true, beq_iff_eq] at f2
      obtain ⟨b1, b2, b4, b3⟩ := h2
      have hne : k1 ≠ k2 := by omega
      exact ⟨⟨b1, b2, b4, b3⟩, ⟨b3 _ a1, by show (l.set k2 r2)[k1]? = _; rw [get_set_other hne]; exact a2, a3⟩, rfl⟩
    | app n ext =>
      obtain ⟨b1, b2⟩ := h2
      have hlt : k1 < l.length := by
        rcases Nat.lt_or_ge k1 l.length with h | h
        · exact h
        · rw [List.getElem?_eq_none h] at a2; cases a2
      exact ⟨⟨b1, b2⟩, ⟨a1.app, by show (l ++ ext)[k1]? = _; rw [List.getElem?_append_left hlt]; exact a2, a3⟩, rfl⟩
  | set k1 p1 r1 =>
    simp only [Mu.fits, Bool.or_eq_true, beq_iff_eq] at f1
    cases m2 with
    | peek k2 p2 =>
      simp only [Mu.fits, Bool.or_eq_true, beq_iff_eq] at f2
      obtain ⟨a1, a2, a4, a3⟩ := h1
      obtain ⟨b1, b2, b4⟩ := h2
      have hne : k1 ≠ k2 := by omega
      rw [show Mu.act (.set k1 p1 r1) l = l.set k1 r1 from rfl, get_set_other hne.symm] at b2
      exact ⟨⟨a1, b2, b4⟩, ⟨a1, a2, a4, a3⟩, rfl⟩
    | id => exact ⟨h1.1, h1, rfl⟩
    | set k2 p2 r2 =>
      simp only [Mu.fits, Bool.or_eq_true, beq_iff_eq] at f2
      obtain ⟨a1, a2, a4, a3⟩ := h1
      obtain ⟨b1, b2, b4, b3⟩ := h2
      have hne : k1 ≠ k2 := by omega
      rw [show Mu.act (.set k1 p1 r1) l = l.set k1 r1 from rfl, get_set_other hne.symm] at b2
      refine ⟨⟨a1, b2, b4, b3⟩, ⟨b3 _ a1, ?_, a4, a3⟩, ?_⟩
      · show (l.set k2 r2)[k1]? = _; rw [get_set_other hne]; exact a2
      · show (l.set k2 r2).set k1 r1 = (l.set k1 r1).set k2 r2; rw [List.set_comm _ _ hne.symm]
    | app n ext =>
      obtain ⟨a1, a2, a4, a3⟩ := h1
      obtain ⟨b1, b2⟩ := h2
      rw [show Mu.act (.set k1 p1 r1) l = l.set k1 r1 from rfl, List.length_set] at b2
      have hlt : k1 < l.length := lt_of_get a2
      refine ⟨⟨a1, b2⟩, ⟨a1.app, ?_, a4, a3⟩, ?_⟩
      · show (l ++ ext)[k1]? = _; rw [List.getElem?_append_left hlt]; exact a2
      · show (l ++ ext).set k1 r1 = (l.set k1 r1) ++ ext; rw [List.set_append_left _ _ hlt]
  | app n1 e1 =>
    simp only [Mu.fits, Bool.or_eq_true, beq_iff_eq] at f1
    cases m2 with
    | peek k2 p2 =>
      simp only [Mu.fits, Bool.or_eq_true, beq_iff_eq] at f2
      obtain ⟨a1, a2⟩ := h1
      obtain ⟨b1, b2, b4⟩ := h2
      have hlt : k2 < l.length := by obtain ⟨x, e, rfl⟩ := a1; have := b4 x; rw [List.length_append]; omega
      rw [show Mu.act (.app n1 e1) l = l ++ e1 from rfl, List.getElem?_append_left hlt] at b2
      exact ⟨⟨a1, b2, b4⟩, ⟨a1, a2⟩, rfl⟩
    | id => exact ⟨h1.1, h1, rfl⟩
    | set k2 p2 r2 =>
      simp only [Mu.fits, Bool.or_eq_true, beq_iff_eq] at f2
      obtain ⟨a1, a2⟩ := h1
      obtain ⟨b1, b2, b4, b3⟩ := h2
      by_cases hlt : k2 < l.length
      · rw [show Mu.act (.app n1 e1) l = l ++ e1 from rfl, List.getElem?_append_left hlt] at b2
        refine ⟨⟨a1, b2, b4, b3⟩, ⟨b3 _ a1, by show (l.set k2 r2).length = _; rw [List.length_set]; exact a2⟩, ?_⟩
        show (l.set k2 r2) ++ e1 = (l ++ e1).set k2 r2; rw [List.set_append_left _ _ hlt]
      · exfalso; obtain ⟨x, e, rfl⟩ := a1; have := b4 x; rw [List.length_append] at hlt; omega
    | app n2 e2 =>
      simp only [Mu.fits, Bool.or_eq_true, beq_iff_eq] at f2
      omega
inductive DerT (P : Program) (K : Oper → Nat) (ops : Array Oper) (R : (Nat → Row) → List Row) : List Nat → St → St → Prop
  | nil (st : St) : DerT P K ops R [] st st
  | mv (i : Nat) (rest : List Nat) (st st' : St) (o : Oper) (res : AVal) (m : Mu) (ho : ops[i]? = some o) (hk : m.fits (K o) = true) (hw : wantA ops o st.regs = some true)
      (hs : ∀ rows, m.D R rows → OpS P o (ev st.regs) rows res (m.act rows)) (hd : m.D R st.rows) (h : DerT P K ops R rest (st.put o.dst res (m.act st.rows)) st') : DerT P K ops R (i :: rest) st st'
  | eff (i : Nat) (rest : List Nat) (st st' : St) (o : Oper) (res : AVal) (rows' : List Row) (ho : ops[i]? = some o) (he : K o = 3) (hw : wantA ops o st.regs = some true)
      (hs : OpS P o (ev st.regs) st.rows res rows') (hg : GT R rows') (h : DerT P K ops R rest (st.put o.dst res rows') st') : DerT P K ops R (i :: rest) st st'
  | skip (i : Nat) (rest : List Nat) (st st' : St) (o : Oper) (ho : ops[i]? = some o) (hw : wantA ops o st.regs = some false)
      (h : DerT P K ops R rest (st.put o.dst (.tup []) st.rows) st') : DerT P K ops R (i :: rest) st st'

def apartU (K : Oper → Nat) (ops : Array Oper) (x y : Oper) : Bool :=
  (match x.dst with | some d => !(namesOf ops y).contains d && y.dst != some d | none => true) &&
  (match y.dst with | some d => !(namesOf ops x).contains d | none => true) && !clashU (K x) (K y)
theorem apartU_spec {K : Oper → Nat} {ops : Array Oper} {x y : Oper} (h : apartU K ops x y = true) :
    (∀ d, x.dst = some d → d ∉ namesOf ops y) ∧ (∀ d, x.dst = some d → y.dst ≠ some d) ∧ (∀ d, y.dst = some d → d ∉ namesOf ops x) ∧ clashU (K x) (K y) = false := by
  simp only [apartU, Bool.and_eq_true] at h
  obtain ⟨⟨h1, h2⟩, h3⟩ := h
  refine ⟨fun d hd => ?_, fun d hd => ?_, fun d hd => ?_, by simpa using h3⟩
  · simp [hd] at h1; exact h1.1
  · simp [hd] at h1; exact h1.2
  · simp [hd] at h2; exact h2
theorem clashU_spec {a b : Nat} (h : clashU a b = false) : (b = 3 → a < 1) ∧ (a = 3 → b < 1) := by
  simp only [clashU, Bool.or_eq_false_iff, Bool.and_eq_false_iff, beq_eq_false_iff_ne, decide_eq_false_iff_not, ne_eq] at h
  omega
theorem Mu.fits_low {m : Mu} {a : Nat} (h : m.fits a = true) (ha : a < 1) : m = .id := by
  cases m <;> simp [Mu.fits] at h
  · rfl
  · omega
  · omega
  · omega
theorem DerT.swap {K : Oper → Nat} {P : Program} {ops : Array Oper} {R : (Nat → Row) → List Row} {i j : Nat} {rest : List Nat} {st st' : St} {x y : Oper} (hx : ops[i]? = some x) (hy : ops[j]? = some y) (hap : apartU K ops x y = true)
    (hG : GT R st.rows) (h : DerT P K ops R (i :: j :: rest) st st') : DerT P K ops R (j :: i :: rest) st st' := by
  obtain ⟨a1, a2, a3, a4⟩ := apartU_spec hap
  obtain ⟨c2, c3⟩ := clashU_spec a4
  cases h with
  | mv _ _ _ _ o res m ho hk hw hs hd h =>
    rw [hx] at ho; cases ho
    cases h with
    | mv _ _ _ _ o2 res2 m2 ho2 hk2 hw2 hs2 hd2 h =>
      rw [hy] at ho2; cases ho2
      rw [wantA_put a1] at hw2
      rw [rows_put] at hd2 h
      obtain ⟨e1, e2, e3⟩ := Mu.comm hk hk2 a4 hd hd2
      refine .mv j _ _ _ y res2 m2 hy hk2 hw2 (fun rows hg => (hs2 rows hg).congr fun z hz => (ev_put a1 z hz).symm) e1 ?_
      refine .mv i _ _ _ x res m hx hk (by rw [wantA_put a3]; exact hw) (fun rows hg => (hs rows hg).congr fun z hz => ev_put a3 z hz) (by rw [rows_put]; exact e2) ?_
      rw [rows_put, e3, ← put_put a2 (m2.act st.rows)]; exact h
    | eff _ _ _ _ o2 res2 rows2 ho2 he2 hw2 hs2 hg2 h =>
      rw [hy] at ho2; cases ho2
      rw [wantA_put a1] at hw2
      obtain rfl := Mu.fits_low hk (c2 he2)
      rw [rows_put] at hs2
      refine .eff j _ _ _ y res2 rows2 hy he2 hw2 (hs2.congr fun z hz => (ev_put a1 z hz).symm) hg2 ?_
      refine .mv i _ _ _ x res .id hx hk (by rw [wantA_put a3]; exact hw) (fun rows hg => (hs rows hg).congr fun z hz => ev_put a3 z hz) (by rw [rows_put]; exact hg2) ?_
      rw [rows_put]
      show DerT P K ops R rest ((st.put y.dst res2 rows2).put x.dst res rows2) st'
      rw [← put_put a2 rows2]; exact h
    | skip _ _ _ _ o2 ho2 hw2 h =>
      rw [hy] at ho2; cases ho2
      rw [wantA_put a1] at hw2
      refine .skip j _ _ _ y hy hw2 ?_
      refine .mv i _ _ _ x res m hx hk (by rw [wantA_put a3]; exact hw) (fun rows hg => (hs rows hg).congr fun z hz => ev_put a3 z hz) (by rw [rows_put]; exact hd) ?_
      rw [rows_put] at h ⊢
      rw [← put_put a2 st.rows]; exact h
  | eff _ _ _ _ o res rows' ho he hw hs hg h =>
    rw [hx] at ho; cases ho
    cases h with
    | mv _ _ _ _ o2 res2 m2 ho2 hk2 hw2 hs2 hd2 h =>
      rw [hy] at ho2; cases ho2
      rw [wantA_put a1] at hw2
      obtain rfl := Mu.fits_low hk2 (c3 he)
      refine .mv j _ _ _ y res2 .id hy hk2 hw2 (fun rows hg => (hs2 rows hg).congr fun z hz => (ev_put a1 z hz).symm) hG ?_
      refine .eff i _ _ _ x res rows' hx he (by rw [wantA_put a3]; exact hw) (by rw [rows_put]; exact hs.congr fun z hz => ev_put a3 z hz) hg ?_
      rw [rows_put] at h
      show DerT P K ops R rest ((st.put y.dst res2 st.rows).put x.dst res rows') st'
      rw [← put_put a2 st.rows]; exact h
    | eff _ _ _ _ o2 res2 rows2 ho2 he2 hw2 hs2 hg2 h =>
      rw [hy] at ho2; cases ho2
      omega
    | skip _ _ _ _ o2 ho2 hw2 h =>
      rw [hy] at ho2; cases ho2
      rw [wantA_put a1] at hw2
      refine .skip j _ _ _ y hy hw2 ?_
      refine .eff i _ _ _ x res rows' hx he (by rw [wantA_put a3]; exact hw) (by rw [rows_put]; exact hs.congr fun z hz => ev_put a3 z hz) hg ?_
      rw [rows_put] at h
      rw [← put_put a2 st.rows]; exact h
  | skip _ _ _ _ o ho hw h =>
    rw [hx] at ho; cases ho
    cases h with
    | mv _ _ _ _ o2 res2 m2 ho2 hk2 hw2 hs2 hd2 h =>
      rw [hy] at ho2; cases ho2
      rw [wantA_put a1] at hw2
      rw [rows_put] at hd2 h
      refine .mv j _ _ _ y res2 m2 hy hk2 hw2 (fun rows hg => (hs2 rows hg).congr fun z hz => (ev_put a1 z hz).symm) hd2 ?_
      refine .skip i _ _ _ x hx (by rw [wantA_put a3]; exact hw) ?_
      rw [rows_put]
      rw [← put_put a2 (m2.act st.rows)]; exact h
    | eff _ _ _ _ o2 res2 rows2 ho2 he2 hw2 hs2 hg2 h =>
      rw [hy] at ho2; cases ho2
      rw [wantA_put a1] at hw2
      rw [rows_put] at hs2
      refine .eff j _ _ _ y res2 rows2 hy he2 hw2 (hs2.congr fun z hz => (ev_put a1 z hz).symm) hg2 ?_
      refine .skip i _ _ _ x hx (by rw [wantA_put a3]; exact hw) ?_
      rw [rows_put]
      rw [← put_put a2 rows2]; exact h
    | skip _ _ _ _ o2 ho2 hw2 h =>
      rw [hy] at ho2; cases ho2
      rw [wantA_put a1] at hw2
      refine .skip j _ _ _ y hy hw2 ?_
      refine .skip i _ _ _ x hx (by rw [wantA_put a3]; exact hw) ?_
      rw [rows_put] at h ⊢
      rw [← put_put a2 st.rows]; exact h

theorem DerT.front {K : Oper → Nat} {P : Program} {ops : Array Oper} {R : (Nat → Row) → List Row} {i : Nat} {y : Oper} (hy : ops[i]? = some y) : ∀ (pre : List Nat) {post : List Nat} {st st' : St}, GT R st.rows →
    (∀ j ∈ pre, ∃ x, ops[j]? = some x ∧ apartU K ops x y = true) → DerT P K ops R (pre ++ i :: post) st st' → DerT P K ops R (i :: (pre ++ post)) st st'
  | [], _, _, _, _, _, h => h
  | j :: pre, post, st, st', hG, hap, h => by
    obtain ⟨x, hx, hxy⟩ := hap j (by simp)
    have hap' : ∀ k ∈ pre, ∃ x, ops[k]? = some x ∧ apartU K ops x y = true := fun k hk => hap k (by simp [hk])
    refine DerT.swap hx hy hxy hG ?_
    cases h with
    | mv _ _ _ _ o res m ho hk hw hs hd h => exact .mv j _ _ _ o res m ho hk hw hs hd (DerT.front hy pre (by rw [rows_put]; exact Mu.Gact hd) hap' h)
    | eff _ _ _ _ o res rows' ho he hw hs hg h => exact .eff j _ _ _ o res rows' ho he hw hs hg (DerT.front hy pre (by rw [rows_put]; exact hg) hap' h)
    | skip _ _ _ _ o ho hw h => exact .skip j _ _ _ o ho hw (DerT.front hy pre (by rw [rows_put]; exact hG) hap' h)

def drawOkU (K : Oper → Nat) (ops : List Oper) : Bool :=
  let b := masks ops []
  (List.range ops.length).all fun j => match ops[j]? with
    | none => false
    | some y => y.after.toList.all (fun e => !Region.binds .any e || decide (e.on < j)) && (List.range j).all fun i => match ops[i]? with
      | none => false
      | some x => (b.getD j 0).testBit i || apartU K ops.toArray x y
theorem drawOkU_spec {K : Oper → Nat} {ops : List Oper} (h : drawOkU K ops = true) : ∀ j y, ops[j]? = some y → (∀ e ∈ y.after.toList, Region.binds .any e = true → e.on < j) ∧
    ∀ i x, i < j → ops[i]? = some x → ((masks ops []).getD j 0).testBit i = true ∨ apartU K ops.toArray x y = true := by
  intro j y hy
  simp only [drawOkU, List.all_eq_true, List.mem_range] at h
  have hj := h j (lt_of_get hy)
  rw [hy] at hj
  simp only [Bool.and_eq_true, List.all_eq_true, List.mem_range] at hj
  refine ⟨fun e he hb => ?_, fun i x hi hx => ?_⟩
  · have := hj.1 e he
    simp only [hb, Bool.not_true, Bool.false_or, decide_eq_true_eq] at this
    exact this
  · have := hj.2 i hi
    rw [hx] at this
    simpa using this
theorem DerT.any {K : Oper → Nat} {P : Program} {ops : List Oper} {R : (Nat → Row) → List Row} (hok : drawOkU K ops = true) {st' : St} : ∀ (fuel : Nat) (listed : Array Bool) (st : St), (left ops.length listed).length = fuel → listed.size = ops.length →
    Closed ops listed → GT R st.rows → DerT P K ops.toArray R (left ops.length listed) st st' → ∀ {ds : List Deferred} {X : Nat → Nat → Prop} {m : Nat → Option Nat} {w : World} {a : Act} {Q : Exit → Act → World → Prop} {rd : Option Nat}, RelSt ds X st m w a →
    (∀ m' w' a', RelSt ds X st' m' w' a' → st.rows.length ≤ st'.rows.length → Evo st.rows.length ⟨st.rows, m, w, X⟩ ⟨st'.rows, m', w', X⟩ → Q .normal a' w') → wpAnyIn (Fw rd) 0 P .any ops.toArray Q fuel listed a w
  | 0, listed, st, hf, hsz, hcl, hG, h, ds, X, m, w, a, Q, rd, hr, hq => by
    have hnil : left ops.length listed = [] := List.eq_nil_of_length_eq_zero hf
    rw [hnil] at h
    refine ⟨?_, ?_⟩
    · unfold Region.ready
      rw [List.filter_eq_nil_iff]
      intro i hi
      have : ∀ i ∈ List.range ops.length, ¬ (!listed.getD i true) = true := List.filter_eq_nil_iff.1 hnil
      have := this i (by simpa using hi)
      simp only [Bool.not_eq_true, Bool.not_eq_false'] at this
      simp [this]
    · cases h
      exact hq m w a hr (Nat.le_refl _) (Evo.refl _ _)
  | fuel + 1, listed, st, hf, hsz, hcl, hG, h, ds, X, m, w, a, Q, rd, hr, hq => by
    have hpair : (left ops.length listed).Pairwise (· < ·) := List.Pairwise.filter _ (List.pairwise_lt_range)
    refine ⟨fun hnil => ?_, fun i hi => ?_⟩
    · exfalso
      match hL : left ops.length listed, hf with
      | i :: tl, _ =>
        have hmem : i ∈ left ops.length listed := by rw [hL]; simp
        simp only [left, List.mem_filter, List.mem_range] at hmem
        have hio : ops[i]? = some ops[i] := by simp [hmem.1]
        have hmin : ∀ k, k < i → listed.getD k false = true := by
          intro k hk
          have hks : k < listed.size := by omega
          by_cases hkl : listed.getD k true = true
          · simpa [Array.getD, hks] using hkl
          · exfalso
            have : k ∈ left ops.length listed := by
              simp only [left, List.mem_filter, List.mem_range]; exact ⟨by omega, by simpa using hkl⟩
            rw [hL] at this hpair
            rcases List.mem_cons.1 this with h1 | h1
            · omega
            · have := (List.pairwise_cons.1 hpair).1 k h1; omega
        have : i ∈ Region.ready .any ops.toArray listed := by
          unfold Region.ready
          simp only [List.mem_filter, List.mem_range, List.size_toArray]
          refine ⟨hmem.1, ?_⟩
          simp only [List.getElem?_toArray, hio, Option.map_some, Option.getD_some, Bool.and_eq_true]
          refine ⟨hmem.2, ?_⟩
          rw [Array.all_eq_true']
          intro e he
          cases hb : Region.binds .any e with
          | false => simp
          | true =>
            have := (drawOkU_spec hok i _ hio).1 e (by simpa using he) hb
            simp only [Bool.not_true, Bool.false_or]
            exact hmin _ this
        rw [hnil] at this
        simp at this
    · unfold Region.ready at hi
      simp only [List.mem_filter, List.mem_range, List.size_toArray] at hi
      obtain ⟨hilt, hi⟩ := hi
      have hio : ops[i]? = some ops[i] := by simp [hilt]
      simp only [List.getElem?_toArray, hio, Option.map_some, Option.getD_some, Bool.and_eq_true] at hi
      obtain ⟨hil, hie⟩ := hi
      rw [Array.all_eq_true'] at hie
      have hmem : i ∈ left ops.length listed := by
        simp only [left, List.mem_filter, List.mem_range]; exact ⟨hilt, hil⟩
      obtain ⟨pre, post, hL⟩ := List.append_of_mem hmem
      have hdir : ∀ e ∈ ops[i].after.toList, Region.binds .any e = true → listed.getD e.on false = true := by
        intro e he hb
        have := hie e (by simpa using he)
        simpa [hb] using this
      have hpre : ∀ j ∈ pre, ∃ x, ops.toArray[j]? = some x ∧ apartU K ops.toArray x ops[i] = true := by
        intro j hj
        have hjm : j ∈ left ops.length listed := by rw [hL]; simp [hj]
        simp only [left, List.mem_filter, List.mem_range] at hjm
        have hji : j < i := by
          rw [hL] at hpair
          exact (List.pairwise_append.1 hpair).2.2 j hj i (by simp)
        have hjo : ops[j]? = some ops[j] := by simp [hjm.1]
        refine ⟨ops[j], by simp [hjo], ?_⟩
        rcases (drawOkU_spec hok i _ hio).2 j _ hji hjo with h1 | h1
        · have := hcl.mask hsz i i (Nat.le_refl _) _ hio hdir j h1
          have hjs : j < listed.size := by omega
          have h2 := hjm.2
          simp [Array.getD, hjs] at this h2
          simp [this] at h2
        · exact h1
      have hfront := DerT.front (i := i) (y := ops[i]) (by simp [hio]) pre hG hpre (hL ▸ h)
      have hils : i < listed.size := by omega
      have hnext : left ops.length (listed.setIfInBounds i true) = pre ++ post := by
        have e1 : left ops.length (listed.setIfInBounds i true) = (left ops.length listed).filter (fun j => j != i) := by
          simp only [left, List.filter_filter]
          apply List.filter_congr
          intro j hj
          have hjs : j < listed.size := by simp at hj; omega
          by_cases hji : j = i
          · subst hji; simp [Array.getD, hjs]
          · have : i ≠ j := fun e => hji e.symm
            simp [Array.getD, hjs, Array.getElem_setIfInBounds, this, hji]
        rw [e1, hL]
        rw [hL] at hpair
        have hp := List.pairwise_append.1 hpair
        have hp2 := List.pairwise_cons.1 hp.2.1
        simp only [List.filter_append, List.filter_cons, bne_self_eq_false]
        have f1 : pre.filter (fun j => j != i) = pre := List.filter_eq_self.2 fun j hj => by have := hp.2.2 j hj i (by simp); simp; omega
        have f2 : post.filter (fun j => j != i) = post := List.filter_eq_self.2 fun j hj => by have := hp2.1 j hj; simp; omega
        rw [f1, f2]; simp
      have hlen : (pre ++ post).length = fuel := by
        rw [hL] at hf; simp at hf ⊢; omega
      have hcl' : Closed ops (listed.setIfInBounds i true) := by
        intro j o ho hj e he hb
        have hgrow : ∀ k, listed.getD k false = true → (listed.setIfInBounds i true).getD k false = true := by
          intro k hk
          rcases Nat.lt_or_ge k listed.size with hks | hks
          · by_cases hki : k = i
            · subst hki; simp [Array.getD, hks]
            · have : i ≠ k := fun e => hki e.symm
              simp [Array.getD, hks] at hk
              simp [Array.getD, hks, Array.getElem_setIfInBounds, this, hk]
          · simp [Array.getD, Nat.not_lt.2 hks] at hk
        apply hgrow
        by_cases hji : j = i
        · subst hji; rw [hio] at ho; cases ho; exact hdir e he hb
        · refine hcl j o ho ?_ e he hb
          have hjs : j < listed.size := by rw [hsz]; exact lt_of_get ho
          have : i ≠ j := fun e => hji e.symm
          simpa [Array.getD, hjs, Array.getElem_setIfInBounds, this] using hj
      unfold wpOpIn
      rw [show ops.toArray[i]? = some ops[i] by simp [hio]]
      simp only []
      cases hfront with
      | mv _ _ _ _ o res mm ho hk hw hs hd h =>
        rw [show ops.toArray[i]? = some ops[i] by simp [hio]] at ho; cases ho
        rw [if_pos (wantA_spec hr hw)]
        refine hs _ hd X m w a hr.rel (fun x _ => hr.eval x) _ _ (fun v m' w' h1 h2 h3 h4 => ?_) rd
        have hput := hr.put h1 h4 ops[i].dst h2
        refine DerT.any hok fuel _ _ (by rw [hnext]; exact hlen) (by simpa using hsz) hcl' (by rw [rows_put]; exact Mu.Gact hd) (by rw [hnext]; exact h) hput fun m2 w2 a2 k1 k2 k3 => ?_
        rw [rows_put] at k2 k3
        exact hq _ _ _ k1 (Nat.le_trans h3 k2) (h4.trans (k3.mono h3))
      | eff _ _ _ _ o res rows' ho he hw hs hg h =>
        rw [show ops.toArray[i]? = some ops[i] by simp [hio]] at ho; cases ho
        rw [if_pos (wantA_spec hr hw)]
        refine hs X m w a hr.rel (fun x _ => hr.eval x) _ _ (fun v m' w' h1 h2 h3 h4 => ?_) rd
        have hput := hr.put h1 h4 ops[i].dst h2
        refine DerT.any hok fuel _ _ (by rw [hnext]; exact hlen) (by simpa using hsz) hcl' (by rw [rows_put]; exact hg) (by rw [hnext]; exact h) hput fun m2 w2 a2 k1 k2 k3 => ?_
        rw [rows_put] at k2 k3
        exact hq _ _ _ k1 (Nat.le_trans h3 k2) (h4.trans (k3.mono h3))
      | skip _ _ _ _ o ho hw h =>
        rw [show ops.toArray[i]? = some ops[i] by simp [hio]] at ho; cases ho
        rw [if_neg (by rw [wantA_spec hr hw]; simp)]
        refine ⟨fun _ _ => trivial, ?_⟩
        have hput := hr.put hr.rel (Evo.refl _ _) ops[i].dst (V.undefTup _)
        refine DerT.any hok fuel _ _ (by rw [hnext]; exact hlen) (by simpa using hsz) hcl' (by rw [rows_put]; exact hG) (by rw [hnext]; exact h) hput fun m2 w2 a2 k1 k2 k3 => ?_
        rw [rows_put] at k2 k3
        exact hq _ _ _ k1 k2 k3

theorem AWP.drawT0 {K : Oper → Nat} {P : Program} {N : Nat} {Q : Exit → St → Prop} {st st' : St} {id : Nat} {ops : List Oper} (hm : P.follows .mixedOrders = true) (R : (Nat → Row) → List Row) (hG : GT R st.rows) (hok : drawOkU K ops = true)
    (h : DerT P K ops.toArray R (List.range ops.length) st st') (hq : Q .normal st') : AWP P N (.region id ops.toArray true) Q st := by
  intro hN rd ds X m w a hr
  obtain ⟨hrel, hev⟩ := same_heap (E := ⟨st.rows, m, w, X⟩) hr.rel (w' := { w with drawn := w.drawn + 1 }) rfl rfl rfl rfl st.rows.length
  have hr' : RelSt ds X st m { w with drawn := w.drawn + 1 } a := ⟨hrel, hr.len, fun i hi => hev.val _ _ (hr.regs i hi) (hr.regs i hi).refLt, hr.defers⟩
  have hleft : left ops.length (Array.replicate ops.length false) = List.range ops.length := by
    unfold left
    rw [List.filter_eq_self]
    intro i hi
    simp at hi
    simp [Array.getD, hi]
  refine wpIn_region_any hm ?_
  have := DerT.any (P := P) (rd := rd) hok (st' := st') ops.length (Array.replicate ops.length false) st (by rw [hleft]; simp) (by simp) ?_ hG (by rw [hleft]; exact h) hr'
    (Q := fun e a' w' => ∃ st' m', Q e st' ∧ N ≤ st'.rows.length ∧ RelSt ds X st' m' w' a' ∧ Evo N ⟨st.rows, m, w, X⟩ ⟨st'.rows, m', w', X⟩)
    (fun m' w' a' h1 h2 h3 => ⟨st', m', hq, Nat.le_trans hN h2, h1, (hev.mono hN).trans (h3.mono hN)⟩)
  · simpa using this
  · intro j o ho hj
    have : j < ops.length := lt_of_get ho
    simp [Array.getD, this] at hj
end Go.Abs

set_option linter.unusedVariables false
set_option linter.unusedSimpArgs false
namespace Go.Abs
open Go
inductive DerTL (P : Program) (K : Oper → Nat) (ops : Array Oper) (R : (Nat → Row) → List Row) : List Oper → St → St → Prop
  | nil (st : St) : DerTL P K ops R [] st st
  | mv (o : Oper) (rest : List Oper) (st st' : St) (res : AVal) (m : Mu) (hk : m.fits (K o) = true) (hw : wantA ops o st.regs = some true)
      (hs : ∀ rows, m.D R rows → OpS P o (ev st.regs) rows res (m.act rows)) (hd : m.D R st.rows) (h : DerTL P K ops R rest (st.put o.dst res (m.act st.rows)) st') : DerTL P K ops R (o :: rest) st st'
  | eff (o : Oper) (rest : List Oper) (st st' : St) (res : AVal) (rows' : List Row) (he : K o = 3) (hw : wantA ops o st.regs = some true)
      (hs : OpS P o (ev st.regs) st.rows res rows') (hg : GT R rows') (h : DerTL P K ops R rest (st.put o.dst res rows') st') : DerTL P K ops R (o :: rest) st st'
  | skip (o : Oper) (rest : List Oper) (st st' : St) (hw : wantA ops o st.regs = some false)
      (h : DerTL P K ops R rest (st.put o.dst (.tup []) st.rows) st') : DerTL P K ops R (o :: rest) st st'
theorem DerTL.der {K : Oper → Nat} {P : Program} {ops : Array Oper} {R : (Nat → Row) → List Row} : ∀ {l : List Oper} {st st' : St} (k : Nat), (∀ j, l[j]? = ops[k + j]?) → DerTL P K ops R l st st' → DerT P K ops R (List.range' k l.length) st st'
  | [], st, st', k, _, h => by cases h; exact .nil _
  | o :: l, st, st', k, hk, h => by
    have h0 : ops[k]? = some o := by simpa using (hk 0).symm
    have hk' : ∀ j, l[j]? = ops[k + 1 + j]? := fun j => by have := hk (j + 1); simpa [Nat.add_assoc, Nat.add_comm 1 j] using this
    rw [List.length_cons, List.range'_succ]
    cases h with
    | mv _ _ _ _ res m hk1 hw hs hd h => exact .mv k _ _ _ o res m h0 hk1 hw hs hd (DerTL.der (k + 1) hk' h)
    | eff _ _ _ _ res rows' he hw hs hg h => exact .eff k _ _ _ o res rows' h0 he hw hs hg (DerTL.der (k + 1) hk' h)
    | skip _ _ _ _ hw h => exact .skip k _ _ _ o h0 hw (DerTL.der (k + 1) hk' h)
def rowAt (rows : List Row) (i : Nat) : Row := rows.getD i ub
/-- A region in which rows come into being in any order, and some of the old ones are stored into. -/
def DerU (P : Program) (K0 : Oper → Nat) (ops : Array Oper) (R : (Nat → Row) → List Row) (l : List Oper) (st : St) (K : St → Prop) : Prop :=
  GT R st.rows → ∃ st', DerTL P K0 ops R l st st' ∧ K st'
theorem AWP.drawT {P : Program} {N : Nat} {Q : Exit → St → Prop} {st : St} {id : Nat} {l : List Oper} (hm : P.follows .mixedOrders = true) (K0 : Oper → Nat) (k : Nat) (R : (Nat → Row) → List Row) (st1 : St) (h1 : (⟨st.regs, st.rows ++ List.replicate k ub⟩ : St) = st1) (hR : R (rowAt st1.rows) = st1.rows) (hok : drawOkU K0 l = true)
    (h : DerU P K0 l.toArray R l st1 (Q .normal)) : AWP P N (.region id l.toArray true) Q st := by
  subst h1
  refine AWP.weaken (reserve_weak N k st) ?_
  have hg : GT R (st.rows ++ List.replicate k ub) := ⟨_, [], by rw [List.append_nil]; exact hR.symm⟩
  obtain ⟨st', h1, h2⟩ := h hg
  refine AWP.drawT0 hm R hg hok ?_ h2
  have := h1.der 0 (fun j => by simp)
  rw [List.range_eq_range']
  simpa using this
/-- what stands at one place is another one -/
def updR (x : Nat → Row) (k : Nat) (r : Row) (i : Nat) : Row := if i = k then r else x i
theorem DerU.nil {K0 : Oper → Nat} {P : Program} {ops : Array Oper} {R : (Nat → Row) → List Row} {st : St} {K : St → Prop} (h : K st) : DerU P K0 ops R [] st K := fun _ => ⟨st, .nil _, h⟩
theorem of_u3 {k : Nat} (h : (k == 3) = true) : k = 3 := by simpa using h
theorem DerU.skip {K0 : Oper → Nat} {P : Program} {ops : Array Oper} {R : (Nat → Row) → List Row} {o : Oper} {l : List Oper} {st : St} {K : St → Prop} (st1 : St)
    (hw : wantA ops o st.regs = some false ∧ st.put o.dst (.tup []) st.rows = st1) (hk : DerU P K0 ops R l st1 K) : DerU P K0 ops R (o :: l) st K := by
  obtain ⟨h1, rfl⟩ := hw
  intro hG
  obtain ⟨st', k1, k2⟩ := hk (by rw [rows_put]; exact hG)
  exact ⟨st', .skip o l _ _ h1 k1, k2⟩
theorem DerU.callD {K0 : Oper → Nat} {P : Program} {ops : Array Oper} {R : (Nat → Row) → List Row} {o : Oper} {l : List Oper} {st : St} {K : St → Prop} {f : FuncId} {args : List AVal} {r : AVal} (he : EvD P f args r) (st1 : St)
    (h : wantA ops o st.regs = some true ∧ callA P o (ev st.regs) = some (f, args) ∧ st.put o.dst r st.rows = st1) (hk : DerU P K0 ops R l st1 K) : DerU P K0 ops R (o :: l) st K := by
  obtain ⟨h1, h2, rfl⟩ := h
  intro hG
  obtain ⟨st', k1, k2⟩ := hk (by rw [rows_put]; exact hG)
  exact ⟨st', .mv o l _ _ r .id rfl h1 (fun rows _ => callA_spec h2 (he rows)) hG k1, k2⟩
theorem DerU.callK {K0 : Oper → Nat} {P : Program} {ops : Array Oper} {R : (Nat → Row) → List Row} {o : Oper} {l : List Oper} {st : St} {K : St → Prop} {f : FuncId} {args : List AVal} {r0 r1 : Row} {r : AVal} (he : EvK P f args r0 r r1) (nR id : Nat) (args' : List AVal) (st1 : St)
    (h : ((K0 o == 3) = true ∧ R (rowAt (st.rows.set id r1)) ++ List.drop nR (st.rows.set id r1) = st.rows.set id r1) ∧ wantA ops o st.regs = some true ∧ Abs.callA P o (ev st.regs) = some (f, args') ∧ st.rows[id]? = some r0 ∧ anyAll args' = renAll (fun _ => id) args ∧ st.put o.dst r (st.rows.set id r1) = st1) (hk : DerU P K0 ops R l st1 K) : DerU P K0 ops R (o :: l) st K := by
  obtain ⟨h0, h1, h2, h3, h4, rfl⟩ := h
  intro hG
  have hg : GT R (st.rows.set id r1) := ⟨_, _, h0.2.symm⟩
  obtain ⟨st', k1, k2⟩ := hk (by rw [rows_put]; exact hg)
  exact ⟨st', .eff o l _ _ r _ (of_u3 h0.1) h1 (callA_spec h2 (he.at h3 h4)) hg k1, k2⟩
theorem DerU.touch {K0 : Oper → Nat} {P : Program} {ops : Array Oper} {R : (Nat → Row) → List Row} {o : Oper} {l : List Oper} {st : St} {K : St → Prop} (k : Nat) (r0 r1 : Row) (c : Prop) (v : AVal) (st1 : St)
    (h : ∀ x ext, sop P o (ev st.regs) (R (updR x k r0) ++ ext) = some ⟨c, v, R (updR x k r1) ++ ext⟩)
    (hw : wantA ops o st.regs = some true ∧ (K0 o == 4 + k) = true ∧ st.rows[k]? = some r0 ∧ (∀ x, (R x).set k r0 = R (updR x k r0)) ∧ (∀ x, (R x).set k r1 = R (updR x k r1)) ∧ (∀ x, Nat.blt k (R x).length = true) ∧ st.put o.dst v (st.rows.set k r1) = st1) (hc : c) (hk : DerU P K0 ops R l st1 K) : DerU P K0 ops R (o :: l) st K := by
  obtain ⟨h1, h2, h3, h4, h4', h5, rfl⟩ := hw
  intro hG
  have h5' : ∀ x, k < (R x).length := fun x => Nat.le_of_ble_eq_true (h5 x)
  have hs : ∀ l', GT R l' → GT R (l'.set k r1) := by
    rintro l' ⟨x, e, rfl⟩
    exact ⟨_, e, by rw [List.set_append_left _ _ (h5' x), h4' x]⟩
  obtain ⟨st', k1, k2⟩ := hk (by rw [rows_put]; exact hs _ hG)
  refine ⟨st', .mv o l _ _ _ (.set k r0 r1) (by simp only [Mu.fits, Bool.or_eq_true]; exact .inr h2) h1 (fun rows hd => ?_) ⟨hG, h3, h5', hs⟩ k1, k2⟩
  obtain ⟨⟨x, e, rfl⟩, g2, _, _⟩ := hd
  rw [List.getElem?_append_left (h5' x)] at g2
  have e0 : R (updR x k r0) = R x := by
    rw [← h4 x]
    exact List.ext_getElem? fun i => by
      rw [List.getElem?_set]
      split
      · rename_i hik; subst hik
        split
        · exact g2.symm
        · rename_i hlt; exact absurd (h5' x) hlt
      · rfl
  have e1 : (R x ++ e).set k r1 = R (updR x k r1) ++ e := by rw [List.set_append_left _ _ (h5' x), h4' x]
  show OpS P o (ev st.regs) (R x ++ e) v ((R x ++ e).set k r1)
  rw [e1, ← e0]
  have := sop_spec (h x e) hc
  exact this
theorem DerU.preAux {K0 : Oper → Nat} {P : Program} {ops : Array Oper} {R : (Nat → Row) → List Row} {K : St → Prop} {l2 : List Oper} : ∀ (l1 : List Oper) (st : St) (vals regs' : List AVal),
    (∀ x ext, ∃ c : Prop, c ∧ runQ P ops (R x ++ ext) l1 st.regs = some (c, regs', vals.map fun v => (v, R x ++ ext))) → DerU P K0 ops R l2 ⟨regs', st.rows⟩ K → DerU P K0 ops R (l1 ++ l2) st K
  | [], st, vals, regs', h, hk => by
    obtain ⟨c, _, h1⟩ := h (fun _ => ub) []
    simp only [runQ, Option.some.injEq, Prod.mk.injEq] at h1
    obtain ⟨_, h2, _⟩ := h1
    subst h2
    exact hk
  | o :: l, st, vals, regs', h, hk => by
    cases hw : wantA ops o st.regs with
    | none =>
      obtain ⟨c, _, h1⟩ := h (fun _ => ub) []
      simp [runQ, hw] at h1
    | some b =>
      cases b with
      | false =>
        refine DerU.skip _ ⟨hw, rfl⟩ ?_
        refine DerU.preAux l _ vals regs' (fun x ext => ?_) ?_
        · obtain ⟨c, hc, h1⟩ := h x ext
          simp only [runQ, hw] at h1
          rw [put_regs] at h1
          exact ⟨c, hc, h1⟩
        · rw [put_rows]; exact hk
      | true =>
        have step : ∀ x ext, ∃ q c, sop P o (ev st.regs) (R x ++ ext) = some q ∧ q.ok ∧ c ∧ ∃ L, (q.v, q.rows) :: L = vals.map (fun v => (v, R x ++ ext)) ∧ runQ P ops (R x ++ ext) l (st.put o.dst q.v st.rows).regs = some (c, regs', L) := by
          intro x ext
          obtain ⟨c, hc, h1⟩ := h x ext
          simp only [runQ, hw] at h1
          split at h1
          · rename_i q hq
            split at h1
            · rename_i c2 r L h2
              simp only [Option.some.injEq, Prod.mk.injEq] at h1
              obtain ⟨rfl, rfl, h3⟩ := h1
              rw [put_regs] at h2
              exact ⟨q, c2, hq, hc.1, hc.2, L, h3, h2⟩
            · simp at h1
          · simp at h1
        cases vals with
        | nil =>
          obtain ⟨q, c, _, _, _, L, h3, _⟩ := step (fun _ => ub) []
          simp at h3
        | cons v vals =>
          have hk2 : DerU P K0 ops R (l ++ l2) (st.put o.dst v st.rows) K := by
            refine DerU.preAux l _ vals regs' (fun x ext => ?_) (by rw [put_rows]; exact hk)
            obtain ⟨q, c, _, _, hc, L, h3, h4⟩ := step x ext
            simp only [List.map_cons, List.cons.injEq, Prod.mk.injEq] at h3
            obtain ⟨⟨rfl, _⟩, rfl⟩ := h3
            exact ⟨c, hc, h4⟩
          intro hG
          obtain ⟨st', k1, k2⟩ := hk2 (by rw [rows_put]; exact hG)
          refine ⟨st', .mv o _ _ _ v .id rfl hw (fun rows ⟨x, ext, he⟩ => ?_) hG k1, k2⟩
          subst he
          obtain ⟨q, c, hq, hok, _, L, h3, _⟩ := step x ext
          simp only [List.map_cons, List.cons.injEq, Prod.mk.injEq] at h3
          obtain ⟨⟨rfl, hr⟩, _⟩ := h3
          have := sop_spec hq hok
          rwa [hr] at this
/-- The first n operations that change no rows. -/
theorem DerU.pre {K0 : Oper → Nat} {P : Program} {ops : Array Oper} {R : (Nat → Row) → List Row} {l : List Oper} {st : St} {K : St → Prop} (n : Nat) (c : Prop) (vals : List AVal) (st1 : St)
    (h : ∀ x ext, runQ P ops (R x ++ ext) (l.take n) st.regs = some (c, st1.regs, vals.map fun v => (v, R x ++ ext))) (hr : st1.rows = st.rows) (hc : c) (hk : DerU P K0 ops R (l.drop n) st1 K) : DerU P K0 ops R l st K := by
  have := DerU.preAux (K0 := K0) (K := K) (l2 := l.drop n) (l.take n) st vals st1.regs (fun x ext => ⟨c, hc, h x ext⟩) (by rw [← hr]; exact hk)
  rwa [List.take_append_drop] at this
end Go.Abs

set_option linter.unusedVariables false
namespace Go.Abs
open Go
/-- an operation's name in a table -/
def keyW (o : Oper) : Nat := match o.op with
  | .store _ (.tmp t) _ => 1000 + t
  | _ => o.dst.getD 0
def kindOf : List (Nat × Nat) → Nat → Nat
  | [], _ => 0
  | (a, b) :: l, n => if a = n then b else kindOf l n
end Go.Abs

set_option linter.unusedVariables false
set_option linter.unusedSimpArgs false
namespace Go.Abs
open Go
/-- The state behind some operations, not written out. -/
def runS (P : Program) (ops : Array Oper) (l : List Oper) (st : St) : St := match runL P ops l st with
  | some q => q.2
  | none => st
def runC (P : Program) (ops : Array Oper) (l : List Oper) (st : St) : Option Prop := match runL P ops l st with
  | some q => some q.1
  | none => none
theorem runL_of {P : Program} {ops : Array Oper} {l : List Oper} {st : St} {c : Prop} (h : runC P ops l st = some c) : runL P ops l st = some (c, runS P ops l st) := by
  unfold runC at h
  unfold runS
  cases e : runL P ops l st with
  | none => rw [e] at h; cases h
  | some q => rw [e] at h; cases h; rfl
theorem DerQ.preI {P : Program} {ops : Array Oper} {l : List Oper} {st : St} {K : St → Prop} (n : Nat) (c : Prop) (h : runC P ops (l.take n) st = some c) (hc : c) (hk : DerQ P ops (l.drop n) (runS P ops (l.take n) st) K) : DerQ P ops l st K :=
  DerQ.pre n c _ (runL_of h) hc hk
theorem DerQ.runI {P : Program} {ops : Array Oper} {l : List Oper} {st : St} {K : St → Prop} (c : Prop) (h : runC P ops l st = some c) (hc : c) (hk : K (runS P ops l st)) : DerQ P ops l st K :=
  DerQ.run c _ (runL_of h) hc hk
def callB (P : Program) (o : Oper) (ρ : Operand → AVal) : Option (FuncId × List AVal) := match callA P o ρ with
  | some q => some (q.1, anyAll q.2)
  | none => none
theorem callB_of {P : Program} {o : Oper} {ρ : Operand → AVal} {f : FuncId} {args : List AVal} (h : callB P o ρ = some (f, args)) : ∃ args', callA P o ρ = some (f, args') ∧ anyAll args' = args := by
  unfold callB at h
  cases e : callA P o ρ with
  | none => rw [e] at h; cases h
  | some q => rw [e] at h; cases h; exact ⟨q.2, rfl, rfl⟩
def sopV (P : Program) (o : Oper) (st : St) : AVal := match sop P o (ev st.regs) st.rows with
  | some q => q.v
  | none => .undef
def sopR (P : Program) (o : Oper) (st : St) : List Row := match sop P o (ev st.regs) st.rows with
  | some q => q.rows
  | none => st.rows
def sopC (P : Program) (o : Oper) (st : St) : Option Prop := match sop P o (ev st.regs) st.rows with
  | some q => some q.ok
  | none => none
theorem sop_of {P : Program} {o : Oper} {st : St} {c : Prop} (h : sopC P o st = some c) : sop P o (ev st.regs) st.rows = some ⟨c, sopV P o st, sopR P o st⟩ := by
  unfold sopC at h
  unfold sopV sopR
  cases e : sop P o (ev st.regs) st.rows with
  | none => rw [e] at h; cases h
  | some q => rw [e] at h; cases h; rfl
/-- what some quiet operations leave: registers, values -/
def quR (P : Program) (ops : Array Oper) (rows : List Row) (l : List Oper) (regs : List AVal) : List AVal := match runQ P ops rows l regs with
  | some q => q.2.1
  | none => regs
def quV (P : Program) (ops : Array Oper) (rows : List Row) (l : List Oper) (regs : List AVal) : List AVal := match runQ P ops rows l regs with
  | some q => q.2.2.map (·.1)
  | none => []
theorem DerQ.callDI {P : Program} {ops : Array Oper} {o : Oper} {l : List Oper} {st : St} {K : St → Prop} {f : FuncId} {args : List AVal} {r : AVal} (he : EvD P f args r) (h : wantA ops o st.regs = some true ∧ Abs.callA P o (ev st.regs) = some (f, args)) (hk : DerQ P ops l (st.put o.dst r st.rows) K) : DerQ P ops (o :: l) st K :=
  DerQ.callD he _ ⟨h.1, h.2, rfl⟩ hk
theorem DerQ.callEI {P : Program} {ops : Array Oper} {o : Oper} {l : List Oper} {st : St} {K : St → Prop} {f : FuncId} {args : List AVal} {r : AVal} (he : EvD P f args r) (h : wantA ops o st.regs = some true ∧ Abs.callB P o (ev st.regs) = some (f, args)) (hk : DerQ P ops l (st.put o.dst r st.rows) K) : DerQ P ops (o :: l) st K := by
  obtain ⟨args', h1, h2⟩ := callB_of h.2
  exact DerQ.callE he args' _ ⟨h.1, h1, h2, rfl⟩ hk
theorem DerX.callDI {P : Program} {ops : Array Oper} {o : Oper} {l : List Oper} {st : St} {K : St → Prop} {F : Oper → Bool} {R : List Row} {f : FuncId} {args : List AVal} {r : AVal} (he : EvD P f args r) (h : wantA ops o st.regs = some true ∧ Abs.callA P o (ev st.regs) = some (f, args)) (hk : DerX P F ops R l (st.put o.dst r st.rows) K) : DerX P F ops R (o :: l) st K :=
  DerX.callD he _ ⟨h.1, h.2, rfl⟩ hk
theorem DerX.quietI {P : Program} {ops : Array Oper} {o : Oper} {l : List Oper} {st : St} {K : St → Prop} {F : Oper → Bool} {R : List Row} (c : Prop) (h : ∀ ext, sop P o (ev st.regs) (R ++ ext) = some ⟨c, sopV P o st, R ++ ext⟩) (hw : wantA ops o st.regs = some true) (hc : c) (hk : DerX P F ops R l (st.put o.dst (sopV P o st) st.rows) K) : DerX P F ops R (o :: l) st K :=
  DerX.quiet c _ _ h ⟨hw, rfl⟩ hc hk
theorem DerX.preI {P : Program} {ops : Array Oper} {l : List Oper} {st : St} {K : St → Prop} {F : Oper → Bool} {R : List Row} (n : Nat) (c : Prop) (h : ∀ ext, runQ P ops (R ++ ext) (l.take n) st.regs = some (c, quR P ops st.rows (l.take n) st.regs, (quV P ops st.rows (l.take n) st.regs).map fun v => (v, R ++ ext))) (hc : c)
    (hk : DerX P F ops R (l.drop n) ⟨quR P ops st.rows (l.take n) st.regs, st.rows⟩ K) : DerX P F ops R l st K :=
  DerX.pre n c _ ⟨quR P ops st.rows (l.take n) st.regs, st.rows⟩ h rfl hc hk
theorem DerZ.callDI {P : Program} {ops : Array Oper} {o : Oper} {l : List Oper} {st : St} {K : St → Prop} {K0 : Oper → Nat} {n0 : Nat} {R : (Nat → List AVal) → List Row} {f : FuncId} {args : List AVal} {r : AVal} (he : EvD P f args r) (h : wantA ops o st.regs = some true ∧ Abs.callA P o (ev st.regs) = some (f, args)) (hk : DerZ P K0 ops R l (st.put o.dst r st.rows) K n0) : DerZ P K0 ops R (o :: l) st K n0 :=
  DerZ.callD he _ ⟨h.1, h.2, rfl⟩ hk
theorem DerZ.quietI {P : Program} {ops : Array Oper} {o : Oper} {l : List Oper} {st : St} {K : St → Prop} {K0 : Oper → Nat} {n0 : Nat} {R : (Nat → List AVal) → List Row} (c : Prop) (h : ∀ x ext, sop P o (ev st.regs) (R x ++ ext) = some ⟨c, sopV P o st, R x ++ ext⟩) (hw : wantA ops o st.regs = some true) (hc : c) (hk : DerZ P K0 ops R l (st.put o.dst (sopV P o st) st.rows) K n0) : DerZ P K0 ops R (o :: l) st K n0 :=
  DerZ.quiet c _ _ h ⟨hw, rfl⟩ hc hk
theorem DerZ.preI {P : Program} {ops : Array Oper} {l : List Oper} {st : St} {K : St → Prop} {K0 : Oper → Nat} {n0 : Nat} {R : (Nat → List AVal) → List Row} (n : Nat) (c : Prop) (h : ∀ x ext, runQ P ops (R x ++ ext) (l.take n) st.regs = some (c, quR P ops st.rows (l.take n) st.regs, (quV P ops st.rows (l.take n) st.regs).map fun v => (v, R x ++ ext))) (hc : c)
    (hk : DerZ P K0 ops R (l.drop n) ⟨quR P ops st.rows (l.take n) st.regs, st.rows⟩ K n0) : DerZ P K0 ops R l st K n0 :=
  DerZ.pre n c _ ⟨quR P ops st.rows (l.take n) st.regs, st.rows⟩ h rfl hc hk
theorem DerU.callDI {P : Program} {ops : Array Oper} {o : Oper} {l : List Oper} {st : St} {K : St → Prop} {K0 : Oper → Nat} {R : (Nat → Row) → List Row} {f : FuncId} {args : List AVal} {r : AVal} (he : EvD P f args r) (h : wantA ops o st.regs = some true ∧ Abs.callA P o (ev st.regs) = some (f, args)) (hk : DerU P K0 ops R l (st.put o.dst r st.rows) K) : DerU P K0 ops R (o :: l) st K :=
  DerU.callD he _ ⟨h.1, h.2, rfl⟩ hk
theorem DerU.preI {P : Program} {ops : Array Oper} {l : List Oper} {st : St} {K : St → Prop} {K0 : Oper → Nat} {R : (Nat → Row) → List Row} (n : Nat) (c : Prop) (h : ∀ x ext, runQ P ops (R x ++ ext) (l.take n) st.regs = some (c, quR P ops st.rows (l.take n) st.regs, (quV P ops st.rows (l.take n) st.regs).map fun v => (v, R x ++ ext))) (hc : c)
    (hk : DerU P K0 ops R (l.drop n) ⟨quR P ops st.rows (l.take n) st.regs, st.rows⟩ K) : DerU P K0 ops R l st K :=
  DerU.pre n c _ ⟨quR P ops st.rows (l.take n) st.regs, st.rows⟩ h rfl hc hk
theorem DerX.effI {P : Program} {ops : Array Oper} {o : Oper} {l : List Oper} {st : St} {K : St → Prop} {F : Oper → Bool} {R : List Row} (c : Prop) (h : sopC P o st = some c) (hw : F o = true ∧ wantA ops o st.regs = some true ∧ (sopR P o st).take R.length = R) (hc : c) (hk : DerX P F ops R l (st.put o.dst (sopV P o st) (sopR P o st)) K) : DerX P F ops R (o :: l) st K := by
  have e : R ++ (sopR P o st).drop R.length = sopR P o st := by
    have := List.take_append_drop R.length (sopR P o st)
    rwa [hw.2.2] at this
  exact DerX.eff c _ ((sopR P o st).drop R.length) _ (by rw [e]; exact sop_of h) ⟨hw.1, hw.2.1, by rw [e]⟩ hc hk
theorem DerZ.effI {P : Program} {ops : Array Oper} {o : Oper} {l : List Oper} {st : St} {K : St → Prop} {K0 : Oper → Nat} {n0 : Nat} {R : (Nat → List AVal) → List Row} (nR : Nat) (c : Prop) (h : sopC P o st = some c) (hw : ((K0 o == 3 && Nat.ble n0 (sopR P o st).length) = true ∧ R (cellsAt (sopR P o st)) ++ List.drop nR (sopR P o st) = sopR P o st) ∧ wantA ops o st.regs = some true) (hc : c) (hk : DerZ P K0 ops R l (st.put o.dst (sopV P o st) (sopR P o st)) K n0) : DerZ P K0 ops R (o :: l) st K n0 :=
  DerZ.eff nR c _ _ _ (sop_of h) ⟨hw.1, hw.2, rfl⟩ hc hk
/-- what is born -/
def bornR (P : Program) (o : Oper) (ρ : Operand → AVal) : Row := match birthA P o ρ with
  | some q => ⟨q.1, q.2, .fresh⟩
  | none => ub
def bornB (P : Program) (o : Oper) (ρ : Operand → AVal) : Bool := match birthA P o ρ with
  | some _ => true
  | none => false
theorem born_of {P : Program} {o : Oper} {ρ : Operand → AVal} (h : bornB P o ρ = true) : ∃ cs s, birthA P o ρ = some (cs, s) ∧ bornR P o ρ = ⟨cs, s, .fresh⟩ := by
  unfold bornB at h
  unfold bornR
  cases e : birthA P o ρ with
  | none => rw [e] at h; cases h
  | some q => exact ⟨q.1, q.2, rfl, rfl⟩
theorem DerZ.birthI {P : Program} {ops : Array Oper} {o : Oper} {l : List Oper} {st : St} {K : St → Prop} {K0 : Oper → Nat} {n0 : Nat} {R : (Nat → List AVal) → List Row} (id : Nat)
    (h : bornB P o (ev st.regs) = true ∧ wantA ops o st.regs = some true ∧ Nat.ble 1 (K0 o) = true ∧ st.rows[id]? = some ub ∧ (∀ x, Nat.ble (R x).length id = true) ∧ Nat.blt id n0 = true) (hk : DerZ P K0 ops R l (st.put o.dst (.ptr id 0) (st.rows.set id (bornR P o (ev st.regs)))) K n0) : DerZ P K0 ops R (o :: l) st K n0 := by
  obtain ⟨cs, s, h1, h2⟩ := born_of h.1
  rw [h2] at hk
  exact DerZ.birth id s cs _ ⟨h1, h.2.1, h.2.2.1, h.2.2.2.1, h.2.2.2.2.1, h.2.2.2.2.2, rfl⟩ hk
theorem DerU.touchI {P : Program} {ops : Array Oper} {o : Oper} {l : List Oper} {st : St} {K : St → Prop} {K0 : Oper → Nat} {R : (Nat → Row) → List Row} (k : Nat) (c : Prop)
    (h : ∀ x ext, sop P o (ev st.regs) (R (updR x k (rowAt st.rows k)) ++ ext) = some ⟨c, sopV P o st, R (updR x k (rowAt (sopR P o st) k)) ++ ext⟩)
    (hw : wantA ops o st.regs = some true ∧ (K0 o == 4 + k) = true ∧ Nat.blt k st.rows.length = true ∧ (∀ x, (R x).set k (rowAt st.rows k) = R (updR x k (rowAt st.rows k))) ∧ (∀ x, (R x).set k (rowAt (sopR P o st) k) = R (updR x k (rowAt (sopR P o st) k))) ∧ (∀ x, Nat.blt k (R x).length = true)) (hc : c)
    (hk : DerU P K0 ops R l (st.put o.dst (sopV P o st) (st.rows.set k (rowAt (sopR P o st) k))) K) : DerU P K0 ops R (o :: l) st K :=
  DerU.touch k _ _ c _ _ h ⟨hw.1, hw.2.1, by
    have : k < st.rows.length := Nat.le_of_ble_eq_true hw.2.2.1
    simp [rowAt, List.getD_eq_getElem?_getD, this], hw.2.2.2.1, hw.2.2.2.2.1, hw.2.2.2.2.2, rfl⟩ hc hk
theorem DerQ.callAI {P : Program} {ops : Array Oper} {o : Oper} {l : List Oper} {st : St} {K : St → Prop} {f : FuncId} {args : List AVal} {r : Nat → AVal} {ext : Nat → List Row} (he : EvA P f args r ext) (h : wantA ops o st.regs = some true ∧ Abs.callB P o (ev st.regs) = some (f, args)) (hk : DerQ P ops l (st.put o.dst (r st.rows.length) (st.rows ++ ext st.rows.length)) K) : DerQ P ops (o :: l) st K := by
  obtain ⟨args', h1, h2⟩ := callB_of h.2
  exact DerQ.callA he args' _ ⟨h.1, h1, h2, rfl⟩ hk
end Go.Abs

set_option linter.unusedVariables false
set_option linter.unusedSimpArgs false
namespace Go.Abs
open Go
end Go.Abs

set_option linter.unusedVariables false
set_option linter.unusedSimpArgs false
namespace Go.Abs
open Go
/-! Short names for steps that are taken often. -/
theorem RT {P : Program} {ops : Array Oper} {l : List Oper} {st : St} {K : St → Prop} (n : Nat) (hk : K (runS P ops l st)) (h : runC P ops l st = some (TT n) := by kernel_rfl) : DerQ P ops l st K := DerQ.runI (TT n) h (tt n) hk
theorem RI {P : Program} {ops : Array Oper} {l : List Oper} {st : St} {K : St → Prop} (c : Prop) (hc : c) (hk : K (runS P ops l st)) (h : runC P ops l st = some c := by kernel_rfl) : DerQ P ops l st K := DerQ.runI c h hc hk
theorem PT {P : Program} {ops : Array Oper} {l : List Oper} {st : St} {K : St → Prop} (n k : Nat) (hk : DerQ P ops (l.drop n) (runS P ops (l.take n) st) K) (h : runC P ops (l.take n) st = some (TT k) := by kernel_rfl) : DerQ P ops l st K := DerQ.preI n (TT k) h (tt k) hk
theorem PI {P : Program} {ops : Array Oper} {l : List Oper} {st : St} {K : St → Prop} (n : Nat) (c : Prop) (hc : c) (hk : DerQ P ops (l.drop n) (runS P ops (l.take n) st) K) (h : runC P ops (l.take n) st = some c := by kernel_rfl) : DerQ P ops l st K := DerQ.preI n c h hc hk
theorem KL {P : Program} {N : Nat} {c : Code} {Q : Exit → St → Prop} {st : St} (l : List Nat) (st' : St) (h : AWP P N c Q st') (he : (⟨killL l st.regs, st.rows⟩ : St) = st' := by kernel_rfl) : AWP P N c Q st := AWP.kill l st' he h
theorem SQ {P : Program} {N : Nat} {Q : Exit → St → Prop} {st : St} {id : Nat} {l : List Oper} {y : Code} (h : DerQ P l.toArray l st (thenQ (AWP P N y Q) Q .normal)) : AWP P N (.seq (.region id l.toArray false) y) Q st := AWP.seq (AWP.reg h)
theorem TO {P : Program} {N : Nat} {c : Code} {Q : Exit → St → Prop} {st : St} (st' : St) (k : AWP P N c Q st') (h : st = st' := by kernel_rfl) : AWP P N c Q st := h ▸ k
theorem CD {P : Program} {ops : Array Oper} {o : Oper} {l : List Oper} {st : St} {K : St → Prop} {f : FuncId} {args : List AVal} {r : AVal} (he : EvD P f args r) (hk : DerQ P ops l (st.put o.dst r st.rows) K) (h1 : wantA ops o st.regs = some true := by kernel_rfl) (h2 : Abs.callA P o (ev st.regs) = some (f, args) := by kernel_rfl) : DerQ P ops (o :: l) st K := DerQ.callDI he ⟨h1, h2⟩ hk
theorem FI {P : Program} {N : Nat} {rs : Array ResultVar} {st : St} {rows' : List Row} {r : AVal} {e : Exit} (r1 : AVal) (hs : Shrink N st.rows r1 rows' r) (he : e = .normal ∨ e = .ret := by simp) (h : resA' P rs st = some r1 := by kernel_rfl) : (e = .normal ∨ e = .ret) ∧ ∃ r1, resA' P rs st = some r1 ∧ Shrink N st.rows r1 rows' r := ⟨he, r1, h, hs⟩
theorem FA {P : Program} {rs : Array ResultVar} {st : St} {r : AVal} {e : Exit} (hd : r.data = true := by rfl) (he : e = .normal ∨ e = .ret := by simp) (h : resA' P rs st = some r := by kernel_rfl) : (e = .normal ∨ e = .ret) ∧ ∃ r1, resA' P rs st = some r1 ∧ Shrink 0 st.rows r1 [] r := ⟨he, r, h, Shrink.all rfl hd⟩
theorem CN {P : Program} {N : Nat} {Q : Exit → St → Prop} {st : St} {c : Operand} {x y : Code} (b : Bool) (ht : b = true → AWP P N x Q st) (hf : b = false → AWP P N y Q st) (hc : ev st.regs c = .sc (.bool b) := by kernel_rfl) : AWP P N (.cond c x y) Q st := AWP.cond (b := b) hc ht hf
/-- numbers one behind the other -/
def NN (a n : Nat) : List Nat := List.range' a n
end Go.Abs

set_option linter.unusedVariables false
set_option linter.unusedSimpArgs false
namespace Go.Abs
open Go
/-- A new row of which a slice without elements is answered: its cells are room. -/
theorem Shrink.room {r : Row} (hs : r.st = .fresh) : Shrink 0 [r] (.row 0 0 0) [⟨[], r.esz, .fresh⟩] (.row 0 0 0) := by
  intro X m w v hrel hv _
  have hget : ([r] : List Row)[0]? = some r := rfl
  have one : ∀ (i : Nat) (q : Row), ([⟨[], r.esz, .fresh⟩] : List Row)[i]? = some q → i = 0 ∧ q = ⟨[], r.esz, .fresh⟩ := by
    intro i q h
    cases i with
    | zero => exact ⟨rfl, by simpa using h.symm⟩
    | succ i => simp at h
  have hI : ∀ b o v, Imm ⟨[r], m, w, X⟩ b o → w.cell? ⟨b, o, none⟩ = some v → Imm ⟨[⟨[], r.esz, .fresh⟩], m, w, X⟩ b o ∧ w.cell? ⟨b, o, none⟩ = some v :=
    fun b o v hI hc => ⟨⟨hI.1, hI.2.1, fun id q h1 h2 h3 => by
      obtain ⟨rfl, rfl⟩ := one id q h1
      have := hI.2.2 0 r rfl (by simp [hs]) h3
      rw [hs] at this
      simp at this⟩, hc⟩
  have hevo : ∀ x u, V ⟨[r], m, w, X⟩ x u → x.refLt 0 = true → V ⟨[⟨[], r.esz, .fresh⟩], m, w, X⟩ x u := fun x u hx hlt =>
    V.mono (E := ⟨[r], m, w, X⟩) (E' := ⟨[⟨[], r.esz, .fresh⟩], m, w, X⟩) (N := 0) hI (fun id _ h => absurd h (by omega)) hx hlt
  refine ⟨m, ?_, ?_, by simp, ⟨hevo, Nat.le_refl _, fun b hb hf => ⟨rfl, fun id q h1 h2 => ?_⟩, rfl, rfl, rfl, hI⟩⟩
  · refine ⟨hrel.xlt, fun i q b h1 h2 h3 => ?_, fun i j q s b h1 h2 _ _ _ _ => ?_, fun i q h1 h2 h3 => ?_, fun i q h1 h2 => ?_, fun i q h1 h2 => ?_⟩
    · obtain ⟨rfl, rfl⟩ := one i q h1
      exact hrel.xr 0 r b rfl (by simp [hs]) h3
    · obtain ⟨rfl, _⟩ := one i q h1
      obtain ⟨rfl, _⟩ := one j s h2
      rfl
    · obtain ⟨rfl, rfl⟩ := one i q h1
      rcases hrel.own 0 r rfl (by simp [hs]) (by simp [hs]) with ⟨h, _⟩ | ⟨b, c, e, k1, k2, _⟩
      · exact .inl ⟨h, rfl⟩
      · exact .inr ⟨b, c, e, k1, k2, by simp, fun j hj => by simp at hj⟩
    · obtain ⟨rfl, rfl⟩ := one i q h1
      simp at h2
    · obtain ⟨rfl, rfl⟩ := one i q h1
      simp at h2
  · generalize hx : AVal.row 0 0 0 = x at hv
    cases hv <;> simp at hx
    · rename_i b cap r2 hr2 hs2 hm2 hn2 ho2 hcc2
      obtain ⟨rfl, rfl, rfl⟩ := hx
      cases hr2
      exact .rowF 0 0 0 b cap ⟨[], r.esz, .fresh⟩ rfl rfl hm2 hn2 (by simp) hcc2
    · rename_i r2 bs hr2 hs2
      subst hx
      cases hr2
      rcases hs2 with h | h | h
      · simp [hs] at h
      · exact .rowV 0 ⟨[], r.esz, .fresh⟩ _ rfl (.inr (.inl ⟨.inl rfl, h.2⟩))
      · simp [hs] at h
    · rename_i b o cap r2 vs hr2 hs2 hn2 ho2 hd2 hv2 hm2 he2
      obtain ⟨rfl, rfl, rfl⟩ := hx
      cases hr2
      rcases hs2 with h | h <;> simp [hs] at h
    · rename_i r2 hr2 hs2 h02 hv2
      obtain ⟨rfl, rfl, rfl⟩ := hx
      cases hr2
      simp [hs] at hs2
  · obtain ⟨rfl, rfl⟩ := one id q h1
    exact hf 0 r rfl (by simp [hs])
/-- A call that makes rows, of a contract over what is handed in as it is. -/
theorem DerQ.callAX {P : Program} {ops : Array Oper} {o : Oper} {l : List Oper} {st : St} {K : St → Prop} {f : FuncId} {args : List AVal} {r : Nat → AVal} {ext : Nat → List Row} (he : EvA P f args r ext) (st1 : St)
    (h : wantA ops o st.regs = some true ∧ Abs.callA P o (ev st.regs) = some (f, args) ∧ st.put o.dst (r st.rows.length) (st.rows ++ ext st.rows.length) = st1) (hk : DerQ P ops l st1 K) : DerQ P ops (o :: l) st K :=
  DerQ.call (he st.rows) st1 h hk
end Go.Abs

set_option linter.unusedVariables false
set_option linter.unusedSimpArgs false
namespace Go.Abs
open Go
/-! ### What is no cells may turn -/
end Go.Abs

set_option linter.unusedVariables false
set_option linter.unusedSimpArgs false
namespace Go.Abs
open Go
/-! ### An iterator's function: its own code, and the rounds that it asks for -/
/-- No rows of one's own. -/
def E0 (W : World) (X : Nat → Nat → Prop) : Env := ⟨[], fun _ => none, W, X⟩

/-- What the caller of an iterator keeps: it abides what is laid behind it. -/
def Calm {β : Type} (J : List β → (Nat → Nat → Prop) → World → Prop) : Prop := ∀ s X W W', J s X W → W.grownBy W' none → J s X W'
/-- What a round brings about. -/
def Rounds {β : Type} (P : Program) (l : Nat) (J : List β → (Nat → Nat → Prop) → World → Prop) (items : List β) (enc : β → List AVal) : Prop :=
  ∀ (pre : List β) (x : β) (rest : List β) (X : Nat → Nat → Prop) (W : World) (vs : List Value), items = pre ++ x :: rest → J pre X W → (∀ b o, X b o → b < W.heap.size) → VL (E0 W X) (enc x) vs →
    YieldAt (Fw none) 0 P l vs.toArray W fun e W' => e = .returned (.bool true) ∧ ∃ X', J (pre ++ [x]) X' W' ∧ (∀ b o, X' b o → b < W'.heap.size) ∧ ∀ x v, V (E0 W X) x v → V (E0 W' X') x v
/-- An iterator: which items come, one by one. -/
def IterD {β : Type} (P : Program) (f : FuncId) (cap : List AVal) (items : List β) (enc : β → List AVal) : Prop :=
  ∀ (l : Nat) (J : List β → (Nat → Nat → Prop) → World → Prop) (X : Nat → Nat → Prop) (W : World) (vs : List Value), Calm J → Rounds P l J items enc → J [] X W → (∀ b o, X b o → b < W.heap.size) → VL (E0 W X) cap vs →
    CallsIn (Fw none) 0 P f (#[.func (.yield l) #[] #[]] ++ vs.toArray) W fun e W' => (∃ v, e = .returned v) ∧ ∃ X', J items X' W'

/-- A piece of an iterator's code. -/
def AWJ {β : Type} (P : Program) (l : Nat) (items : List β) (enc : β → List AVal) (c : Code) (Q : Exit → List β → St → Prop) (pre : List β) (st : St) : Prop :=
  st.rows = [] → ∀ (J : List β → (Nat → Nat → Prop) → World → Prop) (X : Nat → Nat → Prop) (W : World) (a : Act) (m : Nat → Option Nat), Calm J → Rounds P l J items enc → J pre X W → RelSt [] X st m W a →
    c.wpIn (Fw none) 0 P (fun e a' W' => ∃ pre' st' X' m', Q e pre' st' ∧ st'.rows = [] ∧ J pre' X' W' ∧ RelSt [] X' st' m' W' a') a W

def thenJ {β : Type} (next : List β → St → Prop) (Q : Exit → List β → St → Prop) : Exit → List β → St → Prop
  | .normal, p, st => next p st
  | e, p, st => Q e p st
def inBlockJ {β : Type} (id : Nat) (Q : Exit → List β → St → Prop) : Exit → List β → St → Prop
  | .exit id', p, st => if id' = id then Q .normal p st else Q (.exit id') p st
  | e, p, st => Q e p st

section
variable {β : Type} {P : Program} {l : Nat} {items : List β} {enc : β → List AVal} {Q : Exit → List β → St → Prop} {pre : List β} {st : St}

end

/-! The region that calls yield. -/
/-- Which loop's yield is called, with what. -/
def callY (o : Oper) (ρ : Operand → AVal) : Option (Nat × List AVal) :=
  match o.op with
  | .call c => match c.callee with
    | .value fop => match ρ fop with
      | .sc (.func (.yield l) _ _) => some (l, c.args.toList.map ρ)
      | _ => none
    | _ => none
  | _ => none

end Go.Abs

set_option linter.unusedVariables false
set_option linter.unusedSimpArgs false
namespace Go.Abs
open Go
/-! ### Code that holds a range over a function -/
def NoMap (rows : List Row) : Prop := ∀ (i : Nat) (r : Row), rows[i]? = some r → r.st ≠ .map
def mark (D : Nat) : Deferred := { target := .collected D, args := #[] }
/-- The blocks for the rounds' deferred calls, and their marks. -/
def MarksOk (B : Nat) (ds : List Deferred) (w : World) : Prop :=
  ∃ Ds : List Nat, ds = Ds.map mark ∧ Ds.Nodup ∧ ∀ D ∈ Ds, B ≤ D ∧ w.heap[D]? = some (.deferred (some []))
def AWM (P : Program) (N : Nat) (c : Code) (Q : Exit → St → Prop) (st : St) : Prop :=
  N ≤ st.rows.length → NoMap st.rows → ∀ (B : Nat) (ds : List Deferred) (X : Nat → Nat → Prop) (m : Nat → Option Nat) (w : World) (a : Act), RelSt ds X st m w a → MarksOk B ds w → B ≤ w.heap.size →
    c.wpIn (Fw none) 0 P (fun e a' w' => ∃ st' m' ds', Q e st' ∧ NoMap st'.rows ∧ N ≤ st'.rows.length ∧ RelSt ds' X st' m' w' a' ∧ MarksOk B ds' w' ∧ Evo N ⟨st.rows, m, w, X⟩ ⟨st'.rows, m', w', X⟩) a w

section
variable {P : Program} {N : Nat} {Q : Exit → St → Prop} {st : St}
end

end Go.Abs

set_option linter.unusedVariables false
set_option linter.unusedSimpArgs false
namespace Go.Abs
open Go
/-! ### The statement 'for .. := range f' -/
/-- What of the caller's cells may yet be written. -/
def Xof (rows : List Row) (m : Nat → Option Nat) (X : Nat → Nat → Prop) (b o : Nat) : Prop :=
  X b o ∨ ∃ (id : Nat) (r : Row), rows[id]? = some r ∧ r.st ≠ .frozen ∧ m id = some b ∧ ¬ (r.st = .grown ∧ o < r.cells.length)
def setAll (regs : List AVal) (l : List (Nat × AVal)) : List AVal := l.foldl (fun t q => t.set q.1 q.2) regs
end Go.Abs

set_option linter.unusedVariables false
set_option linter.unusedSimpArgs false
namespace Go.Abs
open Go
/-! ### nil in a variable of a row is a row of its own -/
theorem relabel_step {E : Env} (hE : Rel E) {id : Nat} {r : Row} (hr : E.rows[id]? = some r) (hs : r.st = .fresh) (j : Nat) (y : AVal) (hj : j < r.cells.length) (hy : ∀ v, V E (r.cells.getD j .undef) v → V E y v) :
    let E' : Env := ⟨E.rows.set id ⟨r.cells.set j y, r.esz, r.st⟩, E.m, E.w, E.x⟩
    Rel E' ∧ Evo E.rows.length E E' := by
  intro E'
  have hlt : id < E.rows.length := lt_of_get hr
  have hsame : ∀ (i : Nat) (s : Row), E'.rows[i]? = some s → (i ≠ id ∧ E.rows[i]? = some s) ∨ (i = id ∧ s = ⟨r.cells.set j y, r.esz, r.st⟩) := by
    intro i s h
    change (E.rows.set id _)[i]? = some s at h
    by_cases e : i = id
    · subst e
      rw [List.getElem?_set_self hlt] at h
      exact .inr ⟨rfl, by simpa using h.symm⟩
    · rw [List.getElem?_set_ne (fun h => e h.symm)] at h
      exact .inl ⟨e, h⟩
  have hrow : ∀ (i : Nat) (s : Row), E.rows[i]? = some s → ∃ s' : Row, E'.rows[i]? = some s' ∧ RowEvo E E' i s s' := by
    intro i s h
    by_cases e : i = id
    · subst e
      have : s = r := by rw [hr] at h; simpa using h.symm
      subst this
      refine ⟨⟨s.cells.set j y, s.esz, s.st⟩, ?_, .fresh hs hs rfl rfl (by simp) (fun _ _ _ h => h)⟩
      show (E.rows.set i _)[i]? = _
      rw [List.getElem?_set_self hlt]
    · refine ⟨s, ?_, RowEvo.keep rfl (fun _ _ _ _ h => h)⟩
      show (E.rows.set id _)[i]? = _
      rw [List.getElem?_set_ne (fun h => e h.symm)]; exact h
  have hst : ∀ (i : Nat) (s : Row), E'.rows[i]? = some s → ∃ s0 : Row, E.rows[i]? = some s0 ∧ s0.st = s.st ∧ s0.cells.length = s.cells.length := by
    intro i s h
    rcases hsame i s h with ⟨_, h⟩ | ⟨rfl, rfl⟩
    · exact ⟨s, h, rfl, rfl⟩
    · exact ⟨r, hr, rfl, by simp⟩
  have hst' : ∀ (i : Nat) (s : Row), E.rows[i]? = some s → ∃ s0 : Row, E'.rows[i]? = some s0 ∧ s0.st = s.st ∧ s0.cells.length = s.cells.length := by
    intro i s h
    by_cases e : i = id
    · subst e
      have : s = r := by rw [hr] at h; simpa using h.symm
      subst this
      exact ⟨⟨s.cells.set j y, s.esz, s.st⟩, by show (E.rows.set i _)[i]? = _; rw [List.getElem?_set_self hlt], rfl, by simp⟩
    · exact ⟨s, by show (E.rows.set id _)[i]? = _; rw [List.getElem?_set_ne (fun h => e h.symm)]; exact h, rfl, rfl⟩
  have hI : ∀ b o v, Imm E b o → E.w.cell? ⟨b, o, none⟩ = some v → Imm E' b o ∧ E'.w.cell? ⟨b, o, none⟩ = some v := by
    intro b o v h hc
    refine ⟨⟨h.1, h.2.1, fun i s hs' hns hm => ?_⟩, hc⟩
    obtain ⟨s0, q1, q2, q3⟩ := hst i s hs'
    have := h.2.2 i s0 q1 (by rw [q2]; exact hns) hm
    rwa [q2, q3] at this
  have hV : ∀ x v, V E x v → V E' x v := fun x v h => V.mono (N := E.rows.length) hI (fun i s _ h => hrow i s h) h h.refLt
  refine ⟨⟨hE.xlt, ?_, ?_, ?_, ?_, ?_⟩, ⟨fun x v h _ => hV x v h, Nat.le_refl _, ?_, rfl, rfl, rfl, hI⟩⟩
  · intro i s b h hns hm
    obtain ⟨s0, q1, q2, _⟩ := hst i s h
    exact hE.xr i s0 b q1 (by rw [q2]; exact hns) hm
  · intro i k s t b h1 h2 n1 n2 m1 m2
    obtain ⟨s0, q1, q2, _⟩ := hst i s h1
    obtain ⟨t0, p1, p2, _⟩ := hst k t h2
    exact hE.inj i k s0 t0 b q1 p1 (by rw [q2]; exact n1) (by rw [p2]; exact n2) m1 m2
  · intro i s h hns hnm
    rcases hsame i s h with ⟨_, h⟩ | ⟨rfl, rfl⟩
    · rcases hE.own i s h hns hnm with h' | ⟨b, c, e, k1, k2, k3, k4⟩
      · exact .inl h'
      · exact .inr ⟨b, c, e, k1, k2, k3, fun q hq => hV _ _ (k4 q hq)⟩
    · rcases hE.own i r hr (by rw [hs]; simp) (by rw [hs]; simp) with h' | ⟨b, c, e, k1, k2, k3, k4⟩
      · rw [h'.2] at hj; simp at hj
      · refine .inr ⟨b, c, e, k1, k2, by simpa using k3, fun q hq => ?_⟩
        have hq' : q < r.cells.length := by simpa using hq
        by_cases eq : q = j
        · subst eq
          have e1 : (r.cells.set q y).getD q .undef = y := by simp [List.getD_eq_getElem?_getD, hq']
          show V E' ((r.cells.set q y).getD q .undef) _
          rw [e1]
          exact hV _ _ (hy _ (k4 q hq'))
        · have e1 : (r.cells.set j y).getD q .undef = r.cells.getD q .undef := by simp [List.getD_eq_getElem?_getD, List.getElem?_set, show ¬ j = q from fun h => eq h.symm]
          show V E' ((r.cells.set j y).getD q .undef) _
          rw [e1]
          exact hV _ _ (k4 q hq')
  · intro i s h hg
    rcases hsame i s h with ⟨_, h⟩ | ⟨rfl, rfl⟩
    · exact hE.grown i s h hg
    · rw [hs] at hg; simp at hg
  · intro i s h hm
    rcases hsame i s h with ⟨_, h⟩ | ⟨rfl, rfl⟩
    · obtain ⟨b, es, k, k1, k2, k3, k4⟩ := hE.map i s h hm
      exact ⟨b, es, k, k1, k2, k3, fun q hq => ⟨hV _ _ (k4 q hq).1, hV _ _ (k4 q hq).2⟩⟩
    · rw [hs] at hm; simp at hm
  · intro b hb hf
    refine ⟨rfl, fun i s h hns => ?_⟩
    obtain ⟨s0, q1, q2, _⟩ := hst i s h
    exact hf i s0 q1 (by rw [q2]; exact hns)

theorem Weak.virtC {N : Nat} {st : St} (id j esz : Nat) (r : Row) (st' : St)
    (h : st.rows[id]? = some r ∧ r.st = .fresh ∧ r.cells[j]? = some (.sl [] 0 .nil) ∧ (⟨st.regs, (st.rows ++ [(⟨[], esz, .fresh⟩ : Row)]).set id { cells := r.cells.set j (.row st.rows.length 0 0), esz := r.esz, st := r.st }⟩ : St) = st') : Weak N st st' := by
  obtain ⟨h1, h2, h3, rfl⟩ := h
  intro hN
  refine ⟨by simp; omega, fun ds X m w a ha => ?_⟩
  obtain ⟨k1, k2⟩ := virtual_step ha.rel esz
  have hj : j < r.cells.length := by
    rcases Nat.lt_or_ge j r.cells.length with h' | h'
    · exact h'
    · rw [List.getElem?_eq_none h'] at h3; simp at h3
  have ecell : r.cells.getD j .undef = .sl [] 0 .nil := by rw [List.getD_eq_getElem?_getD, h3]; rfl
  obtain ⟨q1, q2⟩ := relabel_step k1 (id := id) (r := r) (by show (st.rows ++ [(⟨[], esz, .fresh⟩ : Row)])[id]? = _; rw [List.getElem?_append_left (lt_of_get h1)]; exact h1) h2 j (.row st.rows.length 0 0) hj (fun v hv => by
    rw [ecell] at hv
    have hb : ∃ base : Option Addr, v = .slice base 0 0 := by
      generalize hx : AVal.sl [] 0 .nil = x at hv
      cases hv <;> simp at hx
      · exact ⟨none, rfl⟩
      · rename_i hk3 a; exact ⟨some a, rfl⟩
      · rename_i b o cap vs hk2 hn hd hv hm
        obtain ⟨rfl, rfl, rfl⟩ := hx
        simp at hk2
    obtain ⟨base, rfl⟩ := hb
    exact .rowV st.rows.length ⟨[], esz, .fresh⟩ base (by simp) (.inr (.inl ⟨.inl rfl, by simp⟩)))
  refine ⟨_, ⟨q1, ha.len, fun i hi => ?_, ha.defers⟩, ?_⟩
  · exact q2.val _ _ (k2.val _ _ (ha.regs i hi) (ha.regs i hi).refLt) (AVal.lt_mono (by simp) _ (ha.regs i hi).refLt)
  · exact (k2.mono hN).trans (q2.mono (by simp; omega))
end Go.Abs
namespace Go.Abs
open Go
end Go.Abs
namespace Go.Abs
open Go
theorem WfRows.of {rows : List Row} {n : Nat} (h : ∀ r ∈ rows, ltAll n r.cells = true) : WfRows n rows := fun i r hi _ => h r (List.mem_of_getElem? hi)
theorem Weak.cutW {N : Nat} {st : St} {rows2 : List Row} (k : Nat) (h2 : st.rows.take k = rows2) (hN : N ≤ rows2.length) (hr : ltAll rows2.length st.regs = true)
    (hd : WfRows rows2.length rows2) : Weak N st ⟨st.regs, rows2⟩ := by
  refine Weak.of_shrink ?_ rfl hN
  have e : st.rows = rows2 ++ st.rows.drop k := by rw [← h2, List.take_append_drop]
  rw [e]
  exact Shrink.drop hN hd hr
end Go.Abs
namespace Go.Abs
open Go
end Go.Abs

/-! Rows that are lost; what Insert and Delete of slices do to the memory. -/
set_option linter.unusedVariables false
set_option linter.unusedSimpArgs false
namespace Go.Abs
open Go
theorem run_copyK {P : Program} (w : World) (dT sT ty elem : TypeId) (b o dLen dCap : Nat) (a : Addr) (sLen sCap sz k : Nat) (cs : List Value)
    (hu : P.underlying dT = some (.slice elem)) (hs : (P.info? elem).map (·.size) = some sz) (hk : Nat.min sLen dLen = k) (hn : cs.length = k * sz)
    (hsrc : ∀ j v, cs[j]? = some v → w.cell? (a.add j) = some v) (hc : ∀ j, j < cs.length → (w.cell? ⟨b, o + j, none⟩).isSome = true) (hf : ∀ j, j < cs.length → w.frozen? ⟨b, o + j, none⟩ = false) (h1 : ∀ v ∈ cs, v.oneCell' = true) :
    (Builtin.copy_ #[dT, sT] ty #[.slice (some ⟨b, o, none⟩) dLen dCap, .slice (some a) sLen sCap]).run P w = .ok (goInt k) (w.setCells b o cs) := by
  subst hk
  have hl := run_loadCells_list (P := P) w a cs hsrc
  have hst := run_storeCells_cells (P := P) b o cs 0 w (by simpa using hc) (by simpa using hf) h1
  cases hq : P.info? elem with
  | none => simp [hq] at hs
  | some i =>
    have hi : i.size = sz := by simpa [hq] using hs
    simp [Builtin.copy_, run_underlying hu, Builtin.lenOf, Builtin.firstCells, sizeOf, typeInfo, hq, hi, ← hn, hl, hst]
theorem setCells_heap (b : Nat) : ∀ (vs : List Value) (o : Nat) (w : World), (w.setCells b o vs).heap.size = w.heap.size ∧ (∀ k, k ≠ b → (w.setCells b o vs).heap[k]? = w.heap[k]?) ∧ (w.setCells b o vs).os = w.os ∧ (w.setCells b o vs).tape = w.tape ∧ (w.setCells b o vs).output = w.output
  | [], o, w => ⟨rfl, fun _ _ => rfl, rfl, rfl, rfl⟩
  | v :: r, o, w => by
    obtain ⟨h1, h2, h3, h4, h5⟩ := setCells_heap b r (o + 1) (w.setCell ⟨b, o, none⟩ v)
    refine ⟨?_, fun k hk => ?_, ?_, ?_, ?_⟩
    · rw [World.setCells, h1]; simp
    · rw [World.setCells, h2 k hk]; exact heap_setCell_other w _ k v hk
    · rw [World.setCells, h3]; rfl
    · rw [World.setCells, h4]; rfl
    · rw [World.setCells, h5]; rfl
/-- A row is lost, and its block is anybody's. -/
theorem dead_step {E : Env} (hE : Rel E) {id : Nat} {r : Row} (hr : E.rows[id]? = some r) (hnm : r.st ≠ .map) (hnu : r.st ≠ .unborn) {w' : World} (hsz : E.w.heap.size ≤ w'.heap.size)
    (hold : ∀ b', b' < E.w.heap.size → (E.m id = some b' → r.st = .frozen) → w'.heap[b']? = E.w.heap[b']?) (hos : w'.os = E.w.os) (htp : w'.tape = E.w.tape) (hout : w'.output = E.w.output)
    (hgr : r.st = .grown → w' = E.w) :
    Rel ⟨E.rows.set id ⟨[], r.esz, .dead⟩, fun i => if i = id then none else E.m i, w', E.x⟩ ∧ Evo E.rows.length E ⟨E.rows.set id ⟨[], r.esz, .dead⟩, fun i => if i = id then none else E.m i, w', E.x⟩ := by
  have hother : ∀ (i : Nat) (s : Row) (b : Nat), i ≠ id → E.rows[i]? = some s → s.st ≠ .frozen → E.m i = some b → E.m id = some b → r.st = .frozen := fun i s b hne h hn hm hm2 =>
    Classical.byContradiction fun hns => hne (hE.inj i id s r b h hr hn hns hm hm2)
  have hI : ∀ b o v, Imm E b o → E.w.cell? ⟨b, o, none⟩ = some v → Imm ⟨E.rows.set id ⟨[], r.esz, .dead⟩, fun i => if i = id then none else E.m i, w', E.x⟩ b o ∧ w'.cell? ⟨b, o, none⟩ = some v := by
    intro b o v hi hc
    refine ⟨⟨Nat.lt_of_lt_of_le hi.1 hsz, hi.2.1, fun i s h1 h2 h3 => ?_⟩, ?_⟩
    · rcases get_set_cases h1 with ⟨rfl, rfl, _⟩ | ⟨hne, h1'⟩
      · simp at h3
      · have h3' : E.m i = some b := by simpa [hne] using h3
        exact hi.2.2 i s h1' h2 h3'
    · by_cases hm : E.m id = some b
      · by_cases hns : r.st = .frozen
        · rw [cell_congr (hold b hi.1 (fun _ => hns))]; exact hc
        · have hg := (hi.2.2 id r hr hns hm).1
          rw [hgr hg]; exact hc
      · rw [cell_congr (hold b hi.1 (fun h => absurd h hm))]; exact hc
  have hR : ∀ (i : Nat) (s : Row), i < E.rows.length → E.rows[i]? = some s → ∃ s', (E.rows.set id ⟨[], r.esz, .dead⟩)[i]? = some s' ∧ RowEvo E ⟨E.rows.set id ⟨[], r.esz, .dead⟩, fun i => if i = id then none else E.m i, w', E.x⟩ i s s' := by
    intro i s _ h
    by_cases e : i = id
    · subst e
      rw [hr] at h; cases h
      exact ⟨_, get_set_same hr, .dead hnm hnu rfl (.inl rfl)⟩
    · refine ⟨s, by rw [get_set_other e]; exact h, RowEvo.keep (by simp [e]) (fun hst b o hm hc => ?_)⟩
      have hb : E.m id = some b → r.st = .frozen := hother i s b e h (by rcases hst with h | h <;> simp [h]) hm
      have hlt := hE.lt h (by rcases hst with h | h <;> simp [h]) hm
      show (w'.cell? _).isSome = true
      rw [cell_congr (hold b hlt hb)]; exact hc
  have hV : ∀ x v, V E x v → V ⟨E.rows.set id ⟨[], r.esz, .dead⟩, fun i => if i = id then none else E.m i, w', E.x⟩ x v := fun x v h => V.mono (N := E.rows.length) hI (fun i s hi hs => hR i s hi hs) h h.refLt
  refine ⟨⟨?_, ?_, ?_, ?_, ?_, ?_⟩, ⟨fun x v h _ => hV x v h, hsz, ?_, hos, htp, hout, hI⟩⟩
  · intro b o hx; exact Nat.lt_of_lt_of_le (hE.xlt b o hx) hsz
  · intro i s b h1 h2 h3 o
    rcases get_set_cases h1 with ⟨rfl, rfl, _⟩ | ⟨hne, h1'⟩
    · simp at h3
    · exact hE.xr i s b h1' h2 (by simpa [hne] using h3) o
  · intro i j s t b h1 h2 n1 n2 m1 m2
    rcases get_set_cases h1 with ⟨rfl, rfl, _⟩ | ⟨hne, h1'⟩
    · simp at m1
    · rcases get_set_cases h2 with ⟨rfl, rfl, _⟩ | ⟨hne2, h2'⟩
      · simp at m2
      · exact hE.inj i j s t b h1' h2' n1 n2 (by simpa [hne] using m1) (by simpa [hne2] using m2)
  · intro i s h1 n1 n2
    rcases get_set_cases h1 with ⟨rfl, rfl, _⟩ | ⟨hne, h1'⟩
    · exact .inl ⟨by simp, rfl⟩
    · rcases hE.own i s h1' n1 n2 with ⟨h, h'⟩ | ⟨b, c, e, k1, k2, k3, k4⟩
      · exact .inl ⟨by simpa [hne] using h, h'⟩
      · have hb : E.m id = some b → r.st = .frozen := hother i s b hne h1' n1 k1
        refine .inr ⟨b, c, e, by simpa [hne] using k1, ?_, k3, fun j hj => hV _ _ (k4 j hj)⟩
        show w'.heap[b]? = _
        rw [hold b (lt_of_heap k2) hb]; exact k2
  · intro i s h1 hg
    rcases get_set_cases h1 with ⟨rfl, rfl, _⟩ | ⟨hne, h1'⟩
    · simp at hg
    · exact hE.grown i s h1' hg
  · intro i s h1 hm
    rcases get_set_cases h1 with ⟨rfl, rfl, _⟩ | ⟨hne, h1'⟩
    · simp at hm
    · obtain ⟨b, es, k, k1, k2, k3, k4⟩ := hE.map i s h1' hm
      have hb : E.m id = some b → r.st = .frozen := hother i s b hne h1' (by simp [hm]) k1
      refine ⟨b, es, k, by simpa [hne] using k1, ?_, k3, fun j hj => ⟨hV _ _ (k4 j hj).1, hV _ _ (k4 j hj).2⟩⟩
      show w'.heap[b]? = _
      rw [hold b (lt_of_heap k2) hb]; exact k2
  · intro b hb hf
    have hm : E.m id = some b → r.st = .frozen := fun hm => Classical.byContradiction fun hns => hf id r hr hns hm
    refine ⟨hold b hb hm, fun i s h1 h2 h3 => ?_⟩
    rcases get_set_cases h1 with ⟨rfl, rfl, _⟩ | ⟨hne, h1'⟩
    · simp at h3
    · exact hf i s h1' h2 (by simpa [hne] using h3)
/-- A slice of what lies in a block that is nobody's. -/
theorem V.ofBlock {E : Env} {cells : List AVal} {n b o cap : Nat} (hn : n ≤ cap) (hd : dataAll cells = true) (hb : b < E.w.heap.size) (hx : ∀ o, ¬ E.x b o) (hf : Free E b) (vs : Nat → Value)
    (hc : ∀ i, i < cells.length → E.w.cell? ⟨b, o + i, none⟩ = some (vs i)) (hv : ∀ i, i < cells.length → V E (cells.getD i .undef) (vs i)) : V E (.sl cells n .any) (.slice (some ⟨b, o, none⟩) n cap) :=
  .sl cells n .any b o cap vs (.inl rfl) hn hd hv (fun i hi => ⟨hc i hi, hf.imm hb (hx _)⟩)
end Go.Abs

/-! slices.Insert into a fresh row. -/
set_option linter.unusedVariables false
set_option linter.unusedSimpArgs false
namespace Go.Abs
open Go
theorem run_overlaps_target {P : Program} (w : World) (tS tR e : TypeId) (ht : P.underlying tS = some (.slice e)) (size : Nat) (hz : ∀ w, (Go.sizeOf e).run P w = .ok size w)
    (a b : Addr) (la ca lb cb : Nat) (hne : a.block ≠ b.block) (tA tB : TypeId) (kA kB : Nat)
    (hsa : w.shape? a.block = some (tA, kA)) (hsb : w.shape? b.block = some (tB, kB)) (hkA : kA ≠ 0) (hkB : kB ≠ 0)
    (hfb : w.frozen? b = false) (hfe : w.frozen? { block := b.block, off := kB } = false) :
    (Extern.SlicesOverlaps.overlaps #[tS, tS] #[tR] #[.slice (some a) la ca, .slice (some b) lb cb]).run P w = .ok (.bool false) w := by
  have hnb : (a.block != b.block) = true := by simpa using hne
  have hnb' : (a.block == b.block) = false := by simpa using hne
  change Sem.run P (α := Value) (do
    let some t := (#[tS, tS] : Array TypeId)[0]? | stuck "slices.overlaps: no parameter types"
    let .slice elem ← underlying t | stuck "slices.overlaps: slice type expected"
    let size ← sizeOf elem
    match (some a : Option Addr), (some b : Option Addr) with
    | some a, some b =>
      if la = 0 ∨ lb = 0 ∨ size = 0 then pure (Value.bool false)
      else if a.block != b.block && (← frozen a) && (← frozen b) then unsupported .addressObserved
      else do
        if a.block != b.block then do
          noView a; noView b
          if ← mayBeOne a b then return Value.bool ((← choose (.extern "sameAddr.stringBytes" 2)) == 1)
        pure (Value.bool (a.block == b.block && a.off < b.off + lb * size && b.off < a.off + la * size))
    | _, _ => pure (Value.bool false)) w = _
  by_cases h0 : la = 0 ∨ lb = 0 ∨ size = 0
  · simp [run_underlying ht, hz, h0]
  · cases kB with
    | zero => exact absurd rfl hkB
    | succ kB =>
      cases kA with
      | zero => exact absurd rfl hkA
      | succ kA =>
      cases hfa : w.frozen? a <;> cases hfa2 : w.frozen? { block := a.block, off := kA + 1 } <;>
      simp [run_underlying ht, hz, h0, hnb, hnb', frozen, noView, viewAt, mayBeOne, stringish, shape, Sem.run, hsa, hsb, hfb, hfe, hfa, hfa2]
/-- What slices.Insert does to the memory. -/
structure InsRaw (P : Program) (f TS TE K B : Nat) : Prop where
  und : P.underlying TS = some (.slice TE)
  inf : (P.info? TE).bind (fun i => i.zero.map fun z => (i.size, i.bytes, z.cells.size)) = some (K, B, K)
  room : ∀ (b n c i vb vo vc : Nat) (cs vs : List Value) (w : World) (hi : i < n) (hroom : n + 1 ≤ c) (hn9 : n ≤ 1000000000) (hvb : vb ≠ b) (hcl : cs.length = n * K) (hvl : vs.length = K)
    (hcs : ∀ j v, cs[j]? = some v → w.cell? ⟨b, j, none⟩ = some v) (hsp : ∀ j, j < (n + 1) * K → (w.cell? ⟨b, j, none⟩).isSome = true) (hfz : ∀ j, w.frozen? ⟨b, j, none⟩ = false)
    (hvs : ∀ j v, vs[j]? = some v → w.cell? ⟨vb, vo + j, none⟩ = some v) (h1c : ∀ v ∈ cs, v.oneCell' = true) (h1v : ∀ v ∈ vs, v.oneCell' = true)
    (tA tB : TypeId) (kA kB : Nat) (hsa : w.shape? vb = some (tA, kA)) (hsb : w.shape? b = some (tB, kB)) (hkA : kA ≠ 0) (hkB : kB ≠ 0),
    Calls P f #[.slice (some ⟨b, 0, none⟩) n c, .int .i64 i, .slice (some ⟨vb, vo, none⟩) 1 vc] w fun e w' =>
      e = .returned (.slice (some ⟨b, 0, none⟩) (n + 1) c) ∧ w' = (w.drew.setCells b ((i + 1) * K) (cs.drop (i * K))).setCells b (i * K) vs
  grow : ∀ (b n c i vb vo vc : Nat) (cs vs : List Value) (w : World) (hi : i < n) (hnc : n ≤ c) (hroom : c < n + 1) (hbig : (n + 1) * B ≤ 140737488355328) (hvb : vb ≠ b) (hcl : cs.length = n * K) (hvl : vs.length = K)
    (hcs : ∀ j v, cs[j]? = some v → w.cell? ⟨b, j, none⟩ = some v)
    (hvs : ∀ j v, vs[j]? = some v → w.cell? ⟨vb, vo + j, none⟩ = some v) (h1c : ∀ v ∈ cs, v.oneCell' = true) (h1v : ∀ v ∈ vs, v.oneCell' = true),
    Calls P f #[.slice (some ⟨b, 0, none⟩) n c, .int .i64 i, .slice (some ⟨vb, vo, none⟩) 1 vc] w fun e w' =>
      ∃ G, ∃ R : Array Value, n + 1 ≤ G ∧ (n + 1) * K ≤ R.size ∧ (∀ (j : Nat) (v : Value), (cs.take (i * K))[j]? = some v → R[j]? = some v) ∧ e = .returned (.slice (some ⟨w.heap.size, 0, none⟩) (n + 1) G) ∧
      w' = (((w.drew.alloc (.cells R TE)).setCells w.heap.size (i * K) vs).drew).setCells w.heap.size ((i + 1) * K) (cs.drop (i * K))
  fin : ∀ (base vbase : Option Addr) (n c vc : Nat) (w w' : World) (q : Value) (hnc : n ≤ c) (hnil : base = none → c = 0)
    (hrun : (Builtin.append_ #[TS, TS] TS #[.slice base n c, .slice vbase 1 vc]).run P w = .ok q w'),
    Calls P f #[.slice base n c, .int .i64 n, .slice vbase 1 vc] w fun e W => e = .returned q ∧ W = w'
end Go.Abs

set_option linter.unusedVariables false
set_option linter.unusedSimpArgs false
namespace Go.Abs
open Go
theorem V.rowF_inv {E : Env} {id off n : Nat} {v : Value} {r : Row} (h : V E (.row id off n) v) (hr : E.rows[id]? = some r) (hs : r.st = .fresh) :
    (∃ b cap, v = .slice (some ⟨b, off, none⟩) n cap ∧ E.m id = some b ∧ n ≤ cap ∧ off + n * r.esz ≤ r.cells.length ∧ ∀ i, i < cap * r.esz → (E.w.cell? ⟨b, off + i, none⟩).isSome = true) ∨
    (∃ base, v = .slice base 0 0 ∧ off = 0 ∧ n = 0 ∧ E.m id = none) := by
  generalize hx : AVal.row id off n = x at h
  cases h <;> simp at hx
  · rename_i b cap r2 hr2 hs2 hm hn ho hc
    obtain ⟨rfl, rfl, rfl⟩ := hx
    rw [hr] at hr2; cases hr2
    exact .inl ⟨b, cap, rfl, hm, hn, ho, hc⟩
  · rename_i r2 base hr2 hs2
    obtain ⟨rfl, rfl, rfl⟩ := hx
    rw [hr] at hr2; cases hr2
    rcases hs2 with h | h | h
    · simp [hs] at h
    · exact .inr ⟨base, rfl, rfl, rfl, h.2⟩
    · simp [hs] at h
  · rename_i b o cap r2 vs hr2 hs2 hn ho hd2 hv hm he
    obtain ⟨rfl, rfl, rfl⟩ := hx
    rw [hr] at hr2; cases hr2
    rcases hs2 with h | h <;> simp [hs] at h
  · rename_i r2 hr2 hs2 h02 hv2
    obtain ⟨rfl, rfl, rfl⟩ := hx
    rw [hr] at hr2; cases hr2
    simp [hs] at hs2
theorem ins_getD {α : Type} (l x : List α) (a j : Nat) (d : α) (ha : a ≤ l.length) : (l.take a ++ x ++ l.drop a).getD j d = if j < a then l.getD j d else if j < a + x.length then x.getD (j - a) d else l.getD (j - x.length) d := by
  simp only [List.getD_eq_getElem?_getD, List.append_assoc]
  have h1 : (l.take a).length = a := by rw [List.length_take]; omega
  by_cases h : j < a
  · rw [if_pos h, List.getElem?_append_left (by omega), List.getElem?_take, if_pos h]
  · rw [if_neg h, List.getElem?_append_right (by omega), h1]
    by_cases h2 : j < a + x.length
    · rw [if_pos h2, List.getElem?_append_left (by omega)]
    · rw [if_neg h2, List.getElem?_append_right (by omega), List.getElem?_drop]
      congr 2; omega
theorem V.one_of {E : Env} {x : AVal} {v : Value} (h : V E x v) (h1 : x.one = true) (hd : x.data = true) : v.oneCell' = true :=
  V.oneCell h h1 (fun id off e => by subst e; simp [AVal.data] at hd)
theorem getD_mem {l : List AVal} (h : dataAll l = true) {j : Nat} (hj : j < l.length) : (l.getD j .undef).data = true := (dataAll_iff l).1 h j hj
theorem dataAll_ins {l x : List AVal} (hl : dataAll l = true) (hx : dataAll x = true) (a : Nat) : dataAll (l.take a ++ x ++ l.drop a) = true := by
  rw [dataAll_append, dataAll_append, dataAll_take _ hl, hx, dataAll_drop _ hl]; rfl
theorem shape_of_cell {w : World} {b o : Nat} {v : Value} (h : w.cell? ⟨b, o, none⟩ = some v) : ∃ t k, w.shape? b = some (t, k) ∧ k ≠ 0 := by
  simp only [World.cell?] at h
  cases hb : w.heap[b]? with
  | none => rw [hb] at h; simp at h
  | some ob =>
    rw [hb] at h
    cases ob with
    | cells c e fr =>
      refine ⟨e, c.size, by simp [World.shape?, hb], fun h0 => ?_⟩
      have : c = #[] := Array.eq_empty_of_size_eq_zero h0
      subst this
      simp at h
    | _ => simp at h
theorem InsRaw.ev {P : Program} {f TS TE K B : Nat} (h : InsRaw P f TS TE K B) (hK : 0 < K) (hB : 0 < B ∧ B ≤ 1000) {rows : List Row} {id n i : Nat} {cells xs : List AVal} {k : SlK} (hr : rows[id]? = some ⟨cells, K, .fresh⟩) (hl : cells.length = n * K)
    (hd : dataAll cells = true) (ho : ∀ j, j < cells.length → (cells.getD j .undef).one = true) (hx : xs.length = K) (hxd : dataAll xs = true) (hxo : ∀ j, j < xs.length → (xs.getD j .undef).one = true) (hi : i ≤ n) (hn : n ≤ 100000) :
    EvF P f [.row id 0 n, .sc (.int .i64 i), .sl xs 1 k] rows (.sl (cells.take (i * K) ++ xs ++ cells.drop (i * K)) (n + 1) .any) (rows.set id ⟨[], K, .dead⟩) := by
  intro X m w vs hrel hvl
  obtain ⟨hlen, hv⟩ := hvl
  match vs, hlen, hv with
  | [v0, v1, v2], _, hv =>
  have hv0 : V ⟨rows, m, w, X⟩ (.row id 0 n) v0 := hv 0 (by simp)
  have hv1 : V ⟨rows, m, w, X⟩ (.sc (.int .i64 i)) v1 := hv 1 (by simp)
  have hv2 : V ⟨rows, m, w, X⟩ (.sl xs 1 k) v2 := hv 2 (by simp)
  have e1 := hv1.sc_inv
  subst e1
  obtain ⟨vb, vo, vc, us, rfl, hvn, _, _, _, huv, hum⟩ : ∃ (vb vo vc : Nat) (us : Nat → Value), v2 = .slice (some ⟨vb, vo, none⟩) 1 vc ∧ 1 ≤ vc ∧ True ∧ True ∧ True ∧ (∀ j, j < xs.length → V ⟨rows, m, w, X⟩ (xs.getD j .undef) (us j)) ∧ (∀ j, j < xs.length → w.cell? ⟨vb, vo + j, none⟩ = some (us j) ∧ Imm ⟨rows, m, w, X⟩ vb (vo + j)) := by
    rcases hv2.sl_inv with ⟨_, h0, _⟩ | ⟨b, o, cap, us, rfl, hn, _, _, _, hvv, hmm⟩ | ⟨ad, _, h0, _⟩
    · subst h0; simp at hx; omega
    · exact ⟨b, o, cap, us, rfl, hn, trivial, trivial, trivial, hvv, hmm⟩
    · subst h0; simp at hx; omega
  have hinf : ∃ i0 z, P.info? TE = some i0 ∧ i0.zero = some z ∧ i0.size = K ∧ i0.bytes = B ∧ z.cells.size = K := by
    have h := h.inf
    cases hq : P.info? TE with
    | none => rw [hq] at h; cases h
    | some i0 =>
      rw [hq] at h
      cases hq2 : i0.zero with
      | none => simp [hq2] at h
      | some z =>
        simp [hq2] at h
        exact ⟨i0, z, rfl, hq2, h.1, h.2.1, h.2.2⟩
  obtain ⟨i0, z, hi0, hz0, hzs, hzb, hzc⟩ := hinf
  let E : Env := ⟨rows, m, w, X⟩
  have hid : id < rows.length := lt_of_get hr
  rcases Nat.lt_or_ge i n with hin | hin
  · -- in the middle
    obtain ⟨b, cap, rfl, hm, hcap, hoo, hcc⟩ : ∃ b cap, v0 = .slice (some ⟨b, 0, none⟩) n cap ∧ m id = some b ∧ n ≤ cap ∧ True ∧ ∀ j, j < cap * K → (w.cell? ⟨b, j, none⟩).isSome = true := by
      rcases hv0.rowF_inv hr rfl with ⟨b, cap, rfl, h1, h2, h3, h4⟩ | ⟨base, rfl, _, h0, _⟩
      · exact ⟨b, cap, rfl, h1, h2, trivial, fun j hj => by have := h4 j hj; rwa [Nat.zero_add] at this⟩
      · omega
    obtain ⟨c, e, hbk, hbl, hbv⟩ := hrel.block (E := E) hr (.inl rfl) hm
    have hbl : cells.length ≤ c.size := hbl
    have hblt : b < w.heap.size := lt_of_heap hbk
    let cs : List Value := c.toList.take (n * K)
    let ws : List Value := (List.range K).map us
    have hcsl : cs.length = n * K := by show (c.toList.take (n * K)).length = _; rw [List.length_take, Array.length_toList]; omega
    have hwsl : ws.length = K := by simp [ws]
    have hcsg : ∀ j, j < n * K → cs.getD j Go.undef = c.getD j Go.undef := fun j hj => by
      simp only [cs, List.getD_eq_getElem?_getD, List.getElem?_take, if_pos hj, Array.getD_eq_getD_getElem?, Array.getElem?_toList]
    have hwsg : ∀ j, j < K → ws.getD j Go.undef = us j := fun j hj => by simp [ws, List.getD_eq_getElem?_getD, hj]
    have getd : ∀ (l : List Value) (j : Nat) (v : Value), l[j]? = some v → j < l.length ∧ v = l.getD j Go.undef := fun l j v h0 => by
      rcases Nat.lt_or_ge j l.length with h1 | h1
      · exact ⟨h1, by rw [List.getD_eq_getElem?_getD, h0]; rfl⟩
      · rw [List.getElem?_eq_none h1] at h0; cases h0
    have hcs : ∀ (j : Nat) (v : Value), cs[j]? = some v → w.cell? ⟨b, j, none⟩ = some v := fun j v h0 => by
      obtain ⟨h1, rfl⟩ := getd _ _ _ h0
      rw [hcsl] at h1
      rw [hcsg j h1]
      exact cell_getD hbk (by omega)
    have hws : ∀ (j : Nat) (v : Value), ws[j]? = some v → w.cell? ⟨vb, vo + j, none⟩ = some v := fun j v h0 => by
      obtain ⟨h1, rfl⟩ := getd _ _ _ h0
      rw [hwsl] at h1
      rw [hwsg j h1]
      exact (hum j (by omega)).1
    have h1c : ∀ v ∈ cs, v.oneCell' = true := fun v h0 => by
      obtain ⟨j, hj⟩ := List.mem_iff_getElem?.1 h0
      obtain ⟨h1, rfl⟩ := getd _ _ _ hj
      rw [hcsl] at h1
      rw [hcsg j h1]
      exact V.one_of (hbv j (by show j < cells.length; omega)) (ho j (by omega)) (getD_mem hd (by omega))
    have h1v : ∀ v ∈ ws, v.oneCell' = true := fun v h0 => by
      obtain ⟨j, hj⟩ := List.mem_iff_getElem?.1 h0
      obtain ⟨h1, rfl⟩ := getd _ _ _ hj
      rw [hwsl] at h1
      rw [hwsg j h1]
      exact V.one_of (huv j (by omega)) (hxo j (by omega)) (getD_mem hxd (by omega))
    have hvb : vb ≠ b := fun e0 => by
      have := ((hum 0 (by omega)).2.2.2 id ⟨cells, K, .fresh⟩ hr (by simp) (by rw [e0]; exact hm)).1
      simp at this
    have hfz : ∀ j, w.frozen? ⟨b, j, none⟩ = false := fun j => by
      have hbk' : w.heap[b]? = some (.cells c e (0, 0)) := hbk
      simp [World.frozen?, hbk']
    obtain ⟨tA, kA, hsa, hkA⟩ := shape_of_cell (hum 0 (by omega)).1
    have hn0 : 0 < n * K := Nat.mul_pos (by omega) hK
    obtain ⟨tB, kB, hsb, hkB⟩ := shape_of_cell (w := w) (b := b) (o := 0) (cell_getD (o := 0) hbk (by omega))
    have hiK : (i + 1) * K = i * K + K := by rw [Nat.add_mul, Nat.one_mul]
    have hiK2 : i * K + K ≤ n * K := by rw [← hiK]; exact Nat.mul_le_mul_right _ (by omega)
    have hnK : (n + 1) * K = n * K + K := by rw [Nat.add_mul, Nat.one_mul]
    have hdl : (cs.drop (i * K)).length = n * K - i * K := by rw [List.length_drop, hcsl]
    -- what both roads come to
    have fin : ∀ (b' cap' : Nat) (w' : World), n + 1 ≤ cap' → w.heap.size ≤ w'.heap.size → (∀ b2, b2 < w.heap.size → m id ≠ some b2 → w'.heap[b2]? = w.heap[b2]?) → w'.os = w.os → w'.tape = w.tape → w'.output = w.output →
        b' < w'.heap.size → (∀ o, ¬ X b' o) → (∀ (i2 : Nat) (s : Row), i2 ≠ id → rows[i2]? = some s → s.st ≠ .frozen → m i2 ≠ some b') →
        (∀ j, j < (n + 1) * K → w'.cell? ⟨b', j, none⟩ = some ((cs.take (i * K) ++ ws ++ cs.drop (i * K)).getD j Go.undef)) →
        ∃ v m', Ending.returned (.slice (some ⟨b', 0, none⟩) (n + 1) cap') = Ending.returned v ∧ Rel ⟨rows.set id ⟨[], K, .dead⟩, m', w', X⟩ ∧ V ⟨rows.set id ⟨[], K, .dead⟩, m', w', X⟩ (.sl (cells.take (i * K) ++ xs ++ cells.drop (i * K)) (n + 1) .any) v ∧ rows.length ≤ (rows.set id ⟨[], K, .dead⟩).length ∧ Evo rows.length ⟨rows, m, w, X⟩ ⟨rows.set id ⟨[], K, .dead⟩, m', w', X⟩ := by
      intro b' cap' w' hcp hsz hold hos htp hout hb' hx' hf' hcell
      obtain ⟨k1, k2⟩ := dead_step (E := E) hrel hr (by simp) (by simp) (w' := w') hsz (fun b2 h2 h3 => hold b2 h2 (fun h4 => by have := h3 h4; simp at this)) hos htp hout (fun h2 => by simp at h2)
      refine ⟨_, _, rfl, k1, ?_, by simp, k2⟩
      have hcl2 : (cells.take (i * K) ++ xs ++ cells.drop (i * K)).length = (n + 1) * K := by
        simp only [List.length_append, List.length_take, List.length_drop, hl, hx]; omega
      refine V.ofBlock hcp (dataAll_ins hd hxd _) hb' hx' (fun i2 s h1 h2 h3 => ?_) (fun j => (cs.take (i * K) ++ ws ++ cs.drop (i * K)).getD j Go.undef) (fun j hj => ?_) (fun j hj => ?_)
      · rcases get_set_cases h1 with ⟨rfl, rfl, _⟩ | ⟨hne, h1'⟩
        · simp at h3
        · exact hf' i2 s hne h1' h2 (by simpa [hne] using h3)
      · rw [Nat.zero_add]; exact hcell j (by rwa [hcl2] at hj)
      · rw [hcl2] at hj
        show V _ _ ((cs.take (i * K) ++ ws ++ cs.drop (i * K)).getD j Go.undef)
        rw [ins_getD cells xs (i * K) j .undef (by omega), ins_getD cs ws (i * K) j Go.undef (by omega), hx, hwsl]
        have hV : ∀ x v, V E x v → V ⟨rows.set id ⟨[], K, .dead⟩, fun i => if i = id then none else m i, w', X⟩ x v := fun x v h => k2.val x v h h.refLt
        split
        · rw [hcsg j (by omega)]; exact hV _ _ (hbv j (by show j < cells.length; omega))
        · split
          · rw [hwsg _ (by omega)]; exact hV _ _ (huv _ (by omega))
          · rw [hcsg _ (by omega)]; exact hV _ _ (hbv _ (by show _ < cells.length; omega))
    rcases Nat.lt_or_ge cap (n + 1) with hcp | hcp
    · -- a new block
      refine (h.grow b n cap i vb vo vc cs ws w hin hcap hcp (by have : (n + 1) * B ≤ 100001 * 1000 := Nat.mul_le_mul (by omega) hB.2; omega) hvb hcsl hwsl hcs hws h1c h1v).mono ?_
      rintro e' w' ⟨G, R, hG, hR, hRt, rfl, rfl⟩
      let W1 : World := w.drew.alloc (.cells R TE)
      let W2 : World := W1.setCells w.heap.size (i * K) ws
      obtain ⟨p1, p2, p3, p4, p5⟩ := setCells_heap w.heap.size ws (i * K) W1
      obtain ⟨q1, q2, q3, q4, q5⟩ := setCells_heap w.heap.size (cs.drop (i * K)) ((i + 1) * K) W2.drew
      have hs1 : W1.heap.size = w.heap.size + 1 := by show (w.heap.push _).size = _; rw [Array.size_push]
      have hnew : ∀ j, W1.cell? ⟨w.heap.size, j, none⟩ = R[j]? := fun j => World.cell?_alloc_at (w := w.drew) R TE w.heap.size j rfl
      have hsm : ∀ j, j < (n + 1) * K → (W1.cell? ⟨w.heap.size, j, none⟩).isSome = true := fun j hj => by rw [hnew, Array.getElem?_eq_getElem (by omega)]; rfl
      refine fin _ _ _ hG ?_ ?_ ?_ ?_ ?_ ?_ ?_ ?_ ?_
      · rw [q1]; show w.heap.size ≤ W2.heap.size; rw [p1, hs1]; omega
      · intro b2 hb2 _
        rw [q2 b2 (by omega)]; show W2.heap[b2]? = _; rw [p2 b2 (by omega)]; exact alloc_old hb2
      · rw [q3]; exact p3
      · rw [q4]; exact p4
      · rw [q5]; exact p5
      · rw [q1]; show w.heap.size < W2.heap.size; rw [p1, hs1]; omega
      · intro o hx2; exact absurd (hrel.xlt _ _ hx2) (by show ¬ w.heap.size < w.heap.size; omega)
      · intro i2 s hne h1 h2 h3; exact absurd (hrel.lt (E := E) h1 h2 h3) (by show ¬ w.heap.size < w.heap.size; omega)
      · intro j hj
        rw [ins_getD cs ws (i * K) j Go.undef (by omega), hwsl]
        by_cases h1 : j < i * K
        · rw [if_pos h1, World.cell?_setCells_out _ _ _ _ _ (fun _ _ => .inl (by show j < _; omega))]
          show W2.cell? _ = _
          rw [World.cell?_setCells_out _ _ _ _ _ (fun _ _ => .inl (by show j < _; omega)), hnew]
          refine hRt j _ ?_
          rw [List.getElem?_take, if_pos h1, List.getElem?_eq_getElem (by omega), List.getD_eq_getElem?_getD, List.getElem?_eq_getElem (by omega)]; rfl
        · rw [if_neg h1]
          by_cases h2 : j < i * K + K
          · rw [if_pos h2, World.cell?_setCells_out _ _ _ _ _ (fun _ _ => .inl (by show j < _; omega))]
            show W2.cell? _ = _
            have := World.cell?_setCells_in w.heap.size ws (i * K) W1 (fun t ht => hsm _ (by omega)) (j - i * K) (by omega)
            rw [show i * K + (j - i * K) = j by omega] at this
            rw [this, List.getD_eq_getElem?_getD, List.getElem?_eq_getElem (by omega)]; rfl
          · rw [if_neg h2]
            have hs2 : ∀ t, t < (n + 1) * K → (W2.drew.cell? ⟨w.heap.size, t, none⟩).isSome = true := fun t ht => Go.Proofs.isSome_setCells w.heap.size ws (i * K) W1 (fun t ht => hsm _ (by omega)) t (hsm t ht)
            have := World.cell?_setCells_in w.heap.size (cs.drop (i * K)) ((i + 1) * K) W2.drew (fun t ht => hs2 _ (by omega)) (j - (i + 1) * K) (by omega)
            rw [show (i + 1) * K + (j - (i + 1) * K) = j by omega] at this
            rw [this, List.getElem_drop, List.getD_eq_getElem?_getD, List.getElem?_eq_getElem (by omega)]
            simp only [Option.getD_some]
            congr 2; omega
    · refine (h.room b n cap i vb vo vc cs ws w hin hcp (by omega) hvb hcsl hwsl hcs (fun j hj => hcc j (Nat.lt_of_lt_of_le hj (Nat.mul_le_mul_right _ hcp))) hfz hws h1c h1v tA tB kA kB hsa hsb hkA hkB).mono ?_
      rintro e' w' ⟨rfl, rfl⟩
      let W1 : World := w.drew.setCells b ((i + 1) * K) (cs.drop (i * K))
      obtain ⟨p1, p2, p3, p4, p5⟩ := setCells_heap b (cs.drop (i * K)) ((i + 1) * K) w.drew
      obtain ⟨q1, q2, q3, q4, q5⟩ := setCells_heap b ws (i * K) W1
      have hsm : ∀ j, j < (n + 1) * K → (w.drew.cell? ⟨b, j, none⟩).isSome = true := fun j hj => hcc j (Nat.lt_of_lt_of_le hj (Nat.mul_le_mul_right _ hcp))
      have hsm1 : ∀ j, j < (n + 1) * K → (W1.cell? ⟨b, j, none⟩).isSome = true := fun j hj => Go.Proofs.isSome_setCells b _ _ _ (fun t ht => hsm _ (by omega)) _ (hsm j hj)
      refine fin _ _ _ hcp ?_ ?_ ?_ ?_ ?_ ?_ ?_ ?_ ?_
      · rw [q1, p1]; exact Nat.le_refl _
      · intro b2 hb2 hne
        have : b2 ≠ b := fun e0 => hne (by rw [e0]; exact hm)
        rw [q2 b2 this, p2 b2 this]; rfl
      · rw [q3]; exact p3
      · rw [q4]; exact p4
      · rw [q5]; exact p5
      · rw [q1, p1]; exact hblt
      · intro o; exact hrel.xr id _ b hr (by simp) hm o
      · intro i2 s hne h1 h2 h3; exact hne (hrel.inj i2 id s _ b h1 hr h2 (by simp) h3 hm)
      · intro j hj
        rw [ins_getD cs ws (i * K) j Go.undef (by omega), hwsl]
        by_cases h1 : j < i * K
        · rw [if_pos h1, World.cell?_setCells_out _ _ _ _ _ (fun _ _ => .inl (by show j < _; omega)), World.cell?_setCells_out _ _ _ _ _ (fun _ _ => .inl (by show j < _; omega))]
          refine hcs j _ ?_
          rw [List.getD_eq_getElem?_getD, List.getElem?_eq_getElem (by omega)]; rfl
        · rw [if_neg h1]
          by_cases h2 : j < i * K + K
          · rw [if_pos h2]
            have := World.cell?_setCells_in b ws (i * K) W1 (fun t ht => hsm1 _ (by omega)) (j - i * K) (by omega)
            rw [show i * K + (j - i * K) = j by omega] at this
            rw [this, List.getD_eq_getElem?_getD, List.getElem?_eq_getElem (by omega)]; rfl
          · rw [if_neg h2, World.cell?_setCells_out _ _ _ _ _ (fun _ _ => .inr (by show _ ≤ j; omega))]
            have := World.cell?_setCells_in b (cs.drop (i * K)) ((i + 1) * K) w.drew (fun t ht => hsm _ (by omega)) (j - (i + 1) * K) (by omega)
            rw [show (i + 1) * K + (j - (i + 1) * K) = j by omega] at this
            rw [this, List.getElem_drop, List.getD_eq_getElem?_getD, List.getElem?_eq_getElem (by omega)]
            simp only [Option.getD_some]
            congr 2; omega
  · -- at the end
    have hie : i = n := by omega
    subst hie
    obtain ⟨sz, rfl⟩ : ∃ sz, K = sz + 1 := ⟨K - 1, by omega⟩
    have ha : appendA P #[TS, TS] (.row id 0 i) (.sl xs 1 k) rows = some (xs.length = 1 * (sz + 1) ∧ (sz + 1) = sz + 1 ∧ i * (sz + 1) = cells.length ∧ i + 1 ≤ 1073741824 ∧ dataAll (cells ++ xs) = true ∧ ∀ j, j < xs.length → (xs.getD j .undef).one = true, .row id 0 (i + 1), rows.set id ⟨cells ++ xs, sz + 1, .grown⟩) := by
      simp only [appendA, List.getElem?_toArray, List.getElem?_cons_zero, List.getElem?_cons_succ, h.und, hi0, hzs, hz0]
      rw [if_neg (by rw [hzb, hzc]; omega)]
      simp [srcA, h.und, hr]
    have hdx : dataAll (cells ++ xs) = true := by rw [dataAll_append, hd, hxd]; rfl
    obtain ⟨q, w', m', hrun, k1, k2, _, k3⟩ := append_spec (ty := TS) ha ⟨by omega, rfl, hl.symm, by omega, hdx, hxo⟩ hrel hv0 hv2
    have hgo : ∃ base cap, v0 = .slice base i cap ∧ i ≤ cap ∧ (base = none → cap = 0) := by
      rcases hv0.rowF_inv hr rfl with ⟨b, cap, rfl, h1, h2, h3, h4⟩ | ⟨base, rfl, _, rfl, _⟩
      · exact ⟨_, cap, rfl, h2, fun h => by cases h⟩
      · exact ⟨base, 0, rfl, Nat.le_refl _, fun _ => rfl⟩
    obtain ⟨base, cap, rfl, hic, hnil⟩ := hgo
    refine (h.fin base _ i cap vc w w' q hic hnil hrun).mono ?_
    rintro e' W ⟨rfl, rfl⟩
    let r1 : Row := ⟨cells ++ xs, sz + 1, .grown⟩
    have hr1 : (rows.set id r1)[id]? = some r1 := get_set_same hr
    obtain ⟨f1, f2⟩ := freeze_step (E := ⟨rows.set id r1, m', W, X⟩) k1 hr1 (.inr rfl) hdx
    have hr2 : ((rows.set id r1).set id { r1 with st := .frozen })[id]? = some { r1 with st := .frozen } := get_set_same hr1
    have hq := V.rowAt (f2.val _ _ k2 k2.refLt) hr2 rfl hdx
    obtain ⟨d1, d2⟩ := dead_step (E := ⟨(rows.set id r1).set id { r1 with st := .frozen }, m', W, X⟩) f1 hr2 (by simp) (by simp) (w' := W) (Nat.le_refl _) (fun _ _ _ => rfl) rfl rfl rfl (fun h => by simp at h)
    have e2 : ((rows.set id r1).set id { r1 with st := .frozen }).set id ⟨[], sz + 1, .dead⟩ = rows.set id ⟨[], sz + 1, .dead⟩ := by simp [List.set_set]
    have d1' : Rel ⟨((rows.set id r1).set id { r1 with st := .frozen }).set id ⟨[], sz + 1, .dead⟩, _, W, X⟩ := d1
    have d2' : Evo _ _ ⟨((rows.set id r1).set id { r1 with st := .frozen }).set id ⟨[], sz + 1, .dead⟩, _, W, X⟩ := d2
    have hq2 := d2'.val _ _ hq hq.refLt
    rw [e2] at d1' d2' hq2
    refine ⟨q, _, rfl, d1', ?_, by simp, (k3.trans (f2.mono (by simp))).trans (d2'.mono (by simp))⟩
    have e3 : (List.take ((i + 1) * (sz + 1)) (List.drop 0 (cells ++ xs))) = cells.take (i * (sz + 1)) ++ xs ++ cells.drop (i * (sz + 1)) := by
      have h1 : (i + 1) * (sz + 1) = i * (sz + 1) + (sz + 1) := by rw [Nat.add_mul, Nat.one_mul]
      rw [List.drop_zero, List.take_of_length_le (by rw [List.length_append]; omega), List.take_of_length_le (by omega), List.drop_of_length_le (by omega), List.append_nil]
    rw [← e3]
    exact hq2
/-- slices.Insert of one element into a fresh row. -/
theorem InsRaw.evK {P : Program} {f TS TE K B : Nat} (h : InsRaw P f TS TE K B) (hK : 0 < K) (hB : 0 < B ∧ B ≤ 1000) {n i : Nat} {cells xs out : List AVal} (hl : cells.length = n * K)
    (hd : dataAll cells = true) (ho : ∀ j, j < cells.length → (cells.getD j .undef).one = true) (hx : xs.length = K) (hxd : dataAll xs = true) (hxo : ∀ j, j < xs.length → (xs.getD j .undef).one = true) (hi : i ≤ n) (hn : n ≤ 100000) (hout : out = cells.take (i * K) ++ xs ++ cells.drop (i * K)) :
    EvK P f [.row 0 0 n, .sc (.int .i64 i), .sl xs 1 .any] ⟨cells, K, .fresh⟩ (.sl out (n + 1) .any) ⟨[], K, .dead⟩ := fun rows id hr => by
  subst hout
  exact h.ev hK hB hr hl hd ho hx hxd hxo hi hn
end Go.Abs

set_option linter.unusedVariables false
set_option linter.unusedSimpArgs false
namespace Go.Abs
open Go
/-- A function that is given one fresh row, and leaves it fresh, is the same wherever the row lies. -/
theorem EvF.frameF {P : Program} {f : FuncId} {args : List AVal} {res : AVal} {r0 r1 : Row} (h : EvF P f args [r0] res [r1]) (hs0 : r0.st = .fresh) (hs1 : r1.st = .fresh) (hd0 : ltAll 0 r0.cells = true) (hd1 : ltAll 0 r1.cells = true)
    (hesz : r1.esz = r0.esz) (hlen : r1.cells.length = r0.cells.length) (hez : 0 < r0.esz) (hle : r0.esz ≤ r0.cells.length) (hargs : ltAll 1 args = true) (hres : res.refLt 0 = true) (rows : List Row) (id : Nat) (hr : rows[id]? = some r0) :
    EvF P f (renAll (fun _ => id) args) rows res (rows.set id r1) := by
  intro X m w vs hrel hvl
  have hns0 : r0.st ≠ .frozen := by rw [hs0]; simp
  have hns1 : r1.st ≠ .frozen := by rw [hs1]; simp
  let E : Env := ⟨rows, m, w, X⟩
  let X2 : Nat → Nat → Prop := fun b o => b < w.heap.size ∧ ¬ Imm E b o ∧ m id ≠ some b
  let E1 : Env := ⟨rows, m, w, X2⟩
  let E2 : Env := ⟨[r0], fun _ => m id, w, X2⟩
  -- what is seen stays
  have hE1 : ∀ x v, V E x v → V E1 x v := fun x v hv => by
    refine V.mono (E := E) (E' := E1) (N := rows.length) ?_ (fun i s _ hs => ⟨s, hs, RowEvo.keep rfl (fun _ _ _ _ hc => hc)⟩) hv hv.refLt
    intro b o u hi hc
    exact ⟨⟨hi.1, fun hx => hx.2.1 hi, hi.2.2⟩, hc⟩
  have hA : ∀ x v, V E (x.ren fun _ => id) v → x.refLt 1 = true → V E2 x v := fun x v hv hx => by
    refine V.unren (E1 := E1) (E2 := E2) (ρ := fun _ => id) rfl rfl ?_ (fun i hi => rfl) (hE1 _ _ hv) x rfl hx
    intro i r hi
    have : i = 0 ∧ r = r0 := by
      cases i with
      | zero => simp [E2] at hi; exact ⟨rfl, hi.symm⟩
      | succ i => simp [E2] at hi
    obtain ⟨rfl, rfl⟩ := this
    show rows[id]? = some (r.ren _)
    rw [hr]
    have : r.ren (fun _ => id) = r := by
      unfold Row.ren
      rw [renAll_lt (N := 0) (fun _ h => absurd h (by omega)) _ hd0]
    rw [this]
  have hone : ∀ (i : Nat) (r : Row), E2.rows[i]? = some r → i = 0 ∧ r = r0 := by
    intro i r hi
    cases i with
    | zero => simp [E2] at hi; exact ⟨rfl, hi.symm⟩
    | succ i => simp [E2] at hi
  have hrel2 : Rel E2 := by
    refine ⟨fun b o hx => hx.1, ?_, ?_, ?_, ?_, ?_⟩
    · intro i r b hi _ hm o hx; exact hx.2.2 hm
    · intro i j r s b hi hj _ _ _ _; rw [(hone i r hi).1, (hone j s hj).1]
    · intro i r hi hns hnm
      obtain ⟨rfl, rfl⟩ := hone i r hi
      rcases hrel.own id r hr hns hnm with h' | ⟨b, c, e, k1, k2, k3, k4⟩
      · exact .inl h'
      · refine .inr ⟨b, c, e, k1, k2, k3, fun j hj => ?_⟩
        have hdj := (ltAll_iff _ _).1 hd0 j hj
        exact hA _ _ (by rw [AVal.ren_lt (N := 0) (fun _ h => absurd h (by omega)) _ hdj]; exact k4 j hj) (AVal.lt_mono (Nat.zero_le _) _ hdj)
    · intro i r hi hg; rw [(hone i r hi).2, hs0] at hg; simp at hg
    · intro i r hi hg; rw [(hone i r hi).2, hs0] at hg; simp at hg
  have hvl2 : VL E2 args vs := by
    refine ⟨by have := hvl.1; rw [renAll_length] at this; exact this, fun i hi => ?_⟩
    refine hA _ _ ?_ ((ltAll_iff _ _).1 hargs i hi)
    have := hvl.2 i (by rw [renAll_length]; exact hi)
    rw [renAll_getD] at this
    exact this
  refine (h X2 (fun _ => m id) w vs hrel2 hvl2).mono ?_
  rintro e w' ⟨v, m', rfl, h1, h2, h3, h4⟩
  let F2 : Env := ⟨[r1], m', w', X2⟩
  let F : Env := ⟨rows.set id r1, m, w', X⟩
  have hsz : w.heap.size ≤ w'.heap.size := h4.size
  have hfree : ∀ b, m id ≠ some b → Free E2 b := fun b hb i r hi _ hm => hb hm
  have hold : ∀ b, b < w.heap.size → m id ≠ some b → w'.heap[b]? = w.heap[b]? := fun b hb hm => (h4.free b hb (hfree b hm)).1
  -- the block of the row
  obtain ⟨b0, c0, e0, hm0, hbk0, hbl0, hbv0⟩ : ∃ b c e, m id = some b ∧ w.heap[b]? = some (.cells c e (0, 0)) ∧ r0.cells.length ≤ c.size ∧ ∀ j, j < r0.cells.length → V E (r0.cells.getD j .undef) (c.getD j Go.undef) := by
    rcases hrel.own id r0 hr hns0 (by rw [hs0]; simp) with ⟨_, h0⟩ | ⟨b, c, e, k1, k2, k3, k4⟩
    · rw [h0] at hle; simp at hle; omega
    · exact ⟨b, c, e, k1, k2, k3, k4⟩
  have hm1 : m' 0 = some b0 := by
    have hp : V E2 (.ptr 0 0) (.pointer (some ⟨b0, 0, none⟩)) := .ptr 0 0 r0 b0 rfl hs0 hm0
    have hp2 := h4.val _ _ hp (by simp [AVal.refLt])
    obtain ⟨b, e1, e2⟩ := hp2.ptr_inv (r := r1) rfl hs1
    cases e1; exact e2
  have hone1 : ∀ (i : Nat) (r : Row), F2.rows[i]? = some r → i = 0 ∧ r = r1 := by
    intro i r hi
    cases i with
    | zero => simp [F2] at hi; exact ⟨rfl, hi.symm⟩
    | succ i => simp [F2] at hi
  obtain ⟨c1, e1, hbk1, hbl1, hbv1⟩ := h1.block (r := r1) (id := 0) rfl (.inl hs1) hm1
  have hbk1 : w'.heap[b0]? = some (.cells c1 e1 (0, 0)) := hbk1
  -- all cells stay
  have hstay : ∀ o, (w.cell? ⟨b0, o, none⟩).isSome = true → (w'.cell? ⟨b0, o, none⟩).isSome = true := by
    intro o ho
    have hbk0' : w.heap[b0]? = some (.cells c0 e0 (0, 0)) := hbk0
    rw [isSome_cell hbk0'] at ho
    have ho : o < c0.size := ho
    rcases Nat.lt_or_ge o r0.cells.length with h5 | h5
    · rw [isSome_cell hbk1]
      have : r1.cells.length ≤ c1.size := hbl1
      show o < c1.size
      omega
    · have hmod : c0.size % r0.esz < r0.esz := Nat.mod_lt _ hez
      have hdm : r0.esz * (c0.size / r0.esz) + c0.size % r0.esz = c0.size := Nat.div_add_mod _ _
      have hrow : V E2 (.row 0 (c0.size % r0.esz) 0) (.slice (some ⟨b0, c0.size % r0.esz, none⟩) 0 (c0.size / r0.esz)) := by
        refine .rowF 0 _ 0 b0 _ r0 rfl hs0 hm0 (Nat.zero_le _) (by omega) (fun i hi => ?_)
        show (w.cell? _).isSome = true
        rw [isSome_cell hbk0']
        rw [Nat.mul_comm] at hi
        show _ < c0.size
        omega
      have hrow2 := h4.val _ _ hrow (by simp [AVal.refLt])
      rcases hrow2.rowF_inv (r := r1) rfl hs1 with ⟨b2, cap2, hv2, hm2, hn2, ho2, hcc2⟩ | ⟨base, hv2, _, _, _⟩
      · injection hv2 with g1 g2 g3
        injection g1 with g1
        injection g1 with g1
        subst g1 g3
        have := hcc2 (o - c0.size % r0.esz) (by rw [hesz, Nat.mul_comm]; omega)
        rwa [show c0.size % r0.esz + (o - c0.size % r0.esz) = o by omega] at this
      · injection hv2 with _ _ h6
        have h8 : r0.esz ≤ c0.size := by omega
        have := Nat.div_pos h8 hez
        omega
  -- from the inner world to the outer one
  have hI2 : ∀ b o u, Imm F2 b o → w'.cell? ⟨b, o, none⟩ = some u → Imm F b o ∧ w'.cell? ⟨b, o, none⟩ = some u := by
    intro b o u hi hc
    refine ⟨⟨hi.1, fun hx => ?_, fun i s hs hns hm => ?_⟩, hc⟩
    · have hb := hrel.xlt b o hx
      exact hi.2.1 ⟨hb, fun hh => hh.2.1 hx, fun hm => hrel.xr id r0 b hr hns0 hm o hx⟩
    · rcases get_set_cases hs with ⟨rfl, rfl, _⟩ | ⟨hne, hs'⟩
      · have hmb : b0 = b := by
          have hm' : m i = some b := hm
          rw [hm0] at hm'; cases hm'; rfl
        subst hmb
        have := (hi.2.2 0 s rfl hns hm1).1
        rw [hs1] at this; simp at this
      · have hb := hrel.lt hs' hns hm
        have hii : Imm E b o := Classical.byContradiction fun hn => hi.2.1 ⟨hb, hn, fun hm2 => hne (hrel.inj i id s r0 b hs' hr hns hns0 hm hm2)⟩
        exact hii.2.2 i s hs' hns hm
  have hD2 : ∀ x u, x.refLt 0 = true → V F2 x u → V F x u := fun x u hd hv => V.mono (N := 0) hI2 (fun i s hi _ => absurd hi (by omega)) hv hd
  have hnm : ∀ b o, Imm E b o → m id ≠ some b := fun b o hi hm => by
    have := (hi.2.2 id r0 hr hns0 hm).1
    rw [hs0] at this; simp at this
  -- the old values
  have hIo : ∀ b o u, Imm E b o → w.cell? ⟨b, o, none⟩ = some u → Imm F b o ∧ w'.cell? ⟨b, o, none⟩ = some u := by
    intro b o u hi hc
    refine ⟨⟨Nat.lt_of_lt_of_le hi.1 hsz, hi.2.1, fun i s hs hns hm => ?_⟩, by rw [cell_congr (hold b hi.1 (hnm b o hi))]; exact hc⟩
    rcases get_set_cases hs with ⟨rfl, rfl, _⟩ | ⟨hne, hs'⟩
    · exact absurd hm (hnm b o hi)
    · exact hi.2.2 i s hs' hns hm
  have hRo : ∀ (i : Nat) (s : Row), i < rows.length → E.rows[i]? = some s → ∃ s', F.rows[i]? = some s' ∧ RowEvo E F i s s' := by
    intro i s _ hs
    by_cases hi : i = id
    · subst hi
      have hs' : rows[i]? = some s := hs
      rw [hr] at hs'; cases hs'
      refine ⟨r1, get_set_same hr, RowEvo.fresh hs0 hs1 hesz rfl hlen (fun b o hm hc => ?_)⟩
      have hm' : m i = some b := hm
      rw [hm0] at hm'; cases hm'
      exact hstay o hc
    · refine ⟨s, by show (rows.set id r1)[i]? = _; rw [get_set_other hi]; exact hs, RowEvo.keep rfl ?_⟩
      intro hst b o hm hc
      have hns : s.st ≠ .frozen := by rcases hst with h' | h' <;> simp [h']
      have hne : m id ≠ some b := fun hm2 => hi (hrel.inj i id s r0 b hs hr hns hns0 hm hm2)
      show (w'.cell? _).isSome = true
      rw [cell_congr (hold b (hrel.lt hs hns hm) hne)]; exact hc
  have hV : ∀ x u, V E x u → V F x u := fun x u hv => V.mono (N := rows.length) hIo hRo hv hv.refLt
  refine ⟨v, m, rfl, ⟨fun b o hx => Nat.lt_of_lt_of_le (hrel.xlt b o hx) hsz, ?_, ?_, ?_, ?_, ?_⟩, hD2 _ _ hres h2, by simp, ⟨fun x u hv _ => hV x u hv, hsz, fun b hb hf => ?_, h4.os, h4.tape, h4.output, hIo⟩⟩
  · intro i s b hs hns hm
    rcases get_set_cases hs with ⟨rfl, rfl, _⟩ | ⟨hne, hs'⟩
    · exact hrel.xr i r0 b hr hns0 hm
    · exact hrel.xr i s b hs' hns hm
  · intro i j s t b hs ht hns hnt hm1 hm2
    have key : ∀ (i : Nat) (s : Row), (rows.set id r1)[i]? = some s → s.st ≠ .frozen → ∃ s', rows[i]? = some s' ∧ s'.st ≠ .frozen := fun i s hs hns => by
      rcases get_set_cases hs with ⟨rfl, rfl, _⟩ | ⟨_, hs'⟩
      · exact ⟨r0, hr, hns0⟩
      · exact ⟨s, hs', hns⟩
    obtain ⟨s', p1, p2⟩ := key i s hs hns
    obtain ⟨t', q1, q2⟩ := key j t ht hnt
    exact hrel.inj i j s' t' b p1 q1 p2 q2 hm1 hm2
  · intro i s hs hns hnm'
    rcases get_set_cases hs with ⟨rfl, rfl, _⟩ | ⟨hne, hs'⟩
    · exact .inr ⟨b0, c1, e1, hm0, hbk1, hbl1, fun j hj => hD2 _ _ ((ltAll_iff _ _).1 hd1 j hj) (hbv1 j hj)⟩
    · rcases hrel.own i s hs' hns hnm' with h' | ⟨b, c, e, k1, k2, k3, k4⟩
      · exact .inl h'
      · have hmne : m id ≠ some b := fun hm2 => hne (hrel.inj i id s r0 b hs' hr hns hns0 k1 hm2)
        exact .inr ⟨b, c, e, k1, (hold b (lt_of_heap k2) hmne).trans k2, k3, fun j hj => hV _ _ (k4 j hj)⟩
  · intro i s hs hg
    rcases get_set_cases hs with ⟨rfl, rfl, _⟩ | ⟨hne, hs'⟩
    · rw [hs1] at hg; simp at hg
    · exact hrel.grown i s hs' hg
  · intro i s hs hg
    rcases get_set_cases hs with ⟨rfl, rfl, _⟩ | ⟨hne, hs'⟩
    · rw [hs1] at hg; simp at hg
    · obtain ⟨b, es, k, k1, k2, k3, k4⟩ := hrel.map i s hs' hg
      have hmne : m id ≠ some b := fun hm2 => hne (hrel.inj i id s r0 b hs' hr (by rw [hg]; simp) hns0 k1 hm2)
      exact ⟨b, es, k, k1, (hold b (lt_of_heap k2) hmne).trans k2, k3, fun j hj => ⟨hV _ _ (k4 j hj).1, hV _ _ (k4 j hj).2⟩⟩
  · have hmne : m id ≠ some b := fun hm2 => hf id r0 hr hns0 hm2
    refine ⟨hold b hb hmne, fun i s hs hns hm => ?_⟩
    rcases get_set_cases hs with ⟨rfl, rfl, _⟩ | ⟨hne, hs'⟩
    · exact hmne hm
    · exact hf i s hs' hns hm
theorem EvK.ofF {P : Program} {f : FuncId} {args : List AVal} {r0 r1 : Row} {res : AVal} (h0 : EvF P f args [r0] res [r1]) (h1 : r0.st = .fresh ∧ r1.st = .fresh ∧ ltAll 0 r0.cells = true ∧ ltAll 0 r1.cells = true ∧ r1.esz = r0.esz ∧ r1.cells.length = r0.cells.length ∧ 0 < r0.esz ∧ r0.esz ≤ r0.cells.length ∧ ltAll 1 args = true ∧ res.refLt 0 = true) : EvK P f args r0 res r1 := by
  obtain ⟨h1, h2, h3, h4, h5, h6, h7, h8, h9, h10⟩ := h1
  exact fun rows id hr => EvF.frameF h0 h1 h2 h3 h4 h5 h6 h7 h8 h9 h10 rows id hr
end Go.Abs

set_option linter.unusedVariables false
set_option linter.unusedSimpArgs false
namespace Go.Abs
open Go
theorem run_clearK {P : Program} (w : World) (t ty e : TypeId) (i : TypeInfo) (z : Value) (ht : P.underlying t = some (.slice e)) (hi : P.info? e = some i) (hz : i.zero = some z) (b off n cap : Nat) (hn : n ≠ 0)
    (hc : ∀ j, j < (Builtin.zeroCells z.cells n).size → (w.cell? ⟨b, off + j, none⟩).isSome = true) (hf : ∀ j, w.frozen? ⟨b, off + j, none⟩ = false) (h1 : ∀ v ∈ (Builtin.zeroCells z.cells n).toList, v.oneCell' = true) :
    (Builtin.clear_ #[t] ty #[.slice (some ⟨b, off, none⟩) n cap]).run P w = .ok (.tuple #[]) (w.setCells b off (Builtin.zeroCells z.cells n).toList) := by
  have hst := run_storeCells_cells (P := P) b off (Builtin.zeroCells z.cells n).toList 0 w (by simpa using hc) (fun j _ => by simpa using hf j) h1
  cases n with
  | zero => exact absurd rfl hn
  | succ n =>
    simp only [Nat.add_zero] at hst
    simp [Builtin.clear_, run_underlying ht, zeroValue, typeInfo, hi, hz, hst]
/-- What slices.Delete of one element does to the memory. -/
structure DelRaw (P : Program) (f TS TE K : Nat) : Prop where
  run : ∀ (b n c i : Nat) (cs : List Value) (w : World) (hi : i < n) (hnc : n ≤ c) (hn9 : n ≤ 1000000000) (hcl : cs.length = n * K)
    (hcs : ∀ j v, cs[j]? = some v → w.cell? ⟨b, j, none⟩ = some v) (hfz : ∀ j, w.frozen? ⟨b, j, none⟩ = false) (h1c : ∀ v ∈ cs, v.oneCell' = true),
    Calls P f #[.slice (some ⟨b, 0, none⟩) n c, .int .i64 i, .int .i64 ((i : Int) + 1)] w fun e w' =>
      e = .returned (.slice (some ⟨b, 0, none⟩) (n - 1) c) ∧ ∃ zs : List Value, zs.length = K ∧ w' = (w.drew.setCells b (i * K) (cs.drop ((i + 1) * K))).setCells b ((n - 1) * K) zs
theorem del_getD {α : Type} (l : List α) (a k j : Nat) (d : α) (ha : a + k ≤ l.length) : (l.take a ++ l.drop (a + k)).getD j d = if j < a then l.getD j d else l.getD (j + k) d := by
  simp only [List.getD_eq_getElem?_getD]
  have h1 : (l.take a).length = a := by rw [List.length_take]; omega
  by_cases h : j < a
  · rw [if_pos h, List.getElem?_append_left (by omega), List.getElem?_take, if_pos h]
  · rw [if_neg h, List.getElem?_append_right (by omega), h1, List.getElem?_drop]
    congr 2; omega
theorem DelRaw.evK {P : Program} {f TS TE K : Nat} (h : DelRaw P f TS TE K) (hK : 0 < K) {n i : Nat} {cells out : List AVal} (hl : cells.length = n * K)
    (hd : dataAll cells = true) (ho : ∀ j, j < cells.length → (cells.getD j .undef).one = true) (hi : i < n) (hn : n ≤ 100000) (hout : out = cells.take (i * K) ++ cells.drop ((i + 1) * K)) :
    EvK P f [.row 0 0 n, .sc (.int .i64 i), .sc (.int .i64 ((i : Int) + 1))] ⟨cells, K, .fresh⟩ (.sl out (n - 1) .any) ⟨[], K, .dead⟩ := fun rows id hr => by
  subst hout
  intro X m w vs hrel hvl
  obtain ⟨hlen, hv⟩ := hvl
  match vs, hlen, hv with
  | [v0, v1, v2], _, hv =>
  have hv0 : V ⟨rows, m, w, X⟩ (.row id 0 n) v0 := hv 0 (by simp [renAll])
  have hv1 : V ⟨rows, m, w, X⟩ (.sc (.int .i64 i)) v1 := hv 1 (by simp [renAll])
  have hv2 : V ⟨rows, m, w, X⟩ (.sc (.int .i64 ((i : Int) + 1))) v2 := hv 2 (by simp [renAll])
  have e1 := hv1.sc_inv
  have e2 := hv2.sc_inv
  subst e1; subst e2
  let E : Env := ⟨rows, m, w, X⟩
  obtain ⟨b, cap, rfl, hm, hcap⟩ : ∃ b cap, v0 = .slice (some ⟨b, 0, none⟩) n cap ∧ m id = some b ∧ n ≤ cap := by
    rcases hv0.rowF_inv hr rfl with ⟨b, cap, rfl, h1, h2, h3, h4⟩ | ⟨base, rfl, _, h0, _⟩
    · exact ⟨b, cap, rfl, h1, h2⟩
    · omega
  obtain ⟨c, e, hbk, hbl, hbv⟩ := hrel.block (E := E) hr (.inl rfl) hm
  have hbl : cells.length ≤ c.size := hbl
  have hblt : b < w.heap.size := lt_of_heap hbk
  let cs : List Value := c.toList.take (n * K)
  have hcsl : cs.length = n * K := by show (c.toList.take (n * K)).length = _; rw [List.length_take, Array.length_toList]; omega
  have hcsg : ∀ j, j < n * K → cs.getD j Go.undef = c.getD j Go.undef := fun j hj => by
    simp only [cs, List.getD_eq_getElem?_getD, List.getElem?_take, if_pos hj, Array.getD_eq_getD_getElem?, Array.getElem?_toList]
  have getd : ∀ (l : List Value) (j : Nat) (v : Value), l[j]? = some v → j < l.length ∧ v = l.getD j Go.undef := fun l j v h0 => by
    rcases Nat.lt_or_ge j l.length with h1 | h1
    · exact ⟨h1, by rw [List.getD_eq_getElem?_getD, h0]; rfl⟩
    · rw [List.getElem?_eq_none h1] at h0; cases h0
  have hcs : ∀ (j : Nat) (v : Value), cs[j]? = some v → w.cell? ⟨b, j, none⟩ = some v := fun j v h0 => by
    obtain ⟨h1, rfl⟩ := getd _ _ _ h0
    rw [hcsl] at h1
    rw [hcsg j h1]
    exact cell_getD hbk (by omega)
  have h1c : ∀ v ∈ cs, v.oneCell' = true := fun v h0 => by
    obtain ⟨j, hj⟩ := List.mem_iff_getElem?.1 h0
    obtain ⟨h1, rfl⟩ := getd _ _ _ hj
    rw [hcsl] at h1
    rw [hcsg j h1]
    exact V.one_of (hbv j (by show j < cells.length; omega)) (ho j (by omega)) (getD_mem hd (by omega))
  have hfz : ∀ j, w.frozen? ⟨b, j, none⟩ = false := fun j => by
    have hbk' : w.heap[b]? = some (.cells c e (0, 0)) := hbk
    simp [World.frozen?, hbk']
  have hiK : (i + 1) * K = i * K + K := by rw [Nat.add_mul, Nat.one_mul]
  have hiK2 : i * K + K ≤ n * K := by rw [← hiK]; exact Nat.mul_le_mul_right _ (by omega)
  have hnK : n * K = (n - 1) * K + K := by rw [← Nat.succ_mul]; congr 1; omega
  have hdl : (cs.drop ((i + 1) * K)).length = n * K - (i * K + K) := by rw [List.length_drop, hcsl, hiK]
  refine (h.run b n cap i cs w hi hcap (by omega) hcsl hcs hfz h1c).mono ?_
  rintro e' w' ⟨rfl, zs, hzs, rfl⟩
  let W1 : World := w.drew.setCells b (i * K) (cs.drop ((i + 1) * K))
  obtain ⟨p1, p2, p3, p4, p5⟩ := setCells_heap b (cs.drop ((i + 1) * K)) (i * K) w.drew
  obtain ⟨q1, q2, q3, q4, q5⟩ := setCells_heap b zs ((n - 1) * K) W1
  have hsm : ∀ j, j < n * K → (w.drew.cell? ⟨b, j, none⟩).isSome = true := fun j hj => by
    have hbk' : w.heap[b]? = some (.cells c e (0, 0)) := hbk
    show (w.cell? _).isSome = true
    rw [isSome_cell hbk']
    show j < c.size; omega
  obtain ⟨k1, k2⟩ := dead_step (E := E) hrel hr (by simp) (by simp) (w' := W1.setCells b ((n - 1) * K) zs) (by rw [q1, p1]; exact Nat.le_refl _)
    (fun b2 h2 h3 => by
      have : b2 ≠ b := fun e0 => by have := h3 (by rw [e0]; exact hm); simp at this
      rw [q2 b2 this, p2 b2 this]; rfl) (by rw [q3]; exact p3) (by rw [q4]; exact p4) (by rw [q5]; exact p5) (fun h2 => by simp at h2)
  refine ⟨_, _, rfl, k1, ?_, by simp, k2⟩
  have hcl2 : (cells.take (i * K) ++ cells.drop ((i + 1) * K)).length = (n - 1) * K := by
    simp only [List.length_append, List.length_take, List.length_drop, hl]; omega
  refine V.ofBlock (by omega) (by rw [dataAll_append, dataAll_take _ hd, dataAll_drop _ hd]; rfl) (by show b < (W1.setCells b ((n - 1) * K) zs).heap.size; rw [q1, p1]; exact hblt) (fun o => hrel.xr id _ b hr (by simp) hm o) (fun i2 s h1 h2 h3 => ?_) (fun j => (cs.take (i * K) ++ cs.drop ((i + 1) * K)).getD j Go.undef) (fun j hj => ?_) (fun j hj => ?_)
  · rcases get_set_cases h1 with ⟨rfl, rfl, _⟩ | ⟨hne, h1'⟩
    · simp at h3
    · exact hne (hrel.inj i2 id s _ b h1' hr h2 (by simp) (by simpa [hne] using h3) hm)
  · rw [hcl2] at hj
    rw [Nat.zero_add]
    show (W1.setCells b ((n - 1) * K) zs).cell? _ = some ((cs.take (i * K) ++ cs.drop ((i + 1) * K)).getD j Go.undef)
    rw [hiK, del_getD cs (i * K) K j Go.undef (by omega), World.cell?_setCells_out _ _ _ _ _ (fun _ _ => .inl (by show j < _; omega))]
    by_cases h1 : j < i * K
    · rw [if_pos h1, World.cell?_setCells_out _ _ _ _ _ (fun _ _ => .inl (by show j < _; omega))]
      refine hcs j _ ?_
      rw [List.getD_eq_getElem?_getD, List.getElem?_eq_getElem (by omega)]; rfl
    · rw [if_neg h1]
      have := World.cell?_setCells_in b (cs.drop ((i + 1) * K)) (i * K) w.drew (fun t ht => hsm _ (by omega)) (j - i * K) (by omega)
      rw [show i * K + (j - i * K) = j by omega] at this
      show W1.cell? _ = _
      rw [this, List.getElem_drop, List.getD_eq_getElem?_getD, List.getElem?_eq_getElem (by omega)]
      simp only [Option.getD_some]
      congr 2; omega
  · rw [hcl2] at hj
    show V _ _ ((cs.take (i * K) ++ cs.drop ((i + 1) * K)).getD j Go.undef)
    have e3 : (cells.take (i * K) ++ cells.drop ((i + 1) * K)).getD j .undef = if j < i * K then cells.getD j .undef else cells.getD (j + K) .undef := by rw [hiK]; exact del_getD cells (i * K) K j .undef (by omega)
    have e4 : (cs.take (i * K) ++ cs.drop ((i + 1) * K)).getD j Go.undef = if j < i * K then cs.getD j Go.undef else cs.getD (j + K) Go.undef := by rw [hiK]; exact del_getD cs (i * K) K j Go.undef (by omega)
    rw [e3, e4]
    have hV : ∀ x v, V E x v → V ⟨rows.set id ⟨[], K, .dead⟩, fun i => if i = id then none else m i, W1.setCells b ((n - 1) * K) zs, X⟩ x v := fun x v h => k2.val x v h h.refLt
    split
    · rw [hcsg j (by omega)]; exact hV _ _ (hbv j (by show j < cells.length; omega))
    · rw [hcsg _ (by omega)]; exact hV _ _ (hbv _ (by show _ < cells.length; omega))
end Go.Abs

set_option linter.unusedVariables false
set_option linter.unusedSimpArgs false
namespace Go.Abs
open Go
end Go.Abs

set_option linter.unusedVariables false
set_option linter.unusedSimpArgs false
namespace Go.Abs
open Go
/-! ### A call whose contract names all rows -/
theorem EvF.anyArgs {P : Program} {f : FuncId} {args args' : List AVal} {rows rows0 rows' : List Row} {r : AVal} (h : EvF P f args rows r rows') (ha : anyAll args' = args) (hr : rows0 = rows) : EvF P f args' rows0 r rows' := by
  subst hr ha
  exact fun X m w vs hrel hvl => h X m w vs hrel hvl.anyAll
theorem DerQ.callM {P : Program} {ops : Array Oper} {o : Oper} {l : List Oper} {st : St} {K : St → Prop} {f : FuncId} {args : List AVal} {rows rows' : List Row} {r : AVal} (he : EvF P f args rows r rows') (args' : List AVal) (st1 : St)
    (h : wantA ops o st.regs = some true ∧ Abs.callA P o (ev st.regs) = some (f, args') ∧ st.rows = rows ∧ anyAll args' = args ∧ st.put o.dst r rows' = st1) (hk : DerQ P ops l st1 K) : DerQ P ops (o :: l) st K := by
  obtain ⟨h1, h2, h3, h4, h6⟩ := h
  exact DerQ.call (he.anyArgs h4 h3) st1 ⟨h1, h2, h6⟩ hk
end Go.Abs

set_option linter.unusedVariables false
set_option linter.unusedSimpArgs false
namespace Go.Abs
open Go
/-! ### Iterators that write into one row of the caller's -/
/-- The iterator's world: that row alone. -/
def E1 (b : Nat) (r : Row) (W : World) (X : Nat → Nat → Prop) : Env := ⟨[r], fun _ => some b, W, X⟩
def RowS (L s : Nat) (r : Row) : Prop := r.st = .fresh ∧ ltAll 0 r.cells = true ∧ r.esz = s ∧ r.cells.length = L
/-- What of the caller's other cells may yet be written. -/
def Xof1 (rows : List Row) (id : Nat) (m : Nat → Option Nat) (X : Nat → Nat → Prop) (b o : Nat) : Prop :=
  X b o ∨ ∃ (j : Nat) (r : Row), j ≠ id ∧ rows[j]? = some r ∧ r.st ≠ .frozen ∧ m j = some b ∧ ¬ (r.st = .grown ∧ o < r.cells.length)
section
variable {rows : List Row} {id b0 L s : Nat} {r : Row} {m : Nat → Option Nat} {X : Nat → Nat → Prop} {W : World}
end
end Go.Abs
