/- Library: an abstract machine over the model, part 5. -/
import Derived.Test.YtmcjdeiicbgmhabAbs4
import Derived.Laws.CopyRow
import Derived.Laws.Entries
import Derived.ChangeKeysEq
set_option linter.unusedVariables false
set_option linter.unusedSimpArgs false
namespace Go.Abs
open Go

/-! ### What a value can be -/
theorem V.sc_inv {E : Env} {v u : Value} (h : V E (.sc v) u) : u = v := by
  generalize hx : AVal.sc v = x at h
  cases h <;> simp_all
theorem V.agg_inv {E : Env} {cs : List AVal} {u : Value} (h : V E (.agg cs) u) : ∃ vs : List Value, u = .agg vs.toArray ∧ cs.length = vs.length ∧ ∀ i, i < cs.length → V E (cs.getD i .undef) (vs.getD i Go.undef) := by
  generalize hx : AVal.agg cs = x at h
  cases h <;> simp at hx
  rename_i vs hl hv
  subst hx
  exact ⟨vs, rfl, hl, hv⟩
theorem V.tup_inv {E : Env} {cs : List AVal} {u : Value} (h : V E (.tup cs) u) : ∃ vs : List Value, u = .tuple vs.toArray ∧ cs.length = vs.length ∧ ∀ i, i < cs.length → V E (cs.getD i .undef) (vs.getD i Go.undef) := by
  generalize hx : AVal.tup cs = x at h
  cases h <;> simp at hx
  rename_i vs hl hv
  subst hx
  exact ⟨vs, rfl, hl, hv⟩
theorem V.ptr_inv {E : Env} {id off : Nat} {u : Value} {r : Row} (h : V E (.ptr id off) u) (hr : E.rows[id]? = some r) (hs : r.st = .fresh) : ∃ b, u = .pointer (some ⟨b, off, none⟩) ∧ E.m id = some b := by
  generalize hx : AVal.ptr id off = x at h
  cases h <;> simp at hx
  · rename_i b _ _ hm; obtain ⟨rfl, rfl⟩ := hx; exact ⟨b, rfl, hm⟩
  · rename_i hr2 hs2; obtain ⟨rfl, rfl⟩ := hx; rw [hr] at hr2; cases hr2; exact absurd hs hs2
theorem V.dptr_inv {E : Env} {cs : List AVal} {u : Value} (h : V E (.dptr cs) u) : ∃ b o, ∃ vs : Nat → Value, u = .pointer (some ⟨b, o, none⟩) ∧ dataAll cs = true ∧
    (∀ i, i < cs.length → V E (cs.getD i .undef) (vs i)) ∧ ∀ i, i < cs.length → E.w.cell? ⟨b, o + i, none⟩ = some (vs i) ∧ Imm E b (o + i) := by
  generalize hx : AVal.dptr cs = x at h
  cases h <;> simp at hx
  rename_i b o vs hd hv hm
  subst hx
  exact ⟨b, o, vs, rfl, hd, hv, hm⟩
theorem V.fn_inv {E : Env} {f : FuncId} {cs : List AVal} {u : Value} (h : V E (.fn f cs) u) : ∃ vs : List Value, u = .func (.func f) #[] vs.toArray ∧ cs.length = vs.length ∧ ∀ i, i < cs.length → V E (cs.getD i .undef) (vs.getD i Go.undef) := by
  generalize hx : AVal.fn f cs = x at h
  cases h <;> simp at hx
  rename_i vs hl hv
  obtain ⟨rfl, rfl⟩ := hx
  exact ⟨vs, rfl, hl, hv⟩
theorem V.ifc_inv {E : Env} {t : TypeId} {x : AVal} {u : Value} (h : V E (.ifc t x) u) : ∃ v, u = .iface t v ∧ V E x v := by
  generalize hx : AVal.ifc t x = y at h
  cases h <;> simp at hx
  rename_i v hv
  obtain ⟨rfl, rfl⟩ := hx
  exact ⟨_, rfl, hv⟩

/-- A value that takes one cell. -/
def AVal.one : AVal → Bool
  | .agg _ | .tup _ | .undef => false
  | .ptr _ _ => true
  | _ => true

theorem scOk_one {v : Value} (h : scOk v = true) : v.oneCell' = true := by
  cases v <;> simp_all [scOk, Value.oneCell']
theorem V.oneCell {E : Env} {x : AVal} {v : Value} (h : V E x v) (hx : x.one = true) (hp : ∀ id off, x = .ptr id off → ∃ r, E.rows[id]? = some r ∧ r.st = .fresh) : v.oneCell' = true := by
  cases h with
  | undef => simp [AVal.one] at hx
  | sc v h => exact scOk_one h
  | ptrLost id off r v hr hs => obtain ⟨r2, h1, h2⟩ := hp id off rfl; rw [hr] at h1; cases h1; exact absurd h2 hs
  | agg => simp [AVal.one] at hx
  | tup => simp [AVal.one] at hx
  | _ => rfl

def isAggD : TypeDesc → Bool
  | .struct _ | .array _ _ => true
  | _ => false
def tyS (P : Program) (t : TypeId) : Option Nat := (P.info? t).map (·.size)

section
variable {P : Program}
theorem run_sizeOf' {t : TypeId} {n : Nat} (h : tyS P t = some n) (w : World) : (sizeOf t).run P w = .ok n w := by
  unfold tyS at h
  cases hi : P.info? t with
  | none => simp [hi] at h
  | some i => rw [run_sizeOf w hi]; simp [Program.cellsOf, hi] at h ⊢; exact h
theorem run_isAgg' {t : TypeId} {d : TypeDesc} (h : P.underlying t = some d) (w : World) : (isAgg t).run P w = .ok (isAggD d) w := by
  cases d <;> simp [isAgg, run_underlying h, isAggD]

theorem addr_add (b o i : Nat) : (⟨b, o, none⟩ : Addr).add i = ⟨b, o + i, none⟩ := by
  unfold Addr.add; split <;> simp_all

theorem run_loadVar_agg {t : TypeId} {d : TypeDesc} {n b o : Nat} {w : World} {f : Nat → Value} (h : P.underlying t = some d) (hd : isAggD d = true) (hs : tyS P t = some n)
    (hc : ∀ j, j < n → w.cell? ⟨b, o + j, none⟩ = some (f j)) : (loadVar t ⟨b, o, none⟩).run P w = .ok (.agg ((List.range n).map f).toArray) w := by
  simp only [loadVar, Sem.run_bind, run_isAgg' h, Result.andThen_ok, hd, if_true, run_sizeOf' hs]
  rw [run_loadCells w ⟨b, o, none⟩ n f (fun j hj => by rw [addr_add]; exact hc j hj)]
  rfl
theorem run_loadVar_one {t : TypeId} {d : TypeDesc} {b o : Nat} {w : World} {v : Value} (h : P.underlying t = some d) (hd : isAggD d = false)
    (hc : w.cell? ⟨b, o, none⟩ = some v) : (loadVar t ⟨b, o, none⟩).run P w = .ok v w := by
  simp [loadVar, run_isAgg' h, hd, hc]

theorem setRow_upd {w : World} {b : Nat} {c c' : Array Value} {e : TypeId} (h : w.heap[b]? = some (.cells c e (0, 0))) : w.setRow b c' = upd w b (.cells c' e (0, 0)) := by
  have hlt := lt_of_heap h
  have h' : w.heap[b] = .cells c e (0, 0) := by simpa [hlt] using h
  simp only [World.setRow, upd]
  congr 1
  apply Array.ext
  · simp
  · intro i h1 h2
    simp only [Array.getElem_modify, Array.getElem_setIfInBounds]
    split
    · rename_i he; subst he; simp [h']
    · rename_i he; rw [Array.getElem_setIfInBounds_ne (by simpa using h1) he]

theorem run_storeVar {t : TypeId} {w : World} {b o : Nat} {c : Array Value} {e : TypeId} {v : Value} (hs : tyS P t = some v.cells.size)
    (hg : w.heap[b]? = some (.cells c e (0, 0))) (ho : o + v.cells.size ≤ c.size) (h1 : ∀ x ∈ v.cells.toList, x.oneCell' = true) :
    (storeVar t ⟨b, o, none⟩ v).run P w = .ok () (upd w b (.cells (c.toList.take o ++ v.cells.toList ++ c.toList.drop (o + v.cells.size)).toArray e (0, 0))) := by
  simp only [storeVar, Sem.run_bind, run_sizeOf' hs, Result.andThen_ok, ne_eq, not_true_eq_false, if_false]
  have := run_storeCells_at (P := P) b o e v.cells.toList 0 c w hg (by simpa using ho) h1
  simp only [Nat.add_zero, Array.length_toList] at this
  rw [← setRow_upd hg]
  simpa using this
end

/-! ### The results; a function's body -/
/-- What stands in the results at the end. -/
def resOne (P : Program) (st : St) : ResultVar → Option AVal
  | .tmp t => some (st.regs.getD t .undef)
  | .cell a t =>
    match st.regs.getD a .undef with
    | .ptr id 0 =>
      match st.rows[id]?, P.underlying t, tyS P t with
      | some r, some d, some n =>
        if r.st = .fresh ∧ r.cells.length = n then (if isAggD d then some (.agg r.cells) else match r.cells with | [x] => some x | _ => none) else none
      | _, _, _ => none
    | _ => none
def resL (P : Program) (st : St) : List ResultVar → Option (List AVal)
  | [] => some []
  | r :: l => match resOne P st r, resL P st l with
    | some x, some xs => some (x :: xs)
    | _, _ => none
def resA' (P : Program) (rs : Array ResultVar) (st : St) : Option AVal :=
  match resL P st rs.toList with
  | some [x] => some x
  | some l => some (.tup l)
  | none => none

def resRun (tmps : Array Value) : ResultVar → Sem Value
  | .tmp t => pure (tmps.getD t Go.undef)
  | .cell p t => do loadVar t (← asAddr (tmps.getD p Go.undef))
theorem results_eq (fn : Func) (tmps : Array Value) : results fn tmps = (do let vs ← fn.results.mapM (resRun tmps); pure (if h : vs.size = 1 then vs[0] else .tuple vs)) := by
  unfold results
  have : (fun x => match x with
    | .tmp t => pure (tmps.getD t Go.undef)
    | .cell a t => do loadVar t (← asAddr (tmps.getD a Go.undef)) : ResultVar → Sem Value) = resRun tmps := by funext r; cases r <;> rfl
  rw [← this]
  rfl

theorem resOne_spec {P : Program} {st : St} {X : Nat → Nat → Prop} {m : Nat → Option Nat} {w : World} {a : Act} (h : RelSt X st m w a) {r : ResultVar} {x : AVal} (hx : resOne P st r = some x) :
    ∃ v, (resRun a.tmps r).run P w = .ok v w ∧ V ⟨st.rows, m, w, X⟩ x v := by
  cases r with
  | tmp t => simp [resOne] at hx; exact ⟨_, rfl, hx ▸ h.reg t⟩
  | cell p t =>
    have hv := h.reg p
    simp only [resOne] at hx
    split at hx
    · rename_i id hp
      rw [hp] at hv
      split at hx
      · rename_i r d n hr hd hn
        split at hx
        · rename_i hc
          obtain ⟨hs, hl⟩ := hc
          obtain ⟨b, hu, hm⟩ := hv.ptr_inv hr hs
          obtain ⟨c, e, hb, hbl, hbv⟩ := h.rel.block hr (.inl hs) hm
          simp only [resRun, hu, Sem.run_bind, asAddr, Sem.run_pure, Result.andThen_ok]
          split at hx
          · rename_i hagg
            simp at hx; subst hx
            rw [run_loadVar_agg hd hagg hn (f := fun j => c.getD j Go.undef) (fun j hj => by rw [Nat.zero_add]; exact cell_getD hb (by omega))]
            refine ⟨_, rfl, .agg _ _ (by simp [hl]) fun i hi => ?_⟩
            have := hbv i hi
            simpa [List.getD_eq_getElem?_getD, hl ▸ hi] using this
          · rename_i hagg
            split at hx
            · rename_i y hcs
              simp at hx; subst hx
              rw [run_loadVar_one hd (by simpa using hagg) (v := c.getD 0 Go.undef) (cell_getD hb (by simp [hcs] at hbl; omega))]
              have := hbv 0 (by simp [hcs])
              simp only [hcs] at this
              exact ⟨_, rfl, this⟩
            · simp at hx
        · simp at hx
      · simp at hx
    · simp at hx

theorem resL_spec {P : Program} {st : St} {X : Nat → Nat → Prop} {m : Nat → Option Nat} {w : World} {a : Act} (h : RelSt X st m w a) : ∀ {l : List ResultVar} {xs : List AVal}, resL P st l = some xs →
    ∃ vs : List Value, (l.mapM (resRun a.tmps)).run P w = .ok vs w ∧
      xs.length = vs.length ∧ ∀ i, i < xs.length → V ⟨st.rows, m, w, X⟩ (xs.getD i .undef) (vs.getD i Go.undef)
  | [], xs, hx => by simp [resL] at hx; subst hx; exact ⟨[], by simp, rfl, fun i hi => by simp at hi⟩
  | r :: l, xs, hx => by
    simp only [resL] at hx
    split at hx
    · rename_i x ys h1 h2
      simp at hx; subst hx
      obtain ⟨v, hv1, hv2⟩ := resOne_spec (P := P) h h1
      obtain ⟨vs, hvs1, hvs2, hvs3⟩ := resL_spec (P := P) h h2
      refine ⟨v :: vs, ?_, by simp [hvs2], fun i hi => ?_⟩
      · simp only [List.mapM_cons, Sem.run_bind]
        rw [hv1]
        simp only [Result.andThen_ok]
        rw [hvs1]
        rfl
      · cases i with
        | zero => simpa using hv2
        | succ i => simpa using hvs3 i (by simpa using hi)
    · simp at hx

theorem results_spec {P : Program} {fn : Func} {st : St} {X : Nat → Nat → Prop} {m : Nat → Option Nat} {w : World} {a : Act} (h : RelSt X st m w a) {x : AVal} (hx : resA' P fn.results st = some x) :
    ∃ v, (results fn a.tmps).run P w = .ok v w ∧ V ⟨st.rows, m, w, X⟩ x v := by
  unfold resA' at hx
  cases hl : resL P st fn.results.toList with
  | none => simp [hl] at hx
  | some xs =>
    obtain ⟨vs, h1, h2, h3⟩ := resL_spec (P := P) h hl
    have hrun : (results fn a.tmps).run P w = .ok (if h : vs.toArray.size = 1 then vs.toArray[0] else .tuple vs.toArray) w := by
      rw [results_eq]
      simp only [Sem.run_bind]
      rw [show fn.results = fn.results.toList.toArray from by simp]
      rw [List.mapM_toArray, Sem.run_map, h1]
      rfl
    rw [hrun]
    refine ⟨_, rfl, ?_⟩
    rw [hl] at hx
    split at hx
    · rename_i y he
      simp at he hx
      subst he; subst hx
      simp at h2
      have : vs.length = 1 := h2.symm
      match vs, this, h3 with
      | [v], _, h3 => rw [dif_pos (by rfl)]; exact h3 0 (by simp)
    · rename_i l hne he
      simp at he hx
      subst he; subst hx
      have hlen : vs.length ≠ 1 := fun hh => by
        rw [hh] at h2
        match xs, h2 with
        | [y], _ => exact hne y rfl
      rw [dif_neg (by simpa using hlen)]
      exact .tup _ _ h2 h3
    · rename_i he; simp at he

/-- Less is known, or less is there. -/
def Shrink (N : Nat) (rows1 : List Row) (r1 : AVal) (rows2 : List Row) (r2 : AVal) : Prop :=
  ∀ (X : Nat → Nat → Prop) (m : Nat → Option Nat) (w : World) (v : Value), Rel ⟨rows1, m, w, X⟩ → V ⟨rows1, m, w, X⟩ r1 v → N ≤ rows1.length →
    ∃ m2, Rel ⟨rows2, m2, w, X⟩ ∧ V ⟨rows2, m2, w, X⟩ r2 v ∧ N ≤ rows2.length ∧ Evo N ⟨rows1, m, w, X⟩ ⟨rows2, m2, w, X⟩
def WfRows (N : Nat) (rows : List Row) : Prop := ∀ (i : Nat) (r : Row), rows[i]? = some r → r.st ≠ .frozen → ltAll N r.cells = true

theorem Rel.wf {E : Env} (h : Rel E) : WfRows E.rows.length E.rows := by
  intro i r hr hns
  rw [ltAll_iff]
  intro j hj
  cases hs : r.st with
  | frozen => exact absurd hs hns
  | map =>
    obtain ⟨b, es, k, h1, h2, h3, h4⟩ := h.map i r hr hs
    have hj2 : j / 2 < es.size := by omega
    rcases Nat.mod_two_eq_zero_or_one j with hm | hm
    · have := (h4 (j / 2) hj2).1.refLt
      rwa [show 2 * (j / 2) = j by omega] at this
    · have := (h4 (j / 2) hj2).2.refLt
      rwa [show 2 * (j / 2) + 1 = j by omega] at this
  | _ =>
    rcases h.own i r hr hns (by simp [hs]) with ⟨_, h0⟩ | ⟨b, c, e, h1, h2, h3, h4⟩
    · simp [h0] at hj
    · exact (h4 j hj).refLt

/-- A function's body. -/
theorem EvF.body {P : Program} {f : FuncId} {fn : Func} {c : Code} {args : List AVal} {rows rows' : List Row} {r : AVal} (hf : P.funcs[f]? = some fn) (hb : fn.body = some c)
    (h : WfRows rows.length rows → AWP P rows.length c (fun e st' => (e = .normal ∨ e = .ret) ∧ ∃ r1, resA' P fn.results st' = some r1 ∧ Shrink rows.length st'.rows r1 rows' r)
      ⟨args ++ List.replicate (fn.ntmps - args.length) .undef, rows⟩) : EvF P f args rows r rows' := by
  intro X m w vs hrel hvl
  refine calls_of_wp hf hb ?_
  have hst : RelSt X ⟨args ++ List.replicate (fn.ntmps - args.length) .undef, rows⟩ m w { tmps := vs.toArray ++ Array.replicate (fn.ntmps - vs.toArray.size) Go.undef, defers := [] } := by
    refine ⟨hrel, by simp [hvl.1], ?_, rfl⟩
    intro i hi
    rcases Nat.lt_or_ge i args.length with h' | h'
    · have e1 : (args ++ List.replicate (fn.ntmps - args.length) AVal.undef).getD i .undef = args.getD i .undef := by
        rw [List.getD_eq_getElem?_getD, List.getD_eq_getElem?_getD, List.getElem?_append_left h']
      have e2 : (vs.toArray ++ Array.replicate (fn.ntmps - vs.toArray.size) Go.undef).getD i Go.undef = vs.getD i Go.undef := by
        have hv : i < vs.length := by rw [← hvl.1]; exact h'
        simp [Array.getD_eq_getD_getElem?, List.getD_eq_getElem?_getD, Array.getElem?_append, hv]
      show V _ _ _
      rw [e1, e2]; exact hvl.2 i h'
    · have e1 : (args ++ List.replicate (fn.ntmps - args.length) AVal.undef).getD i .undef = .undef := by
        rw [List.getD_eq_getElem?_getD, List.getElem?_append_right h', List.getElem?_replicate]
        split <;> rfl
      rw [e1]; exact .undef _
  refine wp_mono (h hrel.wf (Nat.le_refl _) X m w _ hst) ?_
  rintro e a' w' ⟨st', m', ⟨he, r1, hr1, hsh⟩, hN, hr, hev⟩
  obtain ⟨v, hv1, hv2⟩ := results_spec (P := P) hr hr1
  obtain ⟨m2, k1, k2, k3, k4⟩ := hsh X m' w' v hr.rel hv2 hN
  rcases he with rfl | rfl
  · exact ⟨hr.defers, v, hv1, v, m2, rfl, k1, k2, k3, hev.trans k4⟩
  · exact ⟨hr.defers, v, hv1, v, m2, rfl, k1, k2, k3, hev.trans k4⟩

/-- A call's answer may be said otherwise. -/
theorem EvF.shrink {P : Program} {f : FuncId} {args : List AVal} {rows rows1 rows2 : List Row} {r1 r2 : AVal} (h : EvF P f args rows r1 rows1) (hs : Shrink rows.length rows1 r1 rows2 r2) : EvF P f args rows r2 rows2 := by
  intro X m w vs hrel hvl
  refine (h X m w vs hrel hvl).mono ?_
  rintro e w' ⟨v, m', rfl, h1, h2, h3, h4⟩
  obtain ⟨m2, k1, k2, k3, k4⟩ := hs X m' w' v h1 h2 h3
  exact ⟨v, m2, rfl, k1, k2, k3, h4.trans k4⟩

theorem Shrink.refl (N : Nat) (rows : List Row) (r : AVal) : Shrink N rows r rows r := fun X m _ _ h hv hN => ⟨m, h, hv, hN, Evo.refl _ _⟩
theorem Shrink.trans {N : Nat} {A B C : List Row} {a b c : AVal} (h : Shrink N A a B b) (k : Shrink N B b C c) : Shrink N A a C c := by
  intro X m w v h1 h2 hN
  obtain ⟨m2, a1, a2, a3, a4⟩ := h X m w v h1 h2 hN
  obtain ⟨m3, b1, b2, b3, b4⟩ := k X m2 w v a1 a2 a3
  exact ⟨m3, b1, b2, b3, a4.trans b4⟩

/-- What is behind is forgotten. -/
theorem Shrink.drop {N : Nat} {rows ext : List Row} {r : AVal} (hN : N ≤ rows.length) (hwf : WfRows rows.length rows) (hr : r.refLt rows.length = true) : Shrink N (rows ++ ext) r rows r := by
  intro X m w v h1 h2 _
  obtain ⟨k1, k2, k3⟩ := drop_step (E1 := ⟨rows ++ ext, m, w, X⟩) h1 (N := N) (ρ := id) (rows2 := rows) (fun _ _ => rfl) hN (fun _ _ _ _ h => h)
    (fun i r hr => ⟨by rw [Row.ren_id]; exact (List.getElem?_append_left (lt_of_get hr)).trans hr, fun hns => hwf i r hr hns⟩)
  exact ⟨_, k1, k3 r v (by rw [AVal.ren_id]; exact h2) hr, hN, k2⟩

/-- A row that is not written any more is a slice. -/
theorem V.rowSl {E : Env} {id n : Nat} {v : Value} {r : Row} (h : V E (.row id 0 n) v) (hr : E.rows[id]? = some r) (hs : r.st = .frozen) (hd : dataAll r.cells = true) (hl : n * r.esz = r.cells.length) :
    V E (.sl r.cells n .any) v := by
  generalize hx : AVal.row id 0 n = x at h
  cases h <;> simp at hx
  · rename_i r2 hr2 hs2 hm hn ho hc
    obtain ⟨rfl, rfl, rfl⟩ := hx
    rw [hr] at hr2; cases hr2; simp [hs] at hs2
  · rename_i r2 base hr2 hs2
    obtain ⟨rfl, rfl⟩ := hx
    have h0 : r.cells = [] := List.eq_nil_of_length_eq_zero (by omega)
    rw [h0]
    cases base with
    | none => exact .slnil _ (by simp)
    | some p => exact .sl [] 0 .any p.1 p.2 0 (fun _ => Go.undef) (.inl rfl) (Nat.le_refl _) rfl (fun i hi => by simp at hi) (fun i hi => by simp at hi)
  · rename_i b o cap r2 vs hr2 hs2 hn ho hd2 hv hm he
    obtain ⟨rfl, rfl, rfl⟩ := hx
    rw [hr] at hr2; cases hr2
    exact .sl _ _ .any b o cap vs (.inl rfl) hn hd (fun i hi => by have := hv i (by omega); rwa [Nat.zero_add] at this) (fun i hi => hm i (by omega))

/-- A new row becomes a slice; what is behind is forgotten. -/
theorem Shrink.toSl {N : Nat} {rows rows1 : List Row} {id n : Nat} {r : Row} (hN : N ≤ rows.length) (hwf : WfRows rows.length rows) (hp : ∃ ext, rows1 = rows ++ ext) (hid : rows.length ≤ id)
    (hr : rows1[id]? = some r) (hs : r.st = .fresh ∨ r.st = .grown) (hd : dataAll r.cells = true) (hl : n * r.esz = r.cells.length) : Shrink N rows1 (.row id 0 n) rows (.sl r.cells n .any) := by
  intro X m w v h1 h2 hN1
  obtain ⟨ext, rfl⟩ := hp
  obtain ⟨k1, k2⟩ := freeze_step (E := ⟨rows ++ ext, m, w, X⟩) h1 hr hs hd
  have h3 := k2.val _ _ h2 h2.refLt
  have h4 := V.rowSl (E := ⟨(rows ++ ext).set id { r with st := .frozen }, m, w, X⟩) h3 (get_set_same hr) rfl hd hl
  have e : (rows ++ ext).set id { r with st := .frozen } = rows ++ ext.set (id - rows.length) { r with st := .frozen } := by
    rw [List.set_append]; simp; omega
  rw [e] at k1 k2 h4
  obtain ⟨m2, a1, a2, a3, a4⟩ := Shrink.drop (N := N) (ext := ext.set (id - rows.length) { r with st := .frozen }) hN hwf (r := .sl r.cells n .any) rfl X m w v k1 h4 (by simp; omega)
  exact ⟨m2, a1, a2, a3, (k2.mono (by simp at hN1 ⊢; omega)).trans a4⟩
end Go.Abs
