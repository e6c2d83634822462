/- Library: an abstract machine over the model, part 11. -/
import Derived.Test.YtmcjdeiicbgmhabAbs10
set_option linter.unusedVariables false
set_option linter.unusedSimpArgs false
namespace Go.Abs
open Go

/-! ### handles -/
theorem V.sl_inv {E : Env} {cells : List AVal} {n : Nat} {k : SlK} {u : Value} (h : V E (.sl cells n k) u) :
    (u = .slice none 0 0 ∧ cells = [] ∧ n = 0 ∧ k ≠ .nn) ∨
    (∃ b o cap, ∃ vs : Nat → Value, u = .slice (some ⟨b, o, none⟩) n cap ∧ n ≤ cap ∧ (k = .cap0 → cap = 0) ∧ k ≠ .nil ∧ dataAll cells = true ∧ (∀ i, i < cells.length → V E (cells.getD i .undef) (vs i)) ∧
      ∀ i, i < cells.length → E.w.cell? ⟨b, o + i, none⟩ = some (vs i) ∧ Imm E b (o + i)) := by
  generalize hx : AVal.sl cells n k = x at h
  cases h <;> simp at hx
  · obtain ⟨rfl, rfl, rfl⟩ := hx; exact .inl ⟨rfl, rfl, rfl, by assumption⟩
  · rename_i b o
    obtain ⟨rfl, rfl, rfl⟩ := hx
    exact .inr ⟨b, o, 0, fun _ => Go.undef, rfl, Nat.le_refl _, fun _ => rfl, by simp, rfl, fun i hi => by simp at hi, fun i hi => by simp at hi⟩
  · rename_i b o cap vs hk hn hd hv hm
    obtain ⟨rfl, rfl, rfl⟩ := hx
    exact .inr ⟨b, o, cap, vs, rfl, hn, fun h => by subst h; simp at hk, by rcases hk with h | h <;> simp [h], hd, hv, hm⟩

def segA (cells : List AVal) (off n : Nat) : List AVal := (List.range n).map fun j => cells.getD (off + j) .undef
theorem segA_length (cells : List AVal) (off n : Nat) : (segA cells off n).length = n := by simp [segA]
theorem segA_getD (cells : List AVal) (off n i : Nat) (h : i < n) : (segA cells off n).getD i .undef = cells.getD (off + i) .undef := by
  simp [segA, List.getD_eq_getElem?_getD, h]
theorem segA_data {cells : List AVal} {off n : Nat} (h : dataAll cells = true) (hl : off + n ≤ cells.length) : dataAll (segA cells off n) = true := by
  rw [dataAll_iff]
  intro i hi
  rw [segA_length] at hi
  rw [segA_getD _ _ _ _ hi]
  exact (dataAll_iff _).1 h _ (by omega)

/-! ### indexAddr -/
def asIntA : AVal → Option (IntKind × Int)
  | .sc (.int k n) => some (k, n)
  | _ => none
theorem asInt_spec {E : Env} {x : AVal} {v : Value} {k : IntKind} {n : Int} (h : asIntA x = some (k, n)) (hv : V E x v) : v = .int k n := by
  unfold asIntA at h
  split at h
  · simp at h; obtain ⟨rfl, rfl⟩ := h; exact hv.sc_inv
  · simp at h

def indexAddrA (P : Program) (t : TypeId) (x ix : AVal) (rows : List Row) : Option (Prop × AVal) :=
  match asIntA ix, P.underlying t with
  | some (_, i), some (.array len el) => match tyS P el, x with
    | some sz, .ptr id off => match rows[id]? with
      | some r => if r.st = .fresh then some (0 ≤ i ∧ i < len, .ptr id (off + i.toNat * sz)) else none
      | none => none
    | some sz, .dptr cs => some ((0 ≤ i ∧ i < len) ∧ i.toNat * sz + sz ≤ cs.length, .dptr (segA cs (i.toNat * sz) sz))
    | _, _ => none
  | some (_, i), some (.slice el) => match tyS P el, x with
    | some sz, .sl cells n _ => some ((0 ≤ i ∧ i < n) ∧ i.toNat * sz + sz ≤ cells.length, .dptr (segA cells (i.toNat * sz) sz))
    | some sz, .row id off n => match rows[id]? with
      | some r => match r.st with
        | .fresh => some ((0 ≤ i ∧ i < n) ∧ r.esz = sz, .ptr id (off + i.toNat * sz))
        | .grown | .frozen => some ((0 ≤ i ∧ i < n) ∧ r.esz = sz ∧ dataAll r.cells = true, .dptr (segA r.cells (off + i.toNat * sz) sz))
        | .map => none
      | none => none
    | _, _ => none
  | _, _ => none

theorem Rel.ltRow {E : Env} {id : Nat} {r : Row} (h : E.rows[id]? = some r) : id < E.rows.length := lt_of_get h

theorem indexAddr_spec {P : Program} {t : TypeId} {rows : List Row} {x ix r : AVal} {c : Prop} (h : indexAddrA P t x ix rows = some (c, r)) (hc : c) {X : Nat → Nat → Prop} {m : Nat → Option Nat} {w : World} {v u : Value}
    (hrel : Rel ⟨rows, m, w, X⟩) (hv : V ⟨rows, m, w, X⟩ x v) (hu : V ⟨rows, m, w, X⟩ ix u) : ∃ q, (Instr.indexAt t v u).run P w = .ok q w ∧ V ⟨rows, m, w, X⟩ r q := by
  unfold indexAddrA at h
  split at h
  · rename_i k i len el hi ht
    have hue := asInt_spec hi hu
    subst hue
    split at h
    · rename_i sz id off hsz
      split at h
      · rename_i row hrow
        split at h
        · rename_i hs
          simp only [Option.some.injEq, Prod.mk.injEq] at h
          obtain ⟨rfl, rfl⟩ := h
          obtain ⟨b, rfl, hm⟩ := hv.ptr_inv hrow hs
          refine ⟨.pointer (some ⟨b, off + i.toNat * sz, none⟩), ?_, .ptr id _ row b hrow hs hm⟩
          simp only [Instr.indexAt, asIntOf, Instr.sureAddr, Sem.run_bind, Sem.run_pure, Result.andThen_ok, run_underlying ht]
          rw [if_pos hc]
          simp only [Sem.run_bind, run_sizeOf' hsz, Result.andThen_ok, addr_add, Sem.run_pure]
        · simp at h
      · simp at h
    · rename_i sz cs hsz
      simp only [Option.some.injEq, Prod.mk.injEq] at h
      obtain ⟨rfl, rfl⟩ := h
      obtain ⟨hc1, hc2⟩ := hc
      obtain ⟨b, o, vs, rfl, hdd, hvv, hmm⟩ := hv.dptr_inv
      refine ⟨.pointer (some ⟨b, o + i.toNat * sz, none⟩), ?_, .dptr _ b (o + i.toNat * sz) (fun j => vs (i.toNat * sz + j)) (segA_data hdd hc2) (fun j hj => ?_) (fun j hj => ?_)⟩
      · simp only [Instr.indexAt, asIntOf, Instr.sureAddr, Sem.run_bind, Sem.run_pure, Result.andThen_ok, run_underlying ht]
        rw [if_pos hc1]
        simp only [Sem.run_bind, run_sizeOf' hsz, Result.andThen_ok, addr_add, Sem.run_pure]
      · rw [segA_length] at hj; rw [segA_getD _ _ _ _ hj]; exact hvv _ (by omega)
      · rw [segA_length] at hj; have := hmm (i.toNat * sz + j) (by omega); rwa [← Nat.add_assoc] at this
    · simp at h
  · rename_i k i el hi ht
    have hue := asInt_spec hi hu
    subst hue
    split at h
    · rename_i sz cells n k2 hsz
      simp only [Option.some.injEq, Prod.mk.injEq] at h
      obtain ⟨rfl, rfl⟩ := h
      obtain ⟨hc1, hc2⟩ := hc
      rcases hv.sl_inv with ⟨rfl, rfl, rfl, _⟩ | ⟨b, o, cap, vs, rfl, hn, _, _, hdd, hvv, hmm⟩
      · exfalso; have := hc1.2; have := hc1.1; omega
      · refine ⟨.pointer (some ⟨b, o + i.toNat * sz, none⟩), ?_, .dptr _ b (o + i.toNat * sz) (fun j => vs (i.toNat * sz + j)) (segA_data hdd hc2) (fun j hj => ?_) (fun j hj => ?_)⟩
        · simp only [Instr.indexAt, asIntOf, Instr.sureAddr, Sem.run_bind, Sem.run_pure, Result.andThen_ok, run_underlying ht]
          rw [if_pos hc1]
          simp only [Sem.run_bind, run_sizeOf' hsz, Result.andThen_ok, addr_add, Sem.run_pure]
        · rw [segA_length] at hj; rw [segA_getD _ _ _ _ hj]; exact hvv _ (by omega)
        · rw [segA_length] at hj; have := hmm (i.toNat * sz + j) (by omega); rwa [← Nat.add_assoc] at this
    · rename_i sz id off n hsz
      split at h
      · rename_i row hrow
        generalize hx : AVal.row id off n = x at hv
        split at h
        · rename_i hst
          simp only [Option.some.injEq, Prod.mk.injEq] at h
          obtain ⟨rfl, rfl⟩ := h
          obtain ⟨hc1, hc2⟩ := hc
          cases hv <;> simp at hx
          · rename_i b cap r2 hr2 hs2 hm2 hn2 ho2 hcc2
            obtain ⟨rfl, rfl, rfl⟩ := hx
            refine ⟨.pointer (some ⟨b, off + i.toNat * sz, none⟩), ?_, .ptr id _ row b hrow hst hm2⟩
            simp only [Instr.indexAt, asIntOf, Instr.sureAddr, Sem.run_bind, Sem.run_pure, Result.andThen_ok, run_underlying ht]
            rw [if_pos hc1]
            simp only [Sem.run_bind, run_sizeOf' hsz, Result.andThen_ok, addr_add, Sem.run_pure]
          · obtain ⟨rfl, rfl, rfl⟩ := hx; exfalso; have := hc1.2; have := hc1.1; omega
          · rename_i b o cap r2 vs hr2 hs2 _ _ _ _ _ _
            obtain ⟨rfl, rfl, rfl⟩ := hx
            rw [hrow] at hr2; cases hr2; simp [hst] at hs2
        all_goals try (simp at h; done)
        all_goals
          rename_i hst
          simp only [Option.some.injEq, Prod.mk.injEq] at h
          obtain ⟨rfl, rfl⟩ := h
          obtain ⟨hc1, hc2, hc3⟩ := hc
          cases hv <;> simp at hx
          · rename_i b cap r2 hr2 hs2 hm2 hn2 ho2 hcc2
            obtain ⟨rfl, rfl, rfl⟩ := hx
            rw [hrow] at hr2; cases hr2; simp [hst] at hs2
          · obtain ⟨rfl, rfl, rfl⟩ := hx; exfalso; have := hc1.2; have := hc1.1; omega
          · rename_i b o cap r2 vs hr2 hs2 hn2 ho2 hd2 hvv hmm he2
            obtain ⟨rfl, rfl, rfl⟩ := hx
            rw [hrow] at hr2; cases hr2
            subst hc2
            have hlt : i.toNat * row.esz + row.esz ≤ n * row.esz := by
              rw [← Nat.succ_mul]; exact Nat.mul_le_mul_right _ (by have := hc1.2; have := hc1.1; omega)
            refine ⟨.pointer (some ⟨b, o + i.toNat * row.esz, none⟩), ?_, .dptr _ b (o + i.toNat * row.esz) (fun j => vs (i.toNat * row.esz + j)) (segA_data hc3 (by omega)) (fun j hj => ?_) (fun j hj => ?_)⟩
            · simp only [Instr.indexAt, asIntOf, Instr.sureAddr, Sem.run_bind, Sem.run_pure, Result.andThen_ok, run_underlying ht]
              rw [if_pos hc1]
              simp only [Sem.run_bind, run_sizeOf' hsz, Result.andThen_ok, addr_add, Sem.run_pure]
            · rw [segA_length] at hj; rw [segA_getD _ _ _ _ hj, Nat.add_assoc]; exact hvv _ (by omega)
            · rw [segA_length] at hj; have := hmm (i.toNat * row.esz + j) (by omega); rwa [← Nat.add_assoc] at this
      · simp at h
    · simp at h
  · simp at h

/-! ### fieldAddr, field, index -/
def fieldAddrA (P : Program) (s : TypeId) (x : AVal) (f : Nat) (rows : List Row) : Option (Prop × AVal) :=
  match P.underlying s with
  | some (.struct fields) => match fields[f]? with
    | some fl => match tyS P fl.type with
      | some (sz + 1) => match x with
        | .ptr id off => match rows[id]? with
          | some r => if r.st = .fresh then some (True, .ptr id (off + fl.offset)) else none
          | none => none
        | .dptr cs => some (fl.offset + (sz + 1) ≤ cs.length, .dptr (segA cs fl.offset (sz + 1)))
        | _ => none
      | _ => none
    | none => none
  | _ => none

theorem fieldAddr_spec {P : Program} {s : TypeId} {f : Nat} {rows : List Row} {x r : AVal} {c : Prop} (h : fieldAddrA P s x f rows = some (c, r)) (hc : c) {X : Nat → Nat → Prop} {m : Nat → Option Nat} {w : World} {v : Value}
    (hrel : Rel ⟨rows, m, w, X⟩) (hv : V ⟨rows, m, w, X⟩ x v) : ∃ q, (Instr.fieldAt s v f).run P w = .ok q w ∧ V ⟨rows, m, w, X⟩ r q := by
  unfold fieldAddrA at h
  split at h
  · rename_i fields hs
    split at h
    · rename_i fl hfl
      split at h
      · rename_i sz hsz
        have hrun : ∀ b o, (Instr.fieldAt s (.pointer (some ⟨b, o, none⟩)) f).run P w = .ok (.pointer (some ⟨b, o + fl.offset, none⟩)) w := by
          intro b o
          simp only [Instr.fieldAt, Sem.run_bind, run_underlying hs, Result.andThen_ok, hfl, Instr.sureAddr, Sem.run_pure, fieldPlace, run_sizeOf' hsz]
          rw [if_neg (by omega)]
          simp [addr_add]
        split at h
        · rename_i id off
          split at h
          · rename_i row hrow
            split at h
            · rename_i hst
              simp only [Option.some.injEq, Prod.mk.injEq] at h
              obtain ⟨rfl, rfl⟩ := h
              obtain ⟨b, rfl, hm⟩ := hv.ptr_inv hrow hst
              exact ⟨_, hrun b off, .ptr id _ row b hrow hst hm⟩
            · simp at h
          · simp at h
        · rename_i cs
          simp only [Option.some.injEq, Prod.mk.injEq] at h
          obtain ⟨rfl, rfl⟩ := h
          have hc' : fl.offset + (sz + 1) ≤ cs.length := hc
          obtain ⟨b, o, vs, rfl, hdd, hvv, hmm⟩ := hv.dptr_inv
          refine ⟨_, hrun b o, .dptr _ b (o + fl.offset) (fun j => vs (fl.offset + j)) (segA_data hdd hc') (fun j hj => ?_) (fun j hj => ?_)⟩
          · rw [segA_length] at hj; rw [segA_getD _ _ _ _ hj]; exact hvv _ (by omega)
          · rw [segA_length] at hj; have := hmm (fl.offset + j) (by omega); rwa [← Nat.add_assoc] at this
        · simp at h
      · simp at h
    · simp at h
  · simp at h

/-- A part of an aggregate. -/
def partA (P : Program) (t : TypeId) (cs : List AVal) (off : Nat) : Option (Prop × AVal) :=
  match P.underlying t, tyS P t with
  | some d, some n => if isAggD d then some (off + n ≤ cs.length, .agg (segA cs off n)) else some (off < cs.length, cs.getD off .undef)
  | _, _ => none
theorem part_spec {P : Program} {t : TypeId} {cs : List AVal} {off : Nat} {r : AVal} {c : Prop} (h : partA P t cs off = some (c, r)) (hc : c) {E : Env} {vs : List Value} (hl : cs.length = vs.length)
    (hv : ∀ i, i < cs.length → V E (cs.getD i .undef) (vs.getD i Go.undef)) (w : World) : ∃ q, (part t vs.toArray off).run P w = .ok q w ∧ V E r q := by
  unfold partA at h
  split at h
  · rename_i d n hd hn
    split at h
    · rename_i hagg
      simp only [Option.some.injEq, Prod.mk.injEq] at h
      obtain ⟨rfl, rfl⟩ := h
      have hc' : off + n ≤ cs.length := hc
      refine ⟨.agg (((vs.drop off).take n)).toArray, ?_, .agg _ _ (by simp [segA_length]; omega) (fun i hi => ?_)⟩
      · simp only [part, Sem.run_bind, run_isAgg' hd, Result.andThen_ok, hagg, if_true, run_sizeOf' hn, Sem.run_pure]
        congr 2
        apply Array.ext'
        simp [List.extract_eq_take_drop]
      · rw [segA_length] at hi
        rw [segA_getD _ _ _ _ hi]
        have := hv (off + i) (by omega)
        simpa [List.getD_eq_getElem?_getD, List.getElem?_take, hi] using this
    · rename_i hagg
      simp only [Option.some.injEq, Prod.mk.injEq] at h
      obtain ⟨rfl, rfl⟩ := h
      have hc' : off < cs.length := hc
      have hlt : off < vs.length := by omega
      refine ⟨vs[off], ?_, ?_⟩
      · simp [part, run_isAgg' hd, hagg, hlt]
      · have := hv off hc'
        simpa [List.getD_eq_getElem?_getD, hlt] using this
  · simp at h
def fieldA (P : Program) (t : TypeId) (x : AVal) (f : Nat) : Option (Prop × AVal) :=
  match P.underlying t, x with
  | some (.struct fields), .agg cs => match fields[f]? with
    | some fl => partA P fl.type cs fl.offset
    | none => none
  | _, _ => none
theorem field_spec {P : Program} {t : TypeId} {f : Nat} {x r : AVal} {c : Prop} (h : fieldA P t x f = some (c, r)) (hc : c) {E : Env} {v : Value} (hv : V E x v) (w : World) : ∃ q, (Instr.field t v f).run P w = .ok q w ∧ V E r q := by
  unfold fieldA at h
  split at h
  · rename_i fields cs ht
    split at h
    · rename_i fl hfl
      obtain ⟨vs, rfl, hl, hvv⟩ := hv.agg_inv
      obtain ⟨q, h1, h2⟩ := part_spec h hc hl hvv w
      refine ⟨q, ?_, h2⟩
      simp only [Instr.field, Sem.run_bind, run_underlying ht, Result.andThen_ok, hfl, asAgg, Sem.run_pure]
      exact h1
    · simp at h
  · simp at h
def indexA (P : Program) (t : TypeId) (x ix : AVal) : Option (Prop × AVal) :=
  match asIntA ix, P.underlying t, x with
  | some (_, i), some (.array len el), .agg cs => match tyS P el with
    | some sz => match partA P el cs (i.toNat * sz) with
      | some (c, r) => some ((0 ≤ i ∧ i < len) ∧ c, r)
      | none => none
    | none => none
  | some (_, i), some .string, .sc (.string s) => some (0 ≤ i ∧ i < s.size, .sc (.int .u8 (s.data.getD i.toNat 0).toNat))
  | _, _, _ => none
theorem index_spec {P : Program} {t : TypeId} {x ix r : AVal} {c : Prop} (h : indexA P t x ix = some (c, r)) (hc : c) {E : Env} {v u : Value} (hv : V E x v) (hu : V E ix u) (w : World) : ∃ q, (Instr.index t v u).run P w = .ok q w ∧ V E r q := by
  unfold indexA at h
  split at h
  · rename_i k i len el cs hi ht
    have hue := asInt_spec hi hu
    subst hue
    split at h
    · rename_i sz hsz
      split at h
      · rename_i c2 r2 hp
        simp only [Option.some.injEq, Prod.mk.injEq] at h
        obtain ⟨rfl, rfl⟩ := h
        obtain ⟨vs, rfl, hl, hvv⟩ := hv.agg_inv
        obtain ⟨q, h1, h2⟩ := part_spec hp hc.2 hl hvv w
        refine ⟨q, ?_, h2⟩
        simp only [Instr.index, asIntOf, Sem.run_bind, Sem.run_pure, Result.andThen_ok, run_underlying ht]
        rw [if_pos hc.1]
        simp only [Sem.run_bind, run_sizeOf' hsz, Result.andThen_ok]
        exact h1
      · simp at h
    · simp at h
  · rename_i k i s hi ht
    have hue := asInt_spec hi hu
    subst hue
    simp only [Option.some.injEq, Prod.mk.injEq] at h
    obtain ⟨rfl, rfl⟩ := h
    have := hv.sc_inv
    subst this
    obtain ⟨h0, h1⟩ := hc
    have hlt : i.toNat < s.size := by omega
    have hget : s[i.toNat]? = some (s.data.getD i.toNat 0) := by
      have hlt' : i.toNat < s.data.size := hlt
      simp [Array.getD, hlt', hlt]
      rfl
    refine ⟨_, ?_, .sc _ rfl⟩
    simp only [Instr.index, asIntOf, Sem.run_bind, Sem.run_pure, Result.andThen_ok, run_underlying ht]
    rw [if_pos h0, hget]
    rfl
  · simp at h
end Go.Abs
