/- Library: an abstract machine over the model, part 26. -/
import Derived.Test.YtmcjdeiicbgmhabAbs25
set_option linter.unusedVariables false
set_option linter.unusedSimpArgs false
namespace Go.Abs
open Go

theorem OpS.buildRow {P : Program} {o : Oper} {ρ : Operand → AVal} {rows rows' : List Row} {t : TypeId} {len : Nat} {parts : Array (Nat × Operand)} {r : AVal} (ho : o.op = .buildSlice t len parts)
    (h : buildSliceA P t len ρ parts.toList rows true = some (r, rows')) : OpS P o ρ rows r rows' := by
  refine OpS.of_run fun X m w a hrel hv => ?_
  obtain ⟨v, w', m', k1, k2, k3, k4, k5⟩ := buildSlice_spec (τ := a.eval) h hrel (fun x hx => hv x (by rw [ho]; simpa [Op.operands] using hx))
  refine ⟨v, w', m', ?_, k2, k3, k4, k5⟩
  unfold execOp
  rw [ho]
  simp [Sem.run_bind, k1]

/-- Bytes that a text's constant was become data. -/
theorem OpS.markRow {P : Program} {o : Oper} {ρ : Operand → AVal} {rows : List Row} {t e : TypeId} {x : Operand} {id n : Nat} {r : Row} (ho : o.op = .convert t t x) (hx : ρ x = .row id 0 n) (hr : rows[id]? = some r) (hs : r.st = .fresh)
    (hd : dataAll r.cells = true) (hl : n * r.esz = r.cells.length) (hn0 : 0 < n) (ht : P.underlying t = some (.slice e)) (he : P.underlying e = some (.int .u8)) :
    OpS P o ρ rows (.sl r.cells n .any) (rows.set id { r with st := .frozen }) := by
  refine OpS.of_run fun X m w a hrel hv => ?_
  have hvx := hv x (by rw [ho]; simp [Op.operands])
  rw [hx] at hvx
  have hV0 := hvx
  generalize hq : a.eval x = v at hvx
  rw [hq] at hV0
  obtain ⟨k1, k2⟩ := freeze_step hrel hr (.inl hs) hd
  cases hvx with
  | rowF _ _ _ b cap r2 hr2 hs2 hm hn hoo hc =>
    have hr3 : rows[id]? = some r2 := hr2
    rw [hr] at hr3; cases hr3
    obtain ⟨c, el, hbk, hbl, hbv⟩ := hrel.block hr (.inl hs) hm
    have hb : b < w.heap.size := lt_of_heap hbk
    have hnf : r.st ≠ .frozen := by simp [hs]
    let w' : World := w.freeze ⟨b, c.size, none⟩ 1
    have hw' : w' = { w with heap := w.heap.modify b fun
      | .cells c elem (lo, hi) => .cells c elem (if lo == hi then (c.size, c.size + 1) else (min lo c.size, max hi (c.size + 1)))
      | o => o } ∨ True := .inr trivial
    have hheap : w'.heap = w.heap.modify b fun
      | .cells c1 elem (lo, hi) => .cells c1 elem (if lo == hi then (c.size, c.size + 1) else (min lo c.size, max hi (c.size + 1)))
      | o => o := by
      show (w.freeze ⟨b, c.size, none⟩ 1).heap = _
      unfold World.freeze
      rw [if_neg (by decide)]
      rfl
    have hsz : w'.heap.size = w.heap.size := by rw [hheap]; simp
    have hother : ∀ b', b' ≠ b → w'.heap[b']? = w.heap[b']? := by
      intro b' hne
      rw [hheap, Array.getElem?_modify]
      rw [if_neg (Ne.symm hne)]
    have hthis : w'.heap[b]? = some (.cells c el (c.size, c.size + 1)) := by
      rw [hheap, Array.getElem?_modify, if_pos rfl]
      have : w.heap[b]? = some (.cells c el (0, 0)) := hbk
      rw [this]; rfl
    have hcell : ∀ b' o', w'.cell? ⟨b', o', none⟩ = w.cell? ⟨b', o', none⟩ := by
      intro b' o'
      by_cases hne : b' = b
      · subst hne
        have : w.heap[b']? = some (.cells c el (0, 0)) := hbk
        simp [World.cell?, hthis, this]
      · exact cell_congr (hother b' hne)
    let E1 : Env := ⟨rows.set id { r with st := .frozen }, m, w, X⟩
    let E2 : Env := ⟨rows.set id { r with st := .frozen }, m, w', X⟩
    have hI : ∀ b o v, Imm E1 b o → E1.w.cell? ⟨b, o, none⟩ = some v → Imm E2 b o ∧ E2.w.cell? ⟨b, o, none⟩ = some v := by
      intro b' o' v' hi hcc
      exact ⟨⟨by show b' < w'.heap.size; rw [hsz]; exact hi.1, hi.2.1, hi.2.2⟩, by show w'.cell? _ = _; rw [hcell]; exact hcc⟩
    have hV : ∀ x v, V E1 x v → V E2 x v := fun x v h =>
      V.mono (N := E1.rows.length) hI (fun i s _ hs1 => ⟨s, hs1, RowEvo.keep rfl (fun _ b' o' _ hcc => by show (w'.cell? _).isSome = true; rw [hcell]; exact hcc)⟩) h h.refLt
    have hnb : ∀ (i : Nat) (s : Row) (b' : Nat), E1.rows[i]? = some s → s.st ≠ .frozen → m i = some b' → b' ≠ b := by
      intro i s b' h1 hns hmi hbb
      subst hbb
      rcases get_set_cases h1 with ⟨_, a2, _⟩ | ⟨a1, a2⟩
      · subst a2; exact absurd rfl hns
      · exact a1 (hrel.inj i id s r b' a2 hr hns hnf hmi hm)
    have hrel2 : Rel E2 := by
      refine ⟨fun b' o' h => by show b' < w'.heap.size; rw [hsz]; exact k1.xlt b' o' h, k1.xr, k1.inj, ?_, k1.grown, ?_⟩
      · intro i s h1 hns hnm
        rcases k1.own i s h1 hns hnm with h | ⟨b', c', e', g1, g2, g3, g4⟩
        · exact .inl h
        · exact .inr ⟨b', c', e', g1, by show w'.heap[b']? = _; rw [hother b' (hnb i s b' h1 hns g1)]; exact g2, g3, fun j hj => hV _ _ (g4 j hj)⟩
      · intro i s h1 hg
        obtain ⟨b', es, k, g1, g2, g3, g4⟩ := k1.map i s h1 hg
        exact ⟨b', es, k, g1, by show w'.heap[b']? = _; rw [hother b' (hnb i s b' h1 (by rw [hg]; simp) g1)]; exact g2, g3, fun j hj => ⟨hV _ _ (g4 j hj).1, hV _ _ (g4 j hj).2⟩⟩
    have hvE2 : V E2 (.row id 0 n) (.slice (some ⟨b, 0, none⟩) n cap) := hV _ _ (k2.val _ _ hV0 hV0.refLt)
    have hres := V.rowSl (E := E2) (r := { r with st := .frozen }) hvE2 (get_set_same hr) rfl hd hl
    refine ⟨.slice (some ⟨b, 0, none⟩) n cap, w', m, ?_, hrel2, hres, by simp, ⟨fun y u hy hb' => hV _ _ (k2.val y u hy hb'), by show w.heap.size ≤ w'.heap.size; omega, ?_, ?_, ?_, ?_⟩⟩
    · unfold execOp
      rw [ho]
      have hsh : w.shape? b = some (el, c.size) := by
        unfold World.shape?
        have : w.heap[b]? = some (.cells c el (0, 0)) := hbk
        rw [this]
      simp [hq, convert, run_underlying ht, run_underlying he, markStringish, hsh]
      rfl
    · intro b' hb' hf
      have hne : b' ≠ b := fun hbb => by subst hbb; exact hf id r hr hnf hm
      refine ⟨hother b' hne, fun i s h1 hns hmi => ?_⟩
      rcases get_set_cases h1 with ⟨_, a2, _⟩ | ⟨_, a2⟩
      · subst a2; exact absurd rfl hns
      · exact hf i s a2 hns hmi
    · show w'.os = w.os; show (w.freeze _ _).os = _; unfold World.freeze; rw [if_neg (by decide)]
    · show w'.tape = w.tape; show (w.freeze _ _).tape = _; unfold World.freeze; rw [if_neg (by decide)]
    · show w'.output = w.output; show (w.freeze _ _).output = _; unfold World.freeze; rw [if_neg (by decide)]
  | rowV _ r2 base hr2 hs2 =>
    exact absurd hn0 (by omega)
  | rowG _ _ _ b o cap r2 vs hr2 hs2 hn hoo hd2 hv2 hm he2 =>
    have hr3 : rows[id]? = some r2 := hr2
    rw [hr] at hr3; cases hr3
    rw [hs] at hs2; simp at hs2

/-- A text's constant as bytes: a row is laid and marked. -/
def litOf (P : Program) (o1 o2 : Oper) (ρ : Operand → AVal) (rows : List Row) : Option (AVal × List Row) :=
  match o1.op, o2.op, o1.dst with
  | .buildSlice t len parts, .convert s d (.tmp x), some d1 =>
    if s = t ∧ d = t ∧ x = d1 then
      match P.underlying t with
      | some (.slice e) => match P.underlying e with
        | some (.int .u8) => buildSliceA P t len ρ parts.toList rows true
        | _ => none
      | _ => none
    else none
  | _, _, _ => none
theorem DerQ.lit {P : Program} {ops : Array Oper} {o1 o2 : Oper} {l : List Oper} {st : St} {K : St → Prop} (cells : List AVal) (n esz : Nat) (st0 st1 : St)
    (h : litOf P o1 o2 (ev st.regs) st.rows = some (.row st.rows.length 0 n, st.rows ++ [⟨cells, esz, .fresh⟩]) ∧ wantA ops o1 st.regs = some true ∧ st.put o1.dst (.row st.rows.length 0 n) (st.rows ++ [⟨cells, esz, .fresh⟩]) = st0 ∧
      wantA ops o2 st0.regs = some true ∧ ev st0.regs (match o1.dst with | some d => .tmp d | none => .global 0) = .row st.rows.length 0 n ∧ st0.rows = st.rows ++ [⟨cells, esz, .fresh⟩] ∧ dataAll cells = true ∧ n * esz = cells.length ∧ Nat.blt 0 n = true ∧
      st0.put o2.dst (.sl cells n .any) (st.rows ++ [⟨cells, esz, .frozen⟩]) = st1) (hk : DerQ P ops l st1 K) : DerQ P ops (o1 :: o2 :: l) st K := by
  obtain ⟨h1, h2, h3, h4, h5, h6, h7, h8, h9, rfl⟩ := h
  obtain ⟨st', k1, k2⟩ := hk
  have hn : 0 < n := by simpa using h9
  unfold litOf at h1
  split at h1
  · rename_i t len parts s d x d1 e1 e2 e3
    split at h1
    · rename_i hc
      obtain ⟨rfl, rfl, rfl⟩ := hc
      split at h1
      · rename_i e ht
        split at h1
        · rename_i he
          rw [e3] at h5
          have hset : (st.rows ++ [(⟨cells, esz, .fresh⟩ : Row)]).set st.rows.length ⟨cells, esz, .frozen⟩ = st.rows ++ [⟨cells, esz, .frozen⟩] := by simp
          have hg : (st.rows ++ [(⟨cells, esz, .fresh⟩ : Row)])[st.rows.length]? = some ⟨cells, esz, .fresh⟩ := by simp
          have hop2 := OpS.markRow (P := P) (ρ := ev st0.regs) (rows := st.rows ++ [⟨cells, esz, .fresh⟩]) (r := ⟨cells, esz, .fresh⟩) e2 h5 hg rfl h7 h8 hn ht he
          rw [hset] at hop2
          rw [← h6] at hop2
          rw [← h3] at h4 hop2 k1
          exact ⟨st', .op o1 _ _ _ _ _ h2 (OpS.buildRow e1 h1) (.op o2 l _ _ _ _ h4 hop2 k1), k2⟩
        · simp at h1
      · simp at h1
    · simp at h1
  · simp at h1
end Go.Abs
