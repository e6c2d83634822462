/- Library: an abstract machine over the model, part 14. -/
import Derived.Test.YtmcjdeiicbgmhabAbs13
set_option linter.unusedVariables false
set_option linter.unusedSimpArgs false
namespace Go.Abs
open Go

theorem growBy_le (n : Nat) : ∀ (r c : Nat), Builtin.growBy n r c ≤ 4 ^ r * (c + 1024) := by
  intro r
  induction r with
  | zero => intro c; simp [Builtin.growBy]
  | succ r ih =>
    intro c
    simp only [Builtin.growBy]
    split
    · have : 1 ≤ 4 ^ (r + 1) := Nat.one_le_pow _ _ (by omega)
      calc c ≤ 1 * (c + 1024) := by omega
        _ ≤ 4 ^ (r + 1) * (c + 1024) := Nat.mul_le_mul_right _ this
    · refine Nat.le_trans (ih _) ?_
      rw [Nat.pow_succ, Nat.mul_assoc]
      exact Nat.mul_le_mul_left _ (by omega)
theorem growBy_le4 (n c : Nat) : Builtin.growBy n 4 c ≤ 256 * (c + 1024) := by
  have h := growBy_le n 4 c
  have e : (4 : Nat) ^ 4 = 256 := by decide
  rw [e] at h
  exact h
theorem nextslicecap_le {need cap : Nat} (h : cap < need) (hn : need ≤ 1073741824) : Builtin.nextslicecap need cap ≤ 274878169088 := by
  unfold Builtin.nextslicecap
  split
  · omega
  · split
    · omega
    · have h2 : cap + 1024 ≤ 1073742848 := by omega
      exact Nat.le_trans (growBy_le4 need cap) (Nat.mul_le_mul_left 256 h2)

/-- An append of what fits in no room: a new block. -/
theorem run_append_new {P : Program} {st xt el : TypeId} {k sLen sCap : Nat} {w : World} {base : Option Addr} {x zv : Value} {old new : Array Value} {inf : TypeInfo} {ts : Array TypeId} {ty : TypeId} {d : TypeDesc}
    (hs : P.underlying st = some (.slice el)) (hi : P.info? el = some inf) (hz : inf.zero = some zv) (ht0 : ts[0]? = some st) (ht1 : ts[1]? = some xt) (hd : P.underlying xt = some d) (hdi : (∃ e', d = .slice e') ∨ d = .string)
    (hk : (Builtin.lenOf x).run P w = .ok k w) (hneed : sCap < sLen + k) (hbound : sLen + k ≤ 1073741824 ∧ inf.bytes ≤ 1000) (hb0 : inf.bytes ≠ 0)
    (hold : (Builtin.firstCells inf.size sLen (.slice base sLen sCap)).run P { w with drawn := w.drawn + 1 } = .ok old { w with drawn := w.drawn + 1 }) (hnew : (Builtin.firstCells inf.size k x).run P { w with drawn := w.drawn + 1 } = .ok new { w with drawn := w.drawn + 1 }) :
    ∃ cap, ∃ rest : Array Value, sLen + k ≤ cap ∧ (Builtin.append_ ts ty #[.slice base sLen sCap, x]).run P w = .ok (.slice (some ⟨w.heap.size, 0, none⟩) (sLen + k) cap) (({ w with drawn := w.drawn + 1 } : World).alloc (.cells (old ++ new ++ rest) el)) ∧
      rest.size = (cap - (sLen + k)) * zv.cells.size := by
  have hsize : ∀ w' : World, (sizeOf el).run P w' = .ok inf.size w' := fun w' => by rw [run_sizeOf w' hi]; simp [Program.cellsOf, hi]
  have hty : ∀ w' : World, (typeInfo el).run P w' = .ok inf w' := fun w' => run_typeInfo w' hi
  have hzr : ∀ w' : World, (zeroValue el).run P w' = .ok zv w' := fun w' => by simp [zeroValue, hty, hz]
  let cap := (Question.appendCap (sLen + k) sCap el).cut (w.tape w.drawn (.appendCap (sLen + k) sCap el))
  have hcap : sLen + k ≤ cap := by show _ ≤ _ + _; omega
  refine ⟨cap, Builtin.zeroCells zv.cells (cap - (sLen + k)), hcap, ?_, by simp [Builtin.zeroCells]⟩
  have hg := nextslicecap_le hneed hbound.1
  have hg2 : ¬ (Builtin.nextslicecap (sLen + k) sCap * inf.bytes > 2 ^ 48) := by
    have : Builtin.nextslicecap (sLen + k) sCap * inf.bytes ≤ 274878169088 * 1000 := Nat.mul_le_mul hg hbound.2
    have : (2 : Nat) ^ 48 = 281474976710656 := by decide
    omega
  have hg3 : ¬ (((sLen + k : Nat) : Int) > IntKind.i64.max ∧ ((False : Prop) ∨ inf.bytes = 0)) := by
    rintro ⟨_, h | h⟩
    · exact h
    · exact hb0 h
  have hforced : (Question.appendCap (sLen + k) sCap el).forced = false := rfl
  have hfc : ∀ w' : World, (choose (.appendCap (sLen + k) sCap el)).run P w' = .ok ((Question.appendCap (sLen + k) sCap el).cut (w'.tape w'.drawn (.appendCap (sLen + k) sCap el))) { w' with drawn := w'.drawn + 1 } := fun w' => by
    rw [run_choose, hforced]; rfl
  rcases hdi with ⟨e', rfl⟩ | rfl
  all_goals
    simp only [Builtin.append_, List.getElem?_toArray, List.getElem?_cons_zero, List.getElem?_cons_succ, ht0, ht1, Sem.run_bind, run_underlying hs, Result.andThen_ok, hsize, run_underlying hd, Sem.run_pure, hk, Bool.false_eq_true, if_false]
    rw [if_neg (show ¬ (sLen + k ≤ sCap) by omega)]
    simp only [Sem.run_bind, hty, Result.andThen_ok]
    rw [if_neg (show ¬ (((sLen + k : Nat) : Int) > IntKind.i64.max ∧ (False ∨ inf.bytes = 0)) from hg3)]
    simp only [Sem.run_bind, hty, Result.andThen_ok]
    rw [if_neg hg2]
    simp only [Sem.run_bind, hfc, hty, Result.andThen_ok, run_askRoom]
    rw [hold]
    simp only [Sem.run_bind, Result.andThen_ok, Bool.not_false, if_true]
    rw [hnew]
    simp only [Sem.run_bind, Result.andThen_ok, hzr, newRow, run_newObj, Sem.run_pure]
    rfl

/-- An append of what fits. -/
theorem run_append_fits {P : Program} {st xt el : TypeId} {k sLen sCap : Nat} {w w' : World} {base : Option Addr} {x : Value} {new : Array Value} {inf : TypeInfo} {ts : Array TypeId} {ty : TypeId} {d : TypeDesc}
    (hs : P.underlying st = some (.slice el)) (hi : P.info? el = some inf) (ht0 : ts[0]? = some st) (ht1 : ts[1]? = some xt) (hd : P.underlying xt = some d) (hdi : (∃ e', d = .slice e') ∨ d = .string)
    (hk : (Builtin.lenOf x).run P w = .ok k w) (hneed : sLen + k ≤ sCap) (hnew : (Builtin.firstCells inf.size k x).run P w = .ok new w)
    (hst : match base with | some a => (storeCells (a.add (sLen * inf.size)) new.toList).run P w = .ok () w' | none => w' = w) :
    (Builtin.append_ ts ty #[.slice base sLen sCap, x]).run P w = .ok (.slice base (sLen + k) sCap) w' := by
  have hsize : ∀ w' : World, (sizeOf el).run P w' = .ok inf.size w' := fun w' => by rw [run_sizeOf w' hi]; simp [Program.cellsOf, hi]
  rcases hdi with ⟨e', rfl⟩ | rfl
  all_goals
    simp only [Builtin.append_, List.getElem?_toArray, List.getElem?_cons_zero, List.getElem?_cons_succ, ht0, ht1, Sem.run_bind, run_underlying hs, Result.andThen_ok, hsize, run_underlying hd, Sem.run_pure, hk, Bool.false_eq_true, if_false]
    rw [if_pos hneed]
    simp only [Sem.run_bind, Bool.not_false, if_true, hnew, Result.andThen_ok]
    cases base with
    | none => simp only at hst; subst hst; rfl
    | some a => simp only at hst; simp only [Sem.run_bind, hst, Result.andThen_ok]; rfl

theorem srcA_desc {P : Program} {t : TypeId} {sz : Nat} {rows : List Row} {x : AVal} {q : Prop × List AVal × Nat} (h : srcA t P sz rows x = some q) : ∃ d, P.underlying t = some d ∧ ((∃ e', d = .slice e') ∨ d = .string) := by
  unfold srcA at h
  split at h
  · rename_i e _ _ _ ht; exact ⟨_, ht, .inl ⟨e, rfl⟩⟩
  · rename_i e _ _ _ ht; exact ⟨_, ht, .inl ⟨e, rfl⟩⟩
  · rename_i _ ht; exact ⟨_, ht, .inr rfl⟩
  · simp at h

def appendA (P : Program) (ts : Array TypeId) (base src : AVal) (rows : List Row) : Option (Prop × AVal × List Row) :=
  match ts[0]?, ts[1]? with
  | some st, some xt => match P.underlying st with
    | some (.slice el) => match P.info? el with
      | some inf => match inf.size, inf.zero with
        | sz + 1, some zv =>
          if inf.bytes = 0 ∨ 1000 < inf.bytes ∨ zv.cells.size ≠ sz + 1 then none else
          match srcA xt P (sz + 1) rows src with
          | some (c, xs, k) => match base with
            | .sl [] 0 .nil => some (c ∧ k ≤ 1073741824, .row rows.length 0 k, rows ++ [⟨xs, sz + 1, .fresh⟩])
            | .sl [] 0 .cap0 => some (c ∧ k ≤ 1073741824, .row rows.length 0 k, rows ++ [⟨xs, sz + 1, .fresh⟩])
            | .row id 0 n => match rows[id]? with
              | some r => if r.st = .fresh ∨ r.st = .grown then
                  some (c ∧ r.esz = sz + 1 ∧ n * (sz + 1) = r.cells.length ∧ n + k ≤ 1073741824 ∧ dataAll (r.cells ++ xs) = true ∧ ∀ i, i < xs.length → (xs.getD i .undef).one = true, .row id 0 (n + k), rows.set id ⟨r.cells ++ xs, r.esz, .grown⟩)
                else none
              | none => none
            | _ => none
          | none => none
        | _, _ => none
      | none => none
    | _ => none
  | _, _ => none

theorem append_spec {P : Program} {ts : Array TypeId} {ty : TypeId} {base src r : AVal} {rows rows' : List Row} {c : Prop} (h : appendA P ts base src rows = some (c, r, rows')) (hc : c) {X : Nat → Nat → Prop} {m : Nat → Option Nat} {w : World} {v u : Value}
    (hrel : Rel ⟨rows, m, w, X⟩) (hv : V ⟨rows, m, w, X⟩ base v) (hu : V ⟨rows, m, w, X⟩ src u) :
    ∃ q w' m', (Builtin.append_ ts ty #[v, u]).run P w = .ok q w' ∧ Rel ⟨rows', m', w', X⟩ ∧ V ⟨rows', m', w', X⟩ r q ∧ rows.length ≤ rows'.length ∧ Evo rows.length ⟨rows, m, w, X⟩ ⟨rows', m', w', X⟩ := by
  unfold appendA at h
  split at h
  case h_2 => simp at h
  rename_i st xt ht0 ht1
  split at h
  case h_2 => simp at h
  rename_i el hs
  split at h
  case h_2 => simp at h
  rename_i inf hi
  split at h
  case h_2 => simp at h
  rename_i sz zv hsz0 hz
  have hsz : inf.size = sz + 1 := hsz0
  split at h
  · simp at h
  rename_i hby
  have hby1 : inf.bytes ≠ 0 := fun h => hby (.inl h)
  have hby2 : inf.bytes ≤ 1000 := by
    rcases Nat.lt_or_ge 1000 inf.bytes with h | h
    · exact absurd (.inr (.inl h)) hby
    · exact h
  have hzs : zv.cells.size = sz + 1 := Classical.byContradiction fun h => hby (.inr (.inr h))
  split at h
  case h_2 => simp at h
  rename_i cs xs k hsrc
  obtain ⟨d, hd, hdi⟩ := srcA_desc hsrc
  -- the world behind the draw
  let wd : World := { w with drawn := w.drawn + 1 }
  obtain ⟨hreld, hevd⟩ := same_heap (E := ⟨rows, m, w, X⟩) hrel (w' := wd) rfl rfl rfl rfl rows.length
  have hud : V ⟨rows, m, wd, X⟩ src u := hevd.val _ _ hu hu.refLt
  -- nil, or a slice without room
  have empty : ∀ (b : Option (Nat × Nat)), v = .slice (b.map fun p => ⟨p.1, p.2, none⟩) 0 0 → cs → k ≤ 1073741824 → r = .row rows.length 0 k → rows' = rows ++ [⟨xs, sz + 1, .fresh⟩] →
      ∃ q w' m', (Builtin.append_ ts ty #[v, u]).run P w = .ok q w' ∧ Rel ⟨rows', m', w', X⟩ ∧ V ⟨rows', m', w', X⟩ r q ∧ rows.length ≤ rows'.length ∧ Evo rows.length ⟨rows, m, w, X⟩ ⟨rows', m', w', X⟩ := by
    rintro b rfl hcs hk rfl rfl
    obtain ⟨_, hlen, hxl, cc, hfc, hvc⟩ := src_spec hsrc hcs hrel hu
    rcases Nat.eq_zero_or_pos k with rfl | hkp
    · have hx0 : xs = [] := List.eq_nil_of_length_eq_zero (by rw [hxl]; simp)
      subst hx0
      have hcc : cc = #[] := Array.eq_empty_of_size_eq_zero (by have := hvc.1; simp at this; exact this.symm)
      subst hcc
      obtain ⟨k1, k2⟩ := virtual_step hrel (sz + 1)
      refine ⟨.slice (b.map fun p => ⟨p.1, p.2, none⟩) 0 0, w, _, ?_, k1, .rowV _ ⟨[], sz + 1, .fresh⟩ b (by simp) (.inr (.inl ⟨.inl rfl, by simp⟩)), by simp, k2⟩
      refine run_append_fits hs hi ht0 ht1 hd hdi hlen (Nat.le_refl _) (by rw [hsz]; exact hfc) ?_
      cases b with
      | none => rfl
      | some p => rfl
    · obtain ⟨_, hlend, hxl, ccd, hfcd, hvcd⟩ := src_spec hsrc hcs hreld hud
      obtain ⟨cap, rest, hcap, hrun, hrest⟩ := run_append_new (P := P) (w := w) (ty := ty) (base := b.map fun p => ⟨p.1, p.2, none⟩) (sLen := 0) (sCap := 0) (old := #[]) hs hi hz ht0 ht1 hd hdi hlen (by omega) ⟨by omega, hby2⟩ hby1
        (by cases b with
          | none => rfl
          | some p => simp only [Option.map_some, Builtin.firstCells, Nat.zero_mul]; exact run_loadCells _ _ 0 (fun _ => Go.undef) (fun j hj => by omega))
        (by rw [hsz]; exact hfcd)
      obtain ⟨k1, k2⟩ := alloc_step hreld ⟨xs, sz + 1, .fresh⟩ (#[] ++ ccd ++ rest) el rfl (by simp; have := hvcd.1; omega) (fun j hj => by
        have h1 := hvcd.2 j hj
        have h2 : j < ccd.size := by rw [← hvcd.1]; exact hj
        have e : (#[] ++ ccd ++ rest).getD j Go.undef = ccd.getD j Go.undef := by
          simp only [Array.empty_append, Array.getD_eq_getD_getElem?]
          rw [Array.getElem?_append_left h2]
        rw [e]; exact h1)
      refine ⟨_, _, _, hrun, k1, ?_, by simp, hevd.trans k2⟩
      rw [Nat.zero_add] at hcap ⊢
      refine V.rowF _ 0 k _ cap ⟨xs, sz + 1, .fresh⟩ (by simp) rfl (if_pos rfl) hcap (by simp [hxl]) (fun i hi2 => ?_)
      rw [Nat.zero_add, isSome_cell (alloc_new _ _)]
      have := hvcd.1
      have h4 : cap * (sz + 1) = k * (sz + 1) + (cap - k) * (sz + 1) := by rw [← Nat.add_mul]; congr 1; omega
      simp only [Array.empty_append, Array.size_append, hrest, hzs, Nat.zero_add]
      rw [← this, hxl, ← h4]; exact hi2
  split at h
  · simp only [Option.some.injEq, Prod.mk.injEq] at h
    obtain ⟨rfl, rfl, rfl⟩ := h
    rcases hv.sl_inv with ⟨rfl, _⟩ | ⟨b, o, cap, vs, rfl, _, _, hk, _⟩
    · exact empty none rfl hc.1 hc.2 rfl rfl
    · exact absurd rfl hk
  · simp only [Option.some.injEq, Prod.mk.injEq] at h
    obtain ⟨rfl, rfl, rfl⟩ := h
    rcases hv.sl_inv with ⟨rfl, _⟩ | ⟨b, o, cap, vs, rfl, _, hk, _⟩
    · exact empty none rfl hc.1 hc.2 rfl rfl
    · have := hk rfl; subst this; exact empty (some (b, o)) rfl hc.1 hc.2 rfl rfl
  · rename_i id n
    split at h
    case h_2 => simp at h
    rename_i row hrow
    split at h
    case isFalse => simp at h
    rename_i hst
    simp only [Option.some.injEq, Prod.mk.injEq] at h
    obtain ⟨rfl, rfl, rfl⟩ := h
    obtain ⟨hcs, hesz, hnl, hbound, hdata, hone⟩ := hc
    have hn0 : n = 0 → row.cells = [] := fun h0 => List.eq_nil_of_length_eq_zero (by rw [← hnl, h0]; simp)
    obtain ⟨_, hlen, hxl, cc, hfc, hvc⟩ := src_spec hsrc hcs hrel hu
    obtain ⟨_, _, _, ccd, hfcd, hvcd⟩ := src_spec hsrc hcs hreld hud
    have hdx : ∀ j, j < xs.length → (xs.getD j .undef).data = true := by
      intro j hj
      have := (dataAll_iff _).1 hdata (row.cells.length + j) (by simp; omega)
      rw [List.getD_eq_getElem?_getD, List.getElem?_append_right (by omega)] at this
      simpa [List.getD_eq_getElem?_getD] using this
    have honec : ∀ y ∈ cc.toList, y.oneCell' = true := by
      intro y hy
      obtain ⟨j, hj, rfl⟩ := List.mem_iff_getElem.1 hy
      have hj' : j < xs.length := by rw [hvc.1]; simpa using hj
      have := (hvc.2 j hj').oneCell (hone j hj') (fun id off he => by have := hdx j hj'; rw [he] at this; simp [AVal.data] at this)
      have hj2 : j < cc.size := by simpa using hj
      simpa [Array.getD, hj2] using this
    -- a row that has a block
    have block : ∀ (b cap : Nat), v = .slice (some ⟨b, 0, none⟩) n cap → m id = some b → n ≤ cap → (∀ i, i < cap * row.esz → (w.cell? ⟨b, 0 + i, none⟩).isSome = true) →
        ∃ q w' m', (Builtin.append_ ts ty #[v, u]).run P w = .ok q w' ∧ Rel ⟨rows.set id ⟨row.cells ++ xs, row.esz, .grown⟩, m', w', X⟩ ∧ V ⟨rows.set id ⟨row.cells ++ xs, row.esz, .grown⟩, m', w', X⟩ (.row id 0 (n + k)) q ∧ rows.length ≤ (rows.set id ⟨row.cells ++ xs, row.esz, .grown⟩).length ∧ Evo rows.length ⟨rows, m, w, X⟩ ⟨rows.set id ⟨row.cells ++ xs, row.esz, .grown⟩, m', w', X⟩ := by
      rintro b cap rfl hm hncap hcells
      obtain ⟨bc, be, hb, hbl, hbv⟩ := hrel.block hrow hst hm
      have hcapsz : cap * (sz + 1) ≤ bc.size := by
        rcases Nat.eq_zero_or_pos (cap * (sz + 1)) with h0 | h0
        · omega
        · have := hcells (cap * (sz + 1) - 1) (by rw [hesz]; omega)
          rw [isSome_cell hb] at this; omega
      have hvalid : ∀ (E' : Env), E'.rows = rows.set id ⟨row.cells ++ xs, row.esz, .grown⟩ → ∀ (b' cap' : Nat) (c' : Array Value) (e' : TypeId), E'.m id = some b' → E'.w.heap[b']? = some (.cells c' e' (0, 0)) → b' < E'.w.heap.size → n + k ≤ cap' → cap' * (sz + 1) ≤ c'.size →
          (∀ o, ¬ E'.x b' o) → (∀ i r, E'.rows[i]? = some r → r.st ≠ .frozen → E'.m i = some b' → i = id) → (∀ j, j < (row.cells ++ xs).length → V E' ((row.cells ++ xs).getD j .undef) (c'.getD j Go.undef)) → V E' (.row id 0 (n + k)) (.slice (some ⟨b', 0, none⟩) (n + k) cap') := by
        intro E' hr' b' cap' c' e' hm' hb' hlt' hcap' hc' hx' hinj' hv'
        have hl' : (row.cells ++ xs).length = (n + k) * (sz + 1) := by rw [List.length_append, ← hnl, hxl, Nat.add_mul]
        have hcm : (n + k) * (sz + 1) ≤ cap' * (sz + 1) := Nat.mul_le_mul_right _ hcap'
        refine V.rowG id 0 (n + k) b' 0 cap' ⟨row.cells ++ xs, row.esz, .grown⟩ (fun i => c'.getD i Go.undef) (by rw [hr']; exact get_set_same hrow) (.inl rfl) hcap' (by simp only [hesz]; omega) (fun i hi => ?_) (fun i hi => ?_) (fun i hi => ?_) (fun _ _ => ⟨hm', rfl, fun i hi => ?_⟩)
        · simp only [hesz] at hi; rw [Nat.zero_add]; exact (dataAll_iff _).1 hdata i (by omega)
        · simp only [hesz] at hi; rw [Nat.zero_add]; exact hv' i (by omega)
        · simp only [hesz] at hi; rw [Nat.zero_add]
          refine ⟨cell_getD hb' (by omega), hlt', hx' _, fun i2 r2 h1 h2 h3 => ?_⟩
          have := hinj' i2 r2 h1 h2 h3
          subst this
          rw [hr', get_set_same hrow] at h1; cases h1
          exact ⟨rfl, by simp only []; omega⟩
        · simp only [hesz] at hi; rw [Nat.zero_add, isSome_cell hb']; omega
      rcases Nat.lt_or_ge cap (n + k) with hgrow | hfits
      · -- a new block
        have hmd : (fun i => m i) id = some b := hm
        have hbd : wd.heap[b]? = some (.cells bc be (0, 0)) := hb
        obtain ⟨cap', rest, hcap', hrun, hrest⟩ := run_append_new (P := P) (w := w) (ty := ty) (base := some ⟨b, 0, none⟩) (sLen := n) (sCap := cap) (old := ((List.range (n * inf.size)).map fun i => bc.getD i Go.undef).toArray) hs hi hz ht0 ht1 hd hdi hlen hgrow ⟨hbound, hby2⟩ hby1
          (by simp only [Builtin.firstCells]; exact run_loadCells _ ⟨b, 0, none⟩ _ _ (fun j hj => by rw [addr_add, Nat.zero_add]; exact cell_getD hbd (by rw [hsz] at hj; omega)))
          (by rw [hsz]; exact hfcd)
        have hk0 : xs ≠ [] := by
          intro h0
          have h1 : k * (sz + 1) = 0 := by rw [← hxl, h0]; rfl
          have : k = 0 := by rcases Nat.mul_eq_zero.1 h1 with h | h <;> omega
          omega
        have hget : ∀ j, j < (row.cells ++ xs).length → V ⟨rows, m, wd, X⟩ ((row.cells ++ xs).getD j .undef) ((((List.range (n * inf.size)).map fun i => bc.getD i Go.undef).toArray ++ ccd ++ rest).getD j Go.undef) := by
          intro j hj
          have hos : ((List.range (n * inf.size)).map fun i => bc.getD i Go.undef).toArray.size = row.cells.length := by simp [hsz, hnl]
          simp only [List.length_append] at hj
          simp only [Array.getD_eq_getD_getElem?, List.getD_eq_getElem?_getD] at hos ⊢
          rw [Array.append_assoc]
          rcases Nat.lt_or_ge j row.cells.length with hlt | hge
          · rw [List.getElem?_append_left hlt, Array.getElem?_append_left (by omega)]
            have hjn : j < n * inf.size := by rw [hsz, hnl]; exact hlt
            have := hevd.val _ _ (hbv j hlt) (hbv j hlt).refLt
            simpa [List.getD_eq_getElem?_getD, hjn, Array.getD_eq_getD_getElem?] using this
          · rw [List.getElem?_append_right hge, Array.getElem?_append_right (by omega), hos]
            have hjx : j - row.cells.length < xs.length := by omega
            rw [Array.getElem?_append_left (by rw [← hvcd.1]; exact hjx)]
            have := hvcd.2 _ hjx
            simpa [List.getD_eq_getElem?_getD, Array.getD_eq_getD_getElem?] using this
        have hsize : (row.cells ++ xs).length ≤ (((List.range (n * inf.size)).map fun i => bc.getD i Go.undef).toArray ++ ccd ++ rest).size := by
          have := hvcd.1
          simp [hsz, hnl]; omega
        obtain ⟨k1, k2⟩ := row_step (E := ⟨rows, m, wd, X⟩) hreld (r' := ⟨row.cells ++ xs, row.esz, .grown⟩) hrow hst hm (b' := wd.heap.size)
          (w' := wd.alloc (.cells (((List.range (n * inf.size)).map fun i => bc.getD i Go.undef).toArray ++ ccd ++ rest) el)) (.inr ⟨rfl, rfl, rfl⟩) (.inr rfl) (fun h => by simp at h) rfl
          (fun _ => ⟨⟨xs, rfl, .inr hk0⟩, hdata⟩) hsize (fun h => by have := lt_of_heap hbd; exact absurd h (by show ¬ wd.heap.size = b; omega)) hget
        refine ⟨_, _, _, hrun, k1, hvalid _ rfl _ cap' _ el (if_pos rfl) (alloc_new _ _) (lt_of_heap (alloc_new wd _)) hcap' ?_ ?_ ?_ (fun j hj => (k2.val _ _ (hget j hj) (hget j hj).refLt)), by simp, hevd.trans k2⟩
        · have := hvcd.1
          have h4 : cap' * (sz + 1) = (n + k) * (sz + 1) + (cap' - (n + k)) * (sz + 1) := by rw [← Nat.add_mul]; congr 1; omega
          have h5 : (n + k) * (sz + 1) = n * (sz + 1) + k * (sz + 1) := Nat.add_mul _ _ _
          simp [hsz, hrest, hzs]; omega
        · intro o hx
          have := hreld.xlt _ o hx
          exact absurd this (by show ¬ wd.heap.size < wd.heap.size; omega)
        · intro i r2 h1 h2 h3
          exact k1.inj i id r2 ⟨row.cells ++ xs, row.esz, .grown⟩ wd.heap.size h1 (get_set_same hrow) h2 (by simp) h3 (by simp)
      · -- in place
        have hput := run_storeCells_at (P := P) b (n * inf.size) be cc.toList 0 bc w hb (by
          have h1 : (n + k) * (sz + 1) ≤ cap * (sz + 1) := Nat.mul_le_mul_right _ hfits
          have h2 : (n + k) * (sz + 1) = n * (sz + 1) + k * (sz + 1) := Nat.add_mul _ _ _
          have := hvc.1
          simp [hsz]; omega) honec
        rw [setRow_upd hb] at hput
        have hrun := run_append_fits (P := P) (w := w) (ty := ty) (base := some ⟨b, 0, none⟩) (sLen := n) (sCap := cap) hs hi ht0 ht1 hd hdi hlen hfits (by rw [hsz]; exact hfc) (by
          simp only [addr_add, Nat.zero_add]
          exact hput)
        have hget : ∀ j, j < (row.cells ++ xs).length → V ⟨rows, m, w, X⟩ ((row.cells ++ xs).getD j .undef) ((bc.toList.take (n * inf.size + 0) ++ cc.toList ++ bc.toList.drop (n * inf.size + 0 + cc.toList.length)).toArray.getD j Go.undef) := by
          intro j hj
          simp only [List.length_append] at hj
          have ht : (bc.toList.take (n * inf.size + 0)).length = row.cells.length := by simp [hsz, hnl]; omega
          simp only [Array.getD_eq_getD_getElem?, List.getElem?_toArray, List.getD_eq_getElem?_getD]
          rw [List.append_assoc]
          rcases Nat.lt_or_ge j row.cells.length with hlt | hge
          · rw [List.getElem?_append_left hlt, List.getElem?_append_left (by omega), List.getElem?_take_of_lt (by simp [hsz, hnl]; exact hlt)]
            have := hbv j hlt
            simpa [List.getD_eq_getElem?_getD, Array.getD_eq_getD_getElem?] using this
          · rw [List.getElem?_append_right hge, List.getElem?_append_right (by omega), ht]
            have hjx : j - row.cells.length < xs.length := by omega
            rw [List.getElem?_append_left (by have := hvc.1; simp; omega)]
            have := hvc.2 _ hjx
            simpa [List.getD_eq_getElem?_getD, Array.getD_eq_getD_getElem?] using this
        have hcsz : (bc.toList.take (n * inf.size + 0) ++ cc.toList ++ bc.toList.drop (n * inf.size + 0 + cc.toList.length)).toArray.size = bc.size := by
          have h1 : (n + k) * (sz + 1) ≤ cap * (sz + 1) := Nat.mul_le_mul_right _ hfits
          have h2 : (n + k) * (sz + 1) = n * (sz + 1) + k * (sz + 1) := Nat.add_mul _ _ _
          have := hvc.1
          simp [hsz]; omega
        have hold : ∀ j, j < row.cells.length → (bc.toList.take (n * inf.size + 0) ++ cc.toList ++ bc.toList.drop (n * inf.size + 0 + cc.toList.length)).toArray.getD j Go.undef = bc.getD j Go.undef := by
          intro j hlt
          have ht : (bc.toList.take (n * inf.size + 0)).length = row.cells.length := by simp [hsz, hnl]; omega
          simp only [Array.getD_eq_getD_getElem?, List.getElem?_toArray]
          rw [List.append_assoc, List.getElem?_append_left (by omega), List.getElem?_take_of_lt (by simp [hsz, hnl]; exact hlt)]
          simp
        have hlsz : (row.cells ++ xs).length ≤ bc.size := by
          have h1 : (n + k) * (sz + 1) ≤ cap * (sz + 1) := Nat.mul_le_mul_right _ hfits
          have h2 : (n + k) * (sz + 1) = n * (sz + 1) + k * (sz + 1) := Nat.add_mul _ _ _
          simp; omega
        obtain ⟨k1, k2⟩ := row_step (E := ⟨rows, m, w, X⟩) hrel (r' := ⟨row.cells ++ xs, row.esz, .grown⟩) hrow hst hm (b' := b)
          (w' := upd w b (.cells (bc.toList.take (n * inf.size + 0) ++ cc.toList ++ bc.toList.drop (n * inf.size + 0 + cc.toList.length)).toArray be (0, 0))) (.inl ⟨rfl, rfl⟩) (.inr rfl) (fun h => by simp at h) rfl
          (fun _ => ⟨⟨xs, rfl, .inl rfl⟩, hdata⟩) (by rw [hcsz]; exact hlsz) (fun _ c0 e0 h0 => by rw [show (Env.mk rows m w X).w = w from rfl, hb] at h0; cases h0; exact ⟨hcsz, fun _ => hold⟩) hget
        refine ⟨_, _, _, hrun, k1, hvalid _ rfl b cap _ be (by simp) (upd_same (lt_of_heap hb)) (by rw [show (Env.mk _ _ (upd w b _) X).w = upd w b _ from rfl, upd_size]; exact lt_of_heap hb) hfits (by rw [hcsz]; exact hcapsz) ?_ ?_ (fun j hj => (k2.val _ _ (hget j hj) (hget j hj).refLt)), by simp, k2⟩
        · intro o hx; exact hrel.xr id row b hrow (by rcases hst with h | h <;> simp [h]) hm o hx
        · intro i r2 h1 h2 h3
          exact k1.inj i id r2 ⟨row.cells ++ xs, row.esz, .grown⟩ b h1 (get_set_same hrow) h2 (by simp) h3 (by simp)
    generalize hxx : AVal.row id 0 n = y at hv
    cases hv <;> simp at hxx
    · rename_i b cap r2 hr2 hs2 hm2 hn2 ho2 hcc2
      obtain ⟨rfl, rfl, rfl⟩ := hxx
      rw [hrow] at hr2; cases hr2
      exact block b cap rfl hm2 hn2 hcc2
    · rename_i r2 bs hr2 hs2
      obtain ⟨rfl, rfl⟩ := hxx
      rw [hrow] at hr2; cases hr2
      have hc0 := hn0 rfl
      rcases hs2 with hs2 | ⟨hs2, hm2⟩ | ⟨_, hs2⟩
      · rcases hst with h | h <;> simp [hs2] at h
      · -- a row without a block
        rcases Nat.eq_zero_or_pos k with rfl | hkp
        · have hx0 : xs = [] := List.eq_nil_of_length_eq_zero (by rw [hxl]; simp)
          subst hx0
          have hcc : cc = #[] := Array.eq_empty_of_size_eq_zero (by have := hvc.1; simp at this; exact this.symm)
          subst hcc
          obtain ⟨k1, k2⟩ := virt_step (E := ⟨rows, m, w, X⟩) hrel (r' := ⟨row.cells ++ [], row.esz, .grown⟩) hrow hst hm2 hc0 rfl rfl hdata (w' := w) (mb := none) (c' := #[]) (e' := 0) (.inl ⟨rfl, rfl, by simp [hc0]⟩)
          refine ⟨.slice (bs.map fun p => ⟨p.1, p.2, none⟩) 0 0, w, _, ?_, k1, .rowV _ ⟨row.cells ++ [], row.esz, .grown⟩ bs (get_set_same hrow) (.inr (.inl ⟨.inr rfl, by simp⟩)), by simp, k2⟩
          refine run_append_fits hs hi ht0 ht1 hd hdi hlen (Nat.le_refl _) (by rw [hsz]; exact hfc) ?_
          cases bs with
          | none => rfl
          | some p => rfl
        · obtain ⟨cap, rest, hcap, hrun, hrest⟩ := run_append_new (P := P) (w := w) (ty := ty) (base := bs.map fun p => ⟨p.1, p.2, none⟩) (sLen := 0) (sCap := 0) (old := #[]) hs hi hz ht0 ht1 hd hdi hlen (by omega) ⟨by omega, hby2⟩ hby1
            (by cases bs with
              | none => rfl
              | some p => simp only [Option.map_some, Builtin.firstCells, Nat.zero_mul]; exact run_loadCells _ _ 0 (fun _ => Go.undef) (fun j hj => by omega))
            (by rw [hsz]; exact hfcd)
          have hget : ∀ j, j < (row.cells ++ xs).length → V ⟨rows, m, wd, X⟩ ((row.cells ++ xs).getD j .undef) ((#[] ++ ccd ++ rest).getD j Go.undef) := by
            intro j hj
            rw [hc0] at hj ⊢
            simp only [List.nil_append] at hj ⊢
            have h1 := hvcd.2 j hj
            have h2 : j < ccd.size := by rw [← hvcd.1]; exact hj
            have e : (#[] ++ ccd ++ rest).getD j Go.undef = ccd.getD j Go.undef := by
              simp only [Array.empty_append, Array.getD_eq_getD_getElem?]
              rw [Array.getElem?_append_left h2]
            rw [e]; exact h1
          have hxne : row.cells ++ xs ≠ [] := by
            rw [hc0]; intro h0; simp at h0
            have h1 : k * (sz + 1) = 0 := by rw [← hxl, h0]; rfl
            rcases Nat.mul_eq_zero.1 h1 with h | h <;> omega
          obtain ⟨k1, k2⟩ := virt_step (E := ⟨rows, m, wd, X⟩) hreld (r' := ⟨row.cells ++ xs, row.esz, .grown⟩) hrow hst hm2 hc0 rfl rfl hdata (w' := wd.alloc (.cells (#[] ++ ccd ++ rest) el)) (mb := some wd.heap.size) (c' := #[] ++ ccd ++ rest) (e' := el)
            (.inr ⟨rfl, rfl, hxne, by have := hvcd.1; simp [hc0]; omega, hget⟩)
          have hl' : (row.cells ++ xs).length = k * (sz + 1) := by rw [hc0]; simpa using hxl
          have h4 : cap * (sz + 1) = k * (sz + 1) + (cap - k) * (sz + 1) := by rw [← Nat.add_mul]; congr 1; omega
          have hbk : (wd.alloc (.cells (#[] ++ ccd ++ rest) el)).heap[wd.heap.size]? = some (.cells (#[] ++ ccd ++ rest) el (0, 0)) := alloc_new _ _
          have hcsz : (#[] ++ ccd ++ rest).size = cap * (sz + 1) := by
            have := hvcd.1
            simp only [Array.empty_append, Array.size_append, hrest, hzs, Nat.zero_add]; omega
          refine ⟨_, _, _, hrun, k1, V.rowG id 0 (0 + k) _ 0 cap ⟨row.cells ++ xs, row.esz, .grown⟩ (fun i => (#[] ++ ccd ++ rest).getD i Go.undef) (get_set_same hrow) (.inl rfl) hcap (by simp only [hesz, Nat.zero_add]; omega) (fun i hi => ?_) (fun i hi => ?_) (fun i hi => ?_) (fun _ _ => ⟨if_pos rfl, rfl, fun i hi => ?_⟩), by simp, hevd.trans k2⟩
          · have hi' := hi; simp only [hesz, Nat.zero_add] at hi'; rw [Nat.zero_add]; exact (dataAll_iff _).1 hdata i (by omega)
          · have hi' := hi; simp only [hesz, Nat.zero_add] at hi'; rw [Nat.zero_add]
            have := hget i (by omega)
            exact k2.val _ _ this this.refLt
          · have hi' := hi; simp only [hesz, Nat.zero_add] at hi'; rw [Nat.zero_add]
            refine ⟨cell_getD hbk (by omega), lt_of_heap hbk, fun hx => ?_, fun i2 r2 h1 h2 h3 => ?_⟩
            · have := hreld.xlt _ _ hx; exact absurd this (by show ¬ wd.heap.size < wd.heap.size; omega)
            · have := k1.inj i2 id r2 ⟨row.cells ++ xs, row.esz, .grown⟩ wd.heap.size h1 (get_set_same hrow) h2 (by simp) h3 (by simp)
              subst this
              rw [get_set_same hrow] at h1; cases h1
              exact ⟨rfl, by simp only []; omega⟩
          · simp only [hesz] at hi; rw [Nat.zero_add, isSome_cell hbk, hcsz]; exact hi
      · exact absurd hc0 hs2
    · rename_i b o cap r2 vs hr2 hs2 hn2 ho2 hd2 hvv hmm he2
      obtain ⟨rfl, rfl, rfl⟩ := hxx
      rw [hrow] at hr2; cases hr2
      have hg : row.st = .grown := by
        rcases hst with h | h
        · rcases hs2 with h2 | h2 <;> simp [h] at h2
        · exact h
      obtain ⟨q1, q2, q3⟩ := he2 hg (by rw [hesz]; omega)
      subst q2
      exact block b cap rfl q1 hn2 q3
  · simp at h
end Go.Abs
