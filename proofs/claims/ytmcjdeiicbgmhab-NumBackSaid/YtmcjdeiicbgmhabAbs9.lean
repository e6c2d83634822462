/- Library: an abstract machine over the model, part 9. -/
import Derived.Test.YtmcjdeiicbgmhabAbs8
set_option linter.unusedVariables false
set_option linter.unusedSimpArgs false
namespace Go.Abs
open Go

/-- A pointer or handle that still stands. -/
def standsB (rows : List Row) (x : AVal) : Bool :=
  match x with
  | .ptr id _ => match rows[id]? with
    | some r => decide (r.st = .fresh)
    | none => false
  | _ => true
theorem stands_spec {rows : List Row} {x : AVal} (h : standsB rows x = true) : ∀ id off, x = .ptr id off → ∃ r, rows[id]? = some r ∧ r.st = .fresh := by
  rintro id off rfl
  simp only [standsB] at h
  split at h
  · rename_i r hr; exact ⟨r, hr, by simpa using h⟩
  · simp at h

def eszOf (P : Program) (e : TypeId) : Option Nat :=
  match P.underlying e with
  | some (.array _ el) => tyS P el
  | some _ => tyS P e
  | none => none

/-- A new variable. -/
theorem newRow_spec {P : Program} {rows : List Row} {X : Nat → Nat → Prop} {m : Nat → Option Nat} {w : World} (hrel : Rel ⟨rows, m, w, X⟩) {cs : List AVal} {c : Array Value} (hc : VC ⟨rows, m, w, X⟩ cs c) (esz : Nat) (e : TypeId) :
    ∃ w' m', (newRow e c).run P w = .ok ⟨w.heap.size, 0, none⟩ w' ∧ Rel ⟨rows ++ [⟨cs, esz, .fresh⟩], m', w', X⟩ ∧ m' rows.length = some w.heap.size ∧
      Evo rows.length ⟨rows, m, w, X⟩ ⟨rows ++ [⟨cs, esz, .fresh⟩], m', w', X⟩ ∧ w' = w.alloc (.cells c e) := by
  obtain ⟨h1, h2⟩ := alloc_step hrel ⟨cs, esz, .fresh⟩ c e rfl (Nat.le_of_eq hc.1) (fun j hj => hc.2 j hj)
  refine ⟨_, _, ?_, h1, ?_, h2, rfl⟩
  · simp [newRow, newObj, Sem.run]
  · simp

/-! ### load -/
def loadA (P : Program) (t : TypeId) (rows : List Row) (x : AVal) : Option (Prop × AVal) :=
  match P.underlying t, tyS P t with
  | some d, some n =>
    match x with
    | .ptr id off => match rows[id]? with
      | some r => if r.st = .fresh then
          (if isAggD d then some (off + n ≤ r.cells.length, .agg ((r.cells.drop off).take n)) else some (off < r.cells.length, r.cells.getD off .undef))
        else none
      | none => none
    | .dptr cs => if isAggD d then some (n ≤ cs.length, .agg (cs.take n)) else some (0 < cs.length, cs.getD 0 .undef)
    | _ => none
  | _, _ => none

theorem load_spec {P : Program} {t : TypeId} {rows : List Row} {x r : AVal} {c : Prop} (h : loadA P t rows x = some (c, r)) (hc : c) {X : Nat → Nat → Prop} {m : Nat → Option Nat} {w : World} {v : Value}
    (hrel : Rel ⟨rows, m, w, X⟩) (hv : V ⟨rows, m, w, X⟩ x v) : ∃ u, (Instr.loadAt t v).run P w = .ok u w ∧ V ⟨rows, m, w, X⟩ r u := by
  unfold loadA at h
  split at h
  · rename_i d n hd hn
    split at h
    · rename_i id off
      split at h
      · rename_i row hrow
        split at h
        · rename_i hs
          obtain ⟨b, rfl, hm⟩ := hv.ptr_inv hrow hs
          obtain ⟨cc, e, hb, hbl, hbv⟩ := hrel.block hrow (.inl hs) hm
          simp only [Instr.loadAt, Instr.sureAddr, Sem.run_bind, Sem.run_pure, Result.andThen_ok]
          split at h
          · rename_i hagg
            simp only [Option.some.injEq, Prod.mk.injEq] at h
            obtain ⟨rfl, rfl⟩ := h
            have hc' : off + n ≤ row.cells.length := hc
            rw [run_loadVar_agg hd hagg hn (f := fun j => cc.getD (off + j) Go.undef) (fun j hj => cell_getD hb (by omega))]
            refine ⟨_, rfl, .agg _ _ (by simp; omega) fun i hi => ?_⟩
            have hi' : i < n := by simp at hi; omega
            have := hbv (off + i) (by omega)
            simpa [List.getD_eq_getElem?_getD, List.getElem?_take, hi'] using this
          · rename_i hagg
            simp only [Option.some.injEq, Prod.mk.injEq] at h
            obtain ⟨rfl, rfl⟩ := h
            have hc' : off < row.cells.length := hc
            rw [run_loadVar_one hd (by simpa using hagg) (cell_getD hb (by omega : off < cc.size))]
            exact ⟨_, rfl, hbv off hc'⟩
        · simp at h
      · simp at h
    · rename_i cs
      obtain ⟨b, o, vs, rfl, hdd, hvv, hmm⟩ := hv.dptr_inv
      simp only [Instr.loadAt, Instr.sureAddr, Sem.run_bind, Sem.run_pure, Result.andThen_ok]
      split at h
      · rename_i hagg
        simp only [Option.some.injEq, Prod.mk.injEq] at h
        obtain ⟨rfl, rfl⟩ := h
        have hc' : n ≤ cs.length := hc
        rw [run_loadVar_agg hd hagg hn (f := vs) (fun j hj => (hmm j (by omega)).1)]
        refine ⟨_, rfl, .agg _ _ (by simp; omega) fun i hi => ?_⟩
        have hi' : i < n := by simp at hi; omega
        have := hvv i (by omega)
        simpa [List.getD_eq_getElem?_getD, List.getElem?_take, hi'] using this
      · rename_i hagg
        simp only [Option.some.injEq, Prod.mk.injEq] at h
        obtain ⟨rfl, rfl⟩ := h
        have hc' : 0 < cs.length := hc
        rw [run_loadVar_one hd (by simpa using hagg) (v := vs 0) (by simpa using (hmm 0 hc').1)]
        exact ⟨_, rfl, hvv 0 hc'⟩
    · simp at h
  · simp at h

/-! ### store -/
def spliceA (l : List AVal) (off : Nat) : List AVal → List AVal
  | [] => l
  | c :: r => spliceA (l.set off c) (off + 1) r
theorem spliceA_length (cs : List AVal) : ∀ (l : List AVal) (off : Nat), (spliceA l off cs).length = l.length := by
  induction cs with
  | nil => intro l off; rfl
  | cons c r ih => intro l off; simp [spliceA, ih]
theorem spliceA_getD (cs : List AVal) : ∀ (l : List AVal) (off j : Nat), off + cs.length ≤ l.length → (spliceA l off cs).getD j .undef = if off ≤ j ∧ j < off + cs.length then cs.getD (j - off) .undef else l.getD j .undef := by
  induction cs with
  | nil => intro l off j h; simp only [spliceA]; rw [if_neg (by simp only [List.length_nil]; omega)]
  | cons c r ih =>
    intro l off j h
    simp only [List.length_cons] at h
    simp only [spliceA]
    rw [ih _ _ _ (by simp; omega)]
    by_cases h1 : off + 1 ≤ j ∧ j < off + 1 + r.length
    · rw [if_pos h1, if_pos (by simp; omega)]
      rw [show j - off = (j - (off + 1)) + 1 by omega]; simp
    · rw [if_neg h1]
      by_cases h2 : j = off
      · subst h2
        rw [if_pos (by simp)]
        simp [List.getD_eq_getElem?_getD, show j < l.length by omega]
      · rw [if_neg (by simp; omega)]
        simp [List.getD_eq_getElem?_getD, List.getElem?_set, Ne.symm h2]

def storeA (P : Program) (t : TypeId) (rows : List Row) (p x : AVal) : Option (Prop × List Row) :=
  match tyS P t, p, x.cellsA with
  | some n, .ptr id off, some cs => match rows[id]? with
    | some r => if r.st = .fresh ∧ cs.length = n ∧ standsB rows x = true ∧ cs.all (fun c => c.one && standsB rows c) = true then
        some (off + n ≤ r.cells.length, rows.set id { r with cells := spliceA r.cells off cs }) else none
    | none => none
  | _, _, _ => none

theorem store_spec {P : Program} {t : TypeId} {rows rows' : List Row} {p x : AVal} {c : Prop} (h : storeA P t rows p x = some (c, rows')) (hc : c) {X : Nat → Nat → Prop} {m : Nat → Option Nat} {w : World} {a v : Value}
    (hrel : Rel ⟨rows, m, w, X⟩) (hp : V ⟨rows, m, w, X⟩ p a) (hv : V ⟨rows, m, w, X⟩ x v) :
    ∃ w' m', (Instr.storeAt t a v).run P w = .ok () w' ∧ Rel ⟨rows', m', w', X⟩ ∧ rows.length ≤ rows'.length ∧ Evo rows.length ⟨rows, m, w, X⟩ ⟨rows', m', w', X⟩ := by
  unfold storeA at h
  split at h
  · rename_i n id off cs hn hcs
    split at h
    · rename_i r hr
      split at h
      · rename_i hcond
        obtain ⟨hs, hlen, hst, hall⟩ := hcond
        simp only [Option.some.injEq, Prod.mk.injEq] at h
        obtain ⟨rfl, rfl⟩ := h
        have hc' : off + n ≤ r.cells.length := hc
        obtain ⟨b, rfl, hm⟩ := hp.ptr_inv hr hs
        obtain ⟨cc, e, hb, hbl, hbv⟩ := hrel.block hr (.inl hs) hm
        have hvc := hv.cells hcs (stands_spec hst)
        have hsz : v.cells.size = n := by rw [← hvc.1, hlen]
        have hone : ∀ y ∈ v.cells.toList, y.oneCell' = true := by
          intro y hy
          obtain ⟨i, hi, rfl⟩ := List.mem_iff_getElem.1 hy
          have hi' : i < cs.length := by rw [hvc.1]; simpa using hi
          have hVi := hvc.2 i hi'
          have hcm := List.all_eq_true.1 hall (cs.getD i .undef) (by rw [List.getD_eq_getElem?_getD, List.getElem?_eq_getElem hi']; exact List.getElem_mem hi')
          simp only [Bool.and_eq_true] at hcm
          have := hVi.oneCell hcm.1 (stands_spec hcm.2)
          have hi2 : i < v.cells.size := by simpa using hi
          simpa [Array.getD, hi2] using this
        have hrun := run_storeVar (P := P) (t := t) (w := w) (b := b) (o := off) (c := cc) (e := e) (v := v) (by rw [hn, hsz]) hb (by omega) hone
        obtain ⟨k1, k2⟩ := row_step (E := ⟨rows, m, w, X⟩) hrel (r' := { r with cells := spliceA r.cells off cs }) hr (.inl hs) hm
          (w' := upd w b (.cells (cc.toList.take off ++ v.cells.toList ++ cc.toList.drop (off + v.cells.size)).toArray e (0, 0))) (b' := b)
          (c' := (cc.toList.take off ++ v.cells.toList ++ cc.toList.drop (off + v.cells.size)).toArray) (e' := e) (.inl ⟨rfl, rfl⟩) (.inl hs)
          (fun _ => ⟨hs, by simp [spliceA_length]⟩) rfl (fun hg => by rw [show ({ r with cells := spliceA r.cells off cs } : Row).st = r.st from rfl, hs] at hg; simp at hg)
          (by simp [spliceA_length]; omega)
          (fun _ c0 e0 h0 => by rw [show (Env.mk rows m w X).w = w from rfl, hb] at h0; cases h0; exact ⟨by simp; omega, fun hg => by rw [show ({ r with cells := spliceA r.cells off cs } : Row).st = r.st from rfl, hs] at hg; simp at hg⟩)
          (fun j hj => by
            simp only [spliceA_length] at hj
            show V _ ((spliceA r.cells off cs).getD j .undef) _
            rw [spliceA_getD cs r.cells off j (by omega)]
            by_cases hj2 : off ≤ j ∧ j < off + cs.length
            · rw [if_pos hj2]
              have := hvc.2 (j - off) (by omega)
              have e1 : (cc.toList.take off ++ v.cells.toList ++ cc.toList.drop (off + v.cells.size)).toArray.getD j Go.undef = v.cells.getD (j - off) Go.undef := by
                have l1 : (cc.toList.take off).length = off := by simp; omega
                simp only [Array.getD_eq_getD_getElem?, List.getElem?_toArray]
                rw [List.getElem?_append_left (by simp; omega), List.getElem?_append_right (by omega), l1]
                simp
              rw [e1]; exact this
            · rw [if_neg hj2]
              have := hbv j (by omega)
              have e1 : (cc.toList.take off ++ v.cells.toList ++ cc.toList.drop (off + v.cells.size)).toArray.getD j Go.undef = cc.getD j Go.undef := by
                have l1 : (cc.toList.take off).length = off := by simp; omega
                simp only [Array.getD_eq_getD_getElem?, List.getElem?_toArray]
                rcases Nat.lt_or_ge j off with hlt | hge
                · rw [List.append_assoc, List.getElem?_append_left (by omega), List.getElem?_take_of_lt hlt]; simp
                · rw [List.getElem?_append_right (by simp; omega)]
                  simp only [List.length_append, l1, Array.length_toList, List.getElem?_drop, Array.getElem?_toList]
                  congr 2; omega
              rw [e1]; exact this)
        refine ⟨_, _, ?_, k1, by simp, k2⟩
        simp only [Instr.storeAt, Instr.sureAddr, Sem.run_bind, Sem.run_pure, Result.andThen_ok]
        exact hrun
      · simp at h
    · simp at h
  · simp at h

/-! ### build -/
def partsA (ρ : Operand → AVal) : List (Nat × Operand) → Option (List (Nat × List AVal))
  | [] => some []
  | (i, x) :: r => match (ρ x).cellsA, partsA ρ r with
    | some cs, some l => some ((i, cs) :: l)
    | _, _ => none
def fillA (place : Nat → Option (Nat × Nat)) (cells : List AVal) : List (Nat × List AVal) → Option (List AVal)
  | [] => some cells
  | (i, cs) :: rest =>
    match place i with
    | none => none
    | some (off, size) => if cs.length = size ∧ off + cs.length ≤ cells.length then fillA place (spliceA cells off cs) rest else none

theorem foldl_splice : ∀ (l : List Value) (cs : Array Value) (off k : Nat), off + k + l.length ≤ cs.size →
    let r := (l.zipIdx k).foldl (fun (cs : Array Value) (p : Value × Nat) => cs.setIfInBounds (off + p.2) p.1) cs
    r.size = cs.size ∧ ∀ j, r.getD j Go.undef = if off + k ≤ j ∧ j < off + k + l.length then l.getD (j - (off + k)) Go.undef else cs.getD j Go.undef
  | [], cs, off, k, h => by
    refine ⟨rfl, fun j => ?_⟩
    rw [if_neg (by simp only [List.length_nil]; omega)]; rfl
  | v :: l, cs, off, k, h => by
    simp only [List.length_cons] at h
    have ih := foldl_splice l (cs.setIfInBounds (off + k) v) off (k + 1) (by simp; omega)
    simp only [List.zipIdx_cons, List.foldl_cons]
    refine ⟨by rw [ih.1]; simp, fun j => ?_⟩
    rw [ih.2 j]
    by_cases h1 : off + (k + 1) ≤ j ∧ j < off + (k + 1) + l.length
    · rw [if_pos h1, if_pos (by simp; omega)]
      rw [show j - (off + k) = (j - (off + (k + 1))) + 1 by omega]; simp
    · rw [if_neg h1]
      by_cases h2 : j = off + k
      · subst h2
        rw [if_pos (by simp)]
        simp [Array.getD, show off + k < cs.size by omega]
      · rw [if_neg (by simp; omega)]
        simp only [Array.getD_eq_getD_getElem?, Array.getElem?_setIfInBounds]
        rw [if_neg (Ne.symm h2)]

theorem fill_spec {E : Env} {place : Nat → Option (Nat × Nat)} : ∀ (ps : List (Nat × List AVal)) (qs : List (Nat × Value)) (cells : List AVal) (c : Array Value) {out : List AVal}, ps.length = qs.length →
    (∀ i, i < ps.length → (ps.getD i (0, [])).1 = (qs.getD i (0, Go.undef)).1 ∧ VC E (ps.getD i (0, [])).2 (qs.getD i (0, Go.undef)).2.cells) → VC E cells c → fillA place cells ps = some out →
    ∃ c', Instr.fill place c qs = some c' ∧ VC E out c'
  | [], [], cells, c, out, _, _, hv, h => by simp [fillA] at h; subst h; exact ⟨c, rfl, hv⟩
  | (i, cs) :: ps, (i', v) :: qs, cells, c, out, hl, hp, hv, h => by
    have h0 := hp 0 (by simp)
    simp only [List.getD_cons_zero] at h0
    obtain ⟨rfl, hcs⟩ := h0
    simp only [fillA] at h
    cases hpl : place i with
    | none => simp [hpl] at h
    | some q =>
      obtain ⟨off, size⟩ := q
      simp only [hpl] at h
      split at h
      · rename_i hc
        have hsz : v.cells.size = size := by rw [← hcs.1, hc.1]
        have hle : off + v.cells.size ≤ c.size := by rw [← hv.1, hsz, ← hc.1]; exact hc.2
        simp only [Instr.fill, hpl]
        rw [if_neg (by simp [hsz]; omega)]
        have hf := foldl_splice v.cells.toList c off 0 (by simp; omega)
        have e : v.cells.zipIdx.foldl (fun cs (p : Value × Nat) => cs.setIfInBounds (off + p.2) p.1) c = (v.cells.toList.zipIdx 0).foldl (fun (cs : Array Value) (p : Value × Nat) => cs.setIfInBounds (off + p.2) p.1) c := by
          rw [← Array.foldl_toList]; simp
        refine fill_spec ps qs (spliceA cells off cs) _ (by simpa using hl) (fun k hk => by have := hp (k + 1) (by simpa using hk); simpa using this) ?_ h
        rw [show (v.cells.zipIdx.foldl (fun cs x => match x with | (c, j) => cs.setIfInBounds (off + j) c) c) = v.cells.zipIdx.foldl (fun cs (p : Value × Nat) => cs.setIfInBounds (off + p.2) p.1) c from rfl, e]
        refine ⟨by rw [spliceA_length, hv.1, hf.1], fun j hj => ?_⟩
        rw [spliceA_length] at hj
        rw [spliceA_getD cs cells off j hc.2, hf.2 j]
        simp only [Nat.add_zero, Array.length_toList, ← hcs.1]
        by_cases hj2 : off ≤ j ∧ j < off + cs.length
        · rw [if_pos hj2, if_pos hj2]
          have := hcs.2 (j - off) (by omega)
          simpa [List.getD_eq_getElem?_getD, Array.getD_eq_getD_getElem?] using this
        · rw [if_neg hj2, if_neg hj2]; exact hv.2 j hj
      · simp at h

theorem parts_spec {E : Env} {ρ : Operand → AVal} {τ : Operand → Value} : ∀ (l : List (Nat × Operand)) {ps : List (Nat × List AVal)}, partsA ρ l = some ps → (∀ x ∈ l.map (·.2), V E (ρ x) (τ x) ∧ standsB E.rows (ρ x) = true) →
    ps.length = (l.map fun p => (p.1, τ p.2)).length ∧ ∀ i, i < ps.length → (ps.getD i (0, [])).1 = ((l.map fun p => (p.1, τ p.2)).getD i (0, Go.undef)).1 ∧ VC E (ps.getD i (0, [])).2 ((l.map fun p => (p.1, τ p.2)).getD i (0, Go.undef)).2.cells
  | [], ps, h, _ => by simp [partsA] at h; subst h; exact ⟨rfl, fun i hi => by simp at hi⟩
  | (i, x) :: l, ps, h, hv => by
    simp only [partsA] at h
    split at h
    · rename_i cs ps' h1 h2
      simp at h; subst h
      obtain ⟨k1, k2⟩ := parts_spec l h2 (fun y hy => hv y (by simp at hy ⊢; exact .inr hy))
      obtain ⟨hx, hst⟩ := hv x (by simp)
      refine ⟨by simp at k1 ⊢; exact k1, fun j hj => ?_⟩
      cases j with
      | zero => exact ⟨rfl, hx.cells h1 (stands_spec hst)⟩
      | succ j => simpa using k2 j (by simpa using hj)
    · simp at h
end Go.Abs
