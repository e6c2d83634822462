/- Library: an abstract machine over the model, part 12. -/
import Derived.Test.YtmcjdeiicbgmhabAbs11
set_option linter.unusedVariables false
set_option linter.unusedSimpArgs false
namespace Go.Abs
open Go

/-! ### slices of slices -/
def optInt (ρ : Operand → AVal) : Option Operand → Option (Option Int)
  | none => some none
  | some x => match asIntA (ρ x) with
    | some (_, n) => some (some n)
    | none => none

theorem run_sliceBound {P : Program} {k : IntKind} {n : Int} {y : Nat} {code : BoundsCode} {w : World} (h : 0 ≤ n ∧ n ≤ y) : (Instr.sliceBound (.int k n) y code).run P w = .ok n.toNat w := by
  simp only [Instr.sliceBound, asIntOf, Sem.run_bind, Sem.run_pure, Result.andThen_ok]
  rw [if_pos h]; rfl

/-- The bounds, where they fit. -/
theorem run_sliceBounds {P : Program} {w : World} {b : Bool} {len cap : Nat} {ρ : Operand → AVal} {τ : Operand → Value} {E : Env} {lo hi mx : Option Operand} {l h : Option Int} {mm : Option Int}
    (hl : optInt ρ lo = some l) (hh : optInt ρ hi = some h) (hm : optInt ρ mx = some mm) (hv : ∀ x, (lo = some x ∨ hi = some x ∨ mx = some x) → V E (ρ x) (τ x))
    (hmh : mm.isSome = true → h.isSome = true)
    (hc : 0 ≤ l.getD 0 ∧ l.getD 0 ≤ h.getD len ∧ h.getD len ≤ mm.getD cap ∧ mm.getD cap ≤ cap) (hlen : len ≤ cap) :
    (Instr.sliceBounds b len cap (lo.map τ) (hi.map τ) (mx.map τ)).run P w = .ok ((l.getD 0).toNat, (h.getD len).toNat, (mm.getD cap).toNat) w := by
  have key : ∀ {o : Option Operand} {z : Option Int}, optInt ρ o = some z → (∀ x, o = some x → V E (ρ x) (τ x)) → (∃ k n, o.map τ = some (.int k n) ∧ z = some n) ∨ (o.map τ = none ∧ z = none) := by
    intro o z ho hv
    cases o with
    | none => simp [optInt] at ho; exact .inr ⟨rfl, ho.symm⟩
    | some x =>
      simp only [optInt] at ho
      split at ho
      · rename_i k n hk
        simp at ho
        exact .inl ⟨k, n, by simp [asInt_spec hk (hv x rfl)], ho.symm⟩
      · simp at ho
  obtain ⟨c1, c2, c3, c4⟩ := hc
  rcases key hm (fun x hx => hv x (by simp [hx])) with ⟨km, nm, em, rfl⟩ | ⟨em, rfl⟩ <;>
  rcases key hh (fun x hx => hv x (by simp [hx])) with ⟨kh, nh, eh, rfl⟩ | ⟨eh, rfl⟩ <;>
  rcases key hl (fun x hx => hv x (by simp [hx])) with ⟨kl, nl, el, rfl⟩ | ⟨el, rfl⟩ <;>
  simp only [Option.getD_some, Option.getD_none, Option.isSome_some, Option.isSome_none] at c1 c2 c3 c4 hmh ⊢ <;>
  (try (exfalso; simp at hmh; done)) <;>
  simp only [Instr.sliceBounds, em, eh, el, Sem.run_bind, Sem.run_pure, Result.andThen_ok, Option.isSome_some, Option.isSome_none, if_true]
  · rw [run_sliceBound (by omega)]; simp only [Result.andThen_ok]; rw [run_sliceBound (by omega)]; simp only [Result.andThen_ok]; rw [run_sliceBound (by omega)]; rfl
  · rw [run_sliceBound (by omega)]; simp only [Result.andThen_ok]; rw [run_sliceBound (by omega)]; rfl
  · rw [run_sliceBound (by omega)]; simp only [Result.andThen_ok]; rw [run_sliceBound (by omega)]; simp
  · rw [run_sliceBound (by omega)]; simp
  · rw [run_sliceBound (by omega)]; simp
  · simp

def zeroConst : Option Operand → Bool
  | some (.const (.int _ n)) => n == 0
  | _ => false

def sliceA (P : Program) (t : TypeId) (ρ : Operand → AVal) (x : AVal) (lo hi mx : Option Operand) (rows : List Row) : Option (Prop × AVal) :=
  match optInt ρ lo, optInt ρ hi, optInt ρ mx, P.underlying t with
  | some l, some h, some none, some .string => match x with
    | .sc (.string s) => some (0 ≤ l.getD 0 ∧ l.getD 0 ≤ h.getD s.size ∧ h.getD s.size ≤ s.size, .sc (.string (s.extract (l.getD 0).toNat (h.getD s.size).toNat)))
    | _ => none
  | some l, some h, some mm, some (.slice el) => match tyS P el, x with
    | some sz, .sl cells n k =>
      if mm.isSome = true ∧ h.isSome = false then none
      else if zeroConst mx = true then some (0 ≤ l.getD 0 ∧ l.getD 0 ≤ h.getD n ∧ h.getD n ≤ mm.getD n, .sl [] 0 .cap0)
      else some ((0 ≤ l.getD 0 ∧ l.getD 0 ≤ h.getD n ∧ h.getD n ≤ mm.getD n ∧ mm.getD n ≤ n) ∧ (h.getD n).toNat * sz ≤ cells.length,
        .sl ((cells.drop ((l.getD 0).toNat * sz)).take (((h.getD n).toNat - (l.getD 0).toNat) * sz)) ((h.getD n).toNat - (l.getD 0).toNat) .any)
    | some sz, .row id off n => match rows[id]? with
      | some r => if mm.isSome = true then none
        else if r.st = .fresh then some ((0 ≤ l.getD 0 ∧ l.getD 0 < n ∧ l.getD 0 ≤ h.getD n ∧ h.getD n ≤ n) ∧ r.esz = sz, .row id (off + (l.getD 0).toNat * sz) ((h.getD n).toNat - (l.getD 0).toNat)) else none
      | none => none
    | _, _ => none
  | some l, some h, some none, some (.array len el) => match tyS P el, x with
    | some sz, .ptr id off => match rows[id]? with
      | some r => if r.st = .fresh then some ((0 ≤ l.getD 0 ∧ l.getD 0 < len ∧ l.getD 0 ≤ h.getD len ∧ h.getD len ≤ len) ∧ r.esz = sz ∧ off + len * sz ≤ r.cells.length, .row id (off + (l.getD 0).toNat * sz) ((h.getD len).toNat - (l.getD 0).toNat)) else none
      | none => none
    | _, _ => none
  | _, _, _, _ => none

theorem optInt_none {ρ : Operand → AVal} {o : Option Operand} (h : optInt ρ o = some none) : o = none := by
  cases o with
  | none => rfl
  | some q => simp only [optInt] at h; split at h <;> simp at h

theorem slice_spec {P : Program} {t : TypeId} {ρ : Operand → AVal} {a : Act} {ox : Operand} {lo hi mx : Option Operand} {rows : List Row} {r : AVal} {c : Prop} (h : sliceA P t ρ (ρ ox) lo hi mx rows = some (c, r)) (hc : c)
    {X : Nat → Nat → Prop} {m : Nat → Option Nat} {w : World} (hrel : Rel ⟨rows, m, w, X⟩) (hx : V ⟨rows, m, w, X⟩ (ρ ox) (a.eval ox)) (hv : ∀ x, (lo = some x ∨ hi = some x ∨ mx = some x) → V ⟨rows, m, w, X⟩ (ρ x) (a.eval x)) :
    ∃ q, (Instr.sliceAt t (a.eval ox) (lo.map a.eval) (hi.map a.eval) (mx.map a.eval)).run P w = .ok q w ∧ V ⟨rows, m, w, X⟩ r q := by
  generalize a.eval ox = v at hx
  generalize ρ ox = x at h hx
  unfold sliceA at h
  split at h
  · -- string
    rename_i l hh hl hhh hm ht
    split at h
    · rename_i s
      simp only [Option.some.injEq, Prod.mk.injEq] at h
      obtain ⟨rfl, rfl⟩ := h
      have := hx.sc_inv
      subst this
      have hmn := optInt_none hm
      subst hmn
      refine ⟨_, ?_, .sc _ rfl⟩
      simp only [Instr.sliceAt, Sem.run_bind, run_underlying ht, Result.andThen_ok, Instr.slice, Option.map_none, Option.isSome_none, Bool.false_eq_true, if_false]
      have hb := run_sliceBounds (P := P) (w := w) (b := false) (len := s.size) (cap := s.size) (E := ⟨rows, m, w, X⟩) hl hhh hm hv (by simp) ⟨hc.1, hc.2.1, by simpa using hc.2.2, by simp⟩ (Nat.le_refl _)
      simp only [Option.map_none] at hb
      simp only [Sem.run_pure, Sem.run_bind, Result.andThen_ok, hb]
    · simp at h
  · -- slice
    rename_i l hh mm el hl hhh hm ht
    split at h
    · rename_i sz cells n k hsz
      split at h
      · simp at h
      · rename_i hmh
        have hmh' : mm.isSome = true → hh.isSome = true := fun h1 => by
          cases hhs : hh.isSome with
          | true => rfl
          | false => exact absurd ⟨h1, hhs⟩ hmh
        split at h
        · rename_i hz
          simp only [Option.some.injEq, Prod.mk.injEq] at h
          obtain ⟨rfl, rfl⟩ := h
          have hmm0 : mm = some 0 := by
            cases mx with
            | none => simp [zeroConst] at hz
            | some q =>
              cases q with
              | const u =>
                cases u <;> simp [zeroConst] at hz
                rename_i k0 n0
                subst hz
                have hvq := hv (.const (.int k0 0)) (by simp)
                simp only [optInt] at hm
                split at hm
                · rename_i k2 n2 hk2
                  simp at hm
                  have := asInt_spec hk2 hvq
                  simp [Act.eval] at this
                  rw [← hm, ← this.2]
                · simp at hm
              | _ => simp [zeroConst] at hz
          subst hmm0
          obtain ⟨c1, c2, c3⟩ := hc
          have hhn : ∃ h0, hh = some h0 := Option.isSome_iff_exists.1 (hmh' rfl)
          obtain ⟨h0, rfl⟩ := hhn
          simp only [Option.getD_some] at c2 c3
          have eh : h0 = 0 := by omega
          have el0 : l.getD 0 = 0 := by omega
          subst eh
          have hb : ∀ cap, n ≤ cap → (Instr.sliceBounds true n cap (lo.map a.eval) (hi.map a.eval) (mx.map a.eval)).run P w = .ok (0, 0, 0) w := by
            intro cap hcap
            have := run_sliceBounds (P := P) (w := w) (b := true) (len := n) (cap := cap) (E := ⟨rows, m, w, X⟩) hl hhh hm hv (by simp) (by simp; omega) hcap
            simpa [el0] using this
          rcases hx.sl_inv with ⟨rfl, rfl, rfl, _⟩ | ⟨b, o, cap, vs, rfl, hn, _, _, hdd, hvv, hmm⟩
          · refine ⟨.slice none 0 0, ?_, .slnil _ (by simp)⟩
            simp only [Instr.sliceAt, Sem.run_bind, run_underlying ht, Result.andThen_ok, Instr.slice, hb 0 (Nat.le_refl _), run_sizeOf' hsz]
            simp
          · refine ⟨.slice (some ⟨b, o, none⟩) 0 0, ?_, .slz b o⟩
            simp only [Instr.sliceAt, Sem.run_bind, run_underlying ht, Result.andThen_ok, Instr.slice, hb cap hn, run_sizeOf' hsz]
            simp
        · simp only [Option.some.injEq, Prod.mk.injEq] at h
          obtain ⟨rfl, rfl⟩ := h
          obtain ⟨⟨c1, c2, c3, c4⟩, c5⟩ := hc
          rcases hx.sl_inv with ⟨rfl, rfl, rfl, _⟩ | ⟨b, o, cap, vs, rfl, hn, _, _, hdd, hvv, hmm⟩
          · have e1 : hh.getD (0 : Nat) = 0 := by omega
            have e2 : l.getD 0 = 0 := by omega
            have e3 : mm.getD (0 : Nat) = 0 := by omega
            refine ⟨.slice none 0 0, ?_, ?_⟩
            · have := run_sliceBounds (P := P) (w := w) (b := true) (len := 0) (cap := 0) (E := ⟨rows, m, w, X⟩) hl hhh hm hv hmh' (by simp at e1 e3 ⊢; omega) (Nat.le_refl _)
              simp only [e2, Int.toNat_zero] at this
              simp only [Instr.sliceAt, Sem.run_bind, run_underlying ht, Result.andThen_ok, Instr.slice, this, run_sizeOf' hsz]
              simp at e1 e3
              simp [e1, e3]
            · simp at e1
              simp [e1, e2]
              exact .slnil _ (by simp)
          · have hmb : mm.getD cap ≤ cap ∧ hh.getD n ≤ mm.getD cap := by
              cases mm with
              | none => simp at c3 ⊢; omega
              | some q => simp at c3 c4 ⊢; omega
            have hb := run_sliceBounds (P := P) (w := w) (b := true) (len := n) (cap := cap) (E := ⟨rows, m, w, X⟩) hl hhh hm hv hmh' ⟨c1, c2, hmb.2, hmb.1⟩ hn
            generalize hL : (l.getD 0).toNat = L at *
            generalize hH : (hh.getD (n : Int)).toNat = H at *
            generalize hM : (mm.getD (cap : Int)).toNat = M at *
            have hLH : L ≤ H := by omega
            have hHM : H ≤ M := by omega
            have hHn : H ≤ n := by omega
            have hlen : ((cells.drop (L * sz)).take ((H - L) * sz)).length = (H - L) * sz := by
              have : L * sz + (H - L) * sz = H * sz := by rw [← Nat.add_mul]; congr 1; omega
              simp; omega
            refine ⟨.slice (some (if M = L then ⟨b, o, none⟩ else ⟨b, o + L * sz, none⟩)) (H - L) (M - L), ?_, ?_⟩
            · simp only [Instr.sliceAt, Sem.run_bind, run_underlying ht, Result.andThen_ok, Instr.slice, hb, run_sizeOf' hsz, Sem.run_pure]
              congr 1
              split <;> simp [addr_add]
            · by_cases hML : M = L
              · rw [if_pos hML]
                have h0 : H - L = 0 := by omega
                rw [h0]
                simp only [Nat.zero_mul, List.take_zero]
                exact .sl [] 0 .any b o (M - L) (fun _ => Go.undef) (.inl rfl) (by omega) rfl (fun i hi => by simp at hi) (fun i hi => by simp at hi)
              · rw [if_neg hML]
                have hget : ∀ i, i < (H - L) * sz → ((cells.drop (L * sz)).take ((H - L) * sz)).getD i .undef = cells.getD (L * sz + i) .undef := by
                  intro i hi
                  simp [List.getD_eq_getElem?_getD, List.getElem?_take, hi]
                have hbnd : ∀ i, i < (H - L) * sz → L * sz + i < cells.length := by
                  intro i hi
                  have : L * sz + (H - L) * sz = H * sz := by rw [← Nat.add_mul]; congr 1; omega
                  omega
                refine .sl _ _ .any b (o + L * sz) (M - L) (fun i => vs (L * sz + i)) (.inl rfl) (by omega) ?_ (fun i hi => ?_) (fun i hi => ?_)
                · rw [dataAll_iff]; intro i hi; rw [hlen] at hi; rw [hget i hi]; exact (dataAll_iff _).1 hdd _ (hbnd i hi)
                · rw [hlen] at hi; rw [hget i hi]; exact hvv _ (hbnd i hi)
                · rw [hlen] at hi; have := hmm _ (hbnd i hi); rwa [← Nat.add_assoc] at this
    · rename_i sz id off n hsz
      split at h
      · rename_i row hrow
        split at h
        · simp at h
        · rename_i hmm
          have hmmn : mm = none := by cases mm with | none => rfl | some q => simp at hmm
          subst hmmn
          have hmn := optInt_none hm
          subst hmn
          split at h
          · rename_i hst
            simp only [Option.some.injEq, Prod.mk.injEq] at h
            obtain ⟨rfl, rfl⟩ := h
            obtain ⟨⟨c1, c2, c3, c4⟩, c5⟩ := hc
            subst c5
            generalize hxx : AVal.row id off n = y at hx
            cases hx <;> simp at hxx
            · rename_i b cap r2 hr2 hs2 hm2 hn2 ho2 hcc2
              obtain ⟨rfl, rfl, rfl⟩ := hxx
              rw [hrow] at hr2; cases hr2
              have hb := run_sliceBounds (P := P) (w := w) (b := true) (len := n) (cap := cap) (E := ⟨rows, m, w, X⟩) hl hhh hm hv (by simp) ⟨c1, c3, by simp; omega, by simp⟩ hn2
              simp only [Option.getD_none, Int.toNat_natCast, Option.map_none] at hb
              generalize hL : (l.getD 0).toNat = L at *
              generalize hH : (hh.getD (n : Int)).toNat = H at *
              have hLc : cap ≠ L := by omega
              refine ⟨.slice (some ⟨b, off + L * row.esz, none⟩) (H - L) (cap - L), ?_, .rowF id _ _ b _ row hrow hst hm2 (by omega) ?_ ?_⟩
              · simp only [Instr.sliceAt, Sem.run_bind, run_underlying ht, Result.andThen_ok, Instr.slice, Option.map_none, hb, run_sizeOf' hsz, Sem.run_pure]
                rw [if_neg hLc]
                simp [addr_add]
              · have : L * row.esz + (H - L) * row.esz = H * row.esz := by rw [← Nat.add_mul]; congr 1; omega
                have : H * row.esz ≤ n * row.esz := Nat.mul_le_mul_right _ (by omega)
                omega
              · intro i hi
                have h1 : L * row.esz + (cap - L) * row.esz = cap * row.esz := by rw [← Nat.add_mul]; congr 1; omega
                have := hcc2 (L * row.esz + i) (by omega)
                rwa [← Nat.add_assoc] at this
            · obtain ⟨rfl, rfl, rfl⟩ := hxx; exfalso; omega
            · rename_i b o cap r2 vs hr2 hs2 _ _ _ _ _ _
              obtain ⟨rfl, rfl, rfl⟩ := hxx
              rw [hrow] at hr2; cases hr2; simp [hst] at hs2
          · simp at h
      · simp at h
    · simp at h
  · -- a pointer to an array
    rename_i l hh len el hl hhh hm ht
    split at h
    · rename_i sz id off hsz
      split at h
      · rename_i row hrow
        split at h
        · rename_i hst
          simp only [Option.some.injEq, Prod.mk.injEq] at h
          obtain ⟨rfl, rfl⟩ := h
          obtain ⟨⟨c1, c2, c3, c4⟩, c5, c6⟩ := hc
          subst c5
          have hmn := optInt_none hm
          subst hmn
          obtain ⟨b, rfl, hm2⟩ := hx.ptr_inv hrow hst
          obtain ⟨cc, e, hb2, hbl, hbv⟩ := hrel.block hrow (.inl hst) hm2
          have hb := run_sliceBounds (P := P) (w := w) (b := false) (len := len) (cap := len) (E := ⟨rows, m, w, X⟩) hl hhh hm hv (by simp) ⟨c1, c3, by simpa using c4, by simp⟩ (Nat.le_refl _)
          simp only [Option.getD_none, Int.toNat_natCast, Option.map_none] at hb
          generalize hL : (l.getD 0).toNat = L at *
          generalize hH : (hh.getD (len : Int)).toNat = H at *
          have hLc : len ≠ L := by omega
          have h1 : L * row.esz + (len - L) * row.esz = len * row.esz := by rw [← Nat.add_mul]; congr 1; omega
          refine ⟨.slice (some ⟨b, off + L * row.esz, none⟩) (H - L) (len - L), ?_, .rowF id _ _ b _ row hrow hst hm2 (by omega) ?_ ?_⟩
          · simp only [Instr.sliceAt, Sem.run_bind, run_underlying ht, Result.andThen_ok, Instr.sureAddr, Option.map_none, hb, run_sizeOf' hsz, Sem.run_pure]
            rw [if_neg hLc]
            simp [addr_add]
          · have : (H - L) * row.esz ≤ (len - L) * row.esz := Nat.mul_le_mul_right _ (by omega)
            omega
          · intro i hi
            rw [isSome_cell hb2]; omega
        · simp at h
      · simp at h
    · simp at h
  · simp at h
end Go.Abs
