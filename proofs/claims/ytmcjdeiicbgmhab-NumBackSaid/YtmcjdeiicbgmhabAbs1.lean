/- Library: an abstract machine over the model, part 1. -/
import Derived.Calls
import Derived.Laws.Cells
import Derived.Laws.Rows
import Derived.Laws.NewBlocks
/-! The abstract machine: values by value, mutable memory as rows. -/
set_option linter.unusedVariables false
set_option linter.unusedSimpArgs false
namespace Go.Abs
open Go

inductive SlK where
  | nil | cap0 | any | nn
  deriving DecidableEq

inductive RowSt where
  | fresh | grown | frozen | map
  deriving DecidableEq

inductive AVal where
  | sc (v : Value)
  | sl (cells : List AVal) (n : Nat) (k : SlK)
  | agg (cells : List AVal)
  | tup (vs : List AVal)
  | ptr (id off : Nat)
  | dptr (cells : List AVal)
  | row (id off n : Nat)
  | fn (f : FuncId) (cap : List AVal)
  | ifc (t : TypeId) (v : AVal)
  | mp (id : Nat)
  | undef

instance : Inhabited AVal := ⟨.undef⟩

structure Row where
  cells : List AVal
  esz : Nat
  st : RowSt

def scOk : Value → Bool
  | .bool _ | .int _ _ | .float _ _ | .complex _ _ _ | .string _ | .pointer none | .map none | .chan none | .nilFunc | .nilIface => true
  | _ => false

mutual
def AVal.data : AVal → Bool
  | .sc _ => true
  | .sl _ _ _ => true
  | .agg cs => dataAll cs
  | .tup cs => dataAll cs
  | .dptr _ => true
  | .fn _ cs => dataAll cs
  | .ifc _ v => v.data
  | .ptr _ _ => false
  | .row _ _ _ => false
  | .mp _ => false
  | .undef => false
def dataAll : List AVal → Bool
  | [] => true
  | x :: r => x.data && dataAll r
end

mutual
def AVal.refLt (N : Nat) : AVal → Bool
  | .sc _ => true
  | .sl _ _ _ => true
  | .agg cs => ltAll N cs
  | .tup cs => ltAll N cs
  | .dptr _ => true
  | .fn _ cs => ltAll N cs
  | .ifc _ v => v.refLt N
  | .ptr id _ => decide (id < N)
  | .row id _ _ => decide (id < N)
  | .mp id => decide (id < N)
  | .undef => true
def ltAll (N : Nat) : List AVal → Bool
  | [] => true
  | x :: r => x.refLt N && ltAll N r
end

theorem dataAll_iff (l : List AVal) : dataAll l = true ↔ ∀ i, i < l.length → (l.getD i .undef).data = true := by
  induction l with
  | nil => simp [dataAll]
  | cons x r ih =>
    simp only [dataAll, Bool.and_eq_true, ih, List.length_cons]
    constructor
    · rintro ⟨h1, h2⟩ i hi
      cases i with
      | zero => simpa using h1
      | succ i => simpa using h2 i (by omega)
    · intro h
      exact ⟨by simpa using h 0 (by omega), fun i hi => by simpa using h (i + 1) (by omega)⟩

theorem ltAll_iff (N : Nat) (l : List AVal) : ltAll N l = true ↔ ∀ i, i < l.length → (l.getD i .undef).refLt N = true := by
  induction l with
  | nil => simp [ltAll]
  | cons x r ih =>
    simp only [ltAll, Bool.and_eq_true, ih, List.length_cons]
    constructor
    · rintro ⟨h1, h2⟩ i hi
      cases i with
      | zero => simpa using h1
      | succ i => simpa using h2 i (by omega)
    · intro h
      exact ⟨by simpa using h 0 (by omega), fun i hi => by simpa using h (i + 1) (by omega)⟩

mutual
theorem AVal.lt_of_data (N : Nat) : ∀ x : AVal, x.data = true → x.refLt N = true
  | .sc _, _ => rfl
  | .sl _ _ _, _ => rfl
  | .agg cs, h => by simp only [AVal.data, AVal.refLt] at *; exact ltAll_of_data N cs h
  | .tup cs, h => by simp only [AVal.data, AVal.refLt] at *; exact ltAll_of_data N cs h
  | .dptr _, _ => rfl
  | .fn _ cs, h => by simp only [AVal.data, AVal.refLt] at *; exact ltAll_of_data N cs h
  | .ifc _ v, h => by simp only [AVal.data, AVal.refLt] at *; exact AVal.lt_of_data N v h
  | .ptr _ _, h => by simp [AVal.data] at h
  | .row _ _ _, h => by simp [AVal.data] at h
  | .mp _, h => by simp [AVal.data] at h
  | .undef, _ => rfl
theorem ltAll_of_data (N : Nat) : ∀ l : List AVal, dataAll l = true → ltAll N l = true
  | [], _ => rfl
  | x :: r, h => by
    simp only [dataAll, ltAll, Bool.and_eq_true] at *
    exact ⟨AVal.lt_of_data N x h.1, ltAll_of_data N r h.2⟩
end

mutual
theorem AVal.lt_mono {N M : Nat} (hNM : N ≤ M) : ∀ x : AVal, x.refLt N = true → x.refLt M = true
  | .sc _, _ => rfl
  | .sl _ _ _, _ => rfl
  | .agg cs, h => by simp only [AVal.refLt] at *; exact ltAll_mono hNM cs h
  | .tup cs, h => by simp only [AVal.refLt] at *; exact ltAll_mono hNM cs h
  | .dptr _, _ => rfl
  | .fn _ cs, h => by simp only [AVal.refLt] at *; exact ltAll_mono hNM cs h
  | .ifc _ v, h => by simp only [AVal.refLt] at *; exact AVal.lt_mono hNM v h
  | .ptr _ _, h => by simp only [AVal.refLt, decide_eq_true_eq] at *; omega
  | .row _ _ _, h => by simp only [AVal.refLt, decide_eq_true_eq] at *; omega
  | .mp _, h => by simp only [AVal.refLt, decide_eq_true_eq] at *; omega
  | .undef, _ => rfl
theorem ltAll_mono {N M : Nat} (hNM : N ≤ M) : ∀ l : List AVal, ltAll N l = true → ltAll M l = true
  | [], _ => rfl
  | x :: r, h => by
    simp only [ltAll, Bool.and_eq_true] at *
    exact ⟨AVal.lt_mono hNM x h.1, ltAll_mono hNM r h.2⟩
end

structure Env where
  rows : List Row
  m : Nat → Option Nat
  w : World
  x : Nat → Nat → Prop

/-- No mutable row lies in this block. -/
def Free (E : Env) (b : Nat) : Prop := ∀ (id : Nat) (r : Row), E.rows[id]? = some r → r.st ≠ .frozen → E.m id ≠ some b

/-- This cell is not written any more. -/
def Imm (E : Env) (b o : Nat) : Prop :=
  b < E.w.heap.size ∧ ¬ E.x b o ∧ ∀ (id : Nat) (r : Row), E.rows[id]? = some r → r.st ≠ .frozen → E.m id = some b → r.st = .grown ∧ o < r.cells.length

theorem Free.imm {E : Env} {b o : Nat} (h : Free E b) (hb : b < E.w.heap.size) (hx : ¬ E.x b o) : Imm E b o :=
  ⟨hb, hx, fun id r h1 h2 h3 => absurd h3 (h id r h1 h2)⟩

inductive V (E : Env) : AVal → Value → Prop
  | undef (v : Value) : V E .undef v
  | sc (v : Value) (h : scOk v = true) : V E (.sc v) v
  | slnil (k : SlK) (hk : k ≠ .nn) : V E (.sl [] 0 k) (.slice none 0 0)
  | slz (b o : Nat) : V E (.sl [] 0 .cap0) (.slice (some ⟨b, o, none⟩) 0 0)
  | sl (cells : List AVal) (n : Nat) (k : SlK) (b o cap : Nat) (vs : Nat → Value) (hk : k = .any ∨ k = .nn)
      (hn : n ≤ cap) (hd : dataAll cells = true) (hv : ∀ i, i < cells.length → V E (cells.getD i .undef) (vs i))
      (hm : ∀ i, i < cells.length → E.w.cell? ⟨b, o + i, none⟩ = some (vs i) ∧ Imm E b (o + i)) :
      V E (.sl cells n k) (.slice (some ⟨b, o, none⟩) n cap)
  | agg (cells : List AVal) (vs : List Value) (hl : cells.length = vs.length) (hv : ∀ i, i < cells.length → V E (cells.getD i .undef) (vs.getD i Go.undef)) :
      V E (.agg cells) (.agg vs.toArray)
  | tup (cells : List AVal) (vs : List Value) (hl : cells.length = vs.length) (hv : ∀ i, i < cells.length → V E (cells.getD i .undef) (vs.getD i Go.undef)) :
      V E (.tup cells) (.tuple vs.toArray)
  | ptr (id off : Nat) (r : Row) (b : Nat) (hr : E.rows[id]? = some r) (hs : r.st = .fresh) (hm : E.m id = some b) : V E (.ptr id off) (.pointer (some ⟨b, off, none⟩))
  | ptrLost (id off : Nat) (r : Row) (v : Value) (hr : E.rows[id]? = some r) (hs : r.st ≠ .fresh) : V E (.ptr id off) v
  | dptr (cells : List AVal) (b o : Nat) (vs : Nat → Value) (hd : dataAll cells = true) (hv : ∀ i, i < cells.length → V E (cells.getD i .undef) (vs i))
      (hm : ∀ i, i < cells.length → E.w.cell? ⟨b, o + i, none⟩ = some (vs i) ∧ Imm E b (o + i)) :
      V E (.dptr cells) (.pointer (some ⟨b, o, none⟩))
  | rowF (id off n b cap : Nat) (r : Row) (hr : E.rows[id]? = some r) (hs : r.st = .fresh) (hm : E.m id = some b) (hn : n ≤ cap) (ho : off + n * r.esz ≤ r.cells.length)
      (hc : ∀ i, i < cap * r.esz → (E.w.cell? ⟨b, off + i, none⟩).isSome = true) : V E (.row id off n) (.slice (some ⟨b, off, none⟩) n cap)
  | rowV (id : Nat) (r : Row) (base : Option (Nat × Nat)) (hr : E.rows[id]? = some r) (hs : r.st = .frozen ∨ ((r.st = .fresh ∨ r.st = .grown) ∧ E.m id = none) ∨ (r.st = .grown ∧ r.cells ≠ [])) : V E (.row id 0 0) (.slice (base.map fun p => ⟨p.1, p.2, none⟩) 0 0)
  | rowG (id off n b o cap : Nat) (r : Row) (vs : Nat → Value) (hr : E.rows[id]? = some r) (hs : r.st = .grown ∨ r.st = .frozen) (hn : n ≤ cap) (ho : off + n * r.esz ≤ r.cells.length)
      (hd : ∀ i, i < n * r.esz → (r.cells.getD (off + i) .undef).data = true) (hv : ∀ i, i < n * r.esz → V E (r.cells.getD (off + i) .undef) (vs i))
      (hm : ∀ i, i < n * r.esz → E.w.cell? ⟨b, o + i, none⟩ = some (vs i) ∧ Imm E b (o + i))
      (he : r.st = .grown → off + n * r.esz = r.cells.length → E.m id = some b ∧ o = off ∧ ∀ i, i < cap * r.esz → (E.w.cell? ⟨b, off + i, none⟩).isSome = true) :
      V E (.row id off n) (.slice (some ⟨b, o, none⟩) n cap)
  | fn (f : FuncId) (cap : List AVal) (vs : List Value) (hl : cap.length = vs.length) (hv : ∀ i, i < cap.length → V E (cap.getD i .undef) (vs.getD i Go.undef)) :
      V E (.fn f cap) (.func (.func f) #[] vs.toArray)
  | ifc (t : TypeId) (x : AVal) (v : Value) (h : V E x v) : V E (.ifc t x) (.iface t v)
  | mp (id : Nat) (r : Row) (b : Nat) (hr : E.rows[id]? = some r) (hs : r.st = .map) (hm : E.m id = some b) : V E (.mp id) (.map (some b))

/-- What may become of a row. -/
inductive RowEvo (E E' : Env) (id : Nat) (r r' : Row) : Prop
  | fresh (h : r.st = .fresh) (h' : r'.st = .fresh) (he : r'.esz = r.esz) (hm : E'.m id = E.m id) (hl : r'.cells.length = r.cells.length)
      (hc : ∀ b o, E.m id = some b → (E.w.cell? ⟨b, o, none⟩).isSome = true → (E'.w.cell? ⟨b, o, none⟩).isSome = true)
  | left (h : r.st = .fresh) (h' : r'.st = .grown ∨ r'.st = .frozen) (he : r'.esz = r.esz) (hl : r.cells.length ≤ r'.cells.length)
      (hc : ∀ b, E.m id = some b → ∀ j, j < r.cells.length → Imm E' b j ∧ (r'.cells.getD j .undef).data = true ∧ ∃ v, E'.w.cell? ⟨b, j, none⟩ = some v ∧ V E' (r'.cells.getD j .undef) v)
      (hg : r'.st = .grown → r'.cells.length = r.cells.length → E'.m id = E.m id ∧ ∀ b o, E.m id = some b → (E.w.cell? ⟨b, o, none⟩).isSome = true → (E'.w.cell? ⟨b, o, none⟩).isSome = true)
  | grown (h : r.st = .grown) (h' : r'.st = .grown ∨ r'.st = .frozen) (he : r'.esz = r.esz) (hp : ∃ t, r'.cells = r.cells ++ t)
      (hg : r'.st = .grown → r'.cells.length = r.cells.length → E'.m id = E.m id ∧ ∀ b o, E.m id = some b → (E.w.cell? ⟨b, o, none⟩).isSome = true → (E'.w.cell? ⟨b, o, none⟩).isSome = true)
  | frozen (h : r.st = .frozen) (h' : r'.st = .frozen) (he : r'.esz = r.esz) (hp : r'.cells = r.cells)
  | map (h : r.st = .map) (h' : r'.st = .map) (hm : E'.m id = E.m id)

theorem V.mono {E E' : Env} {N : Nat} (hI : ∀ b o v, Imm E b o → E.w.cell? ⟨b, o, none⟩ = some v → Imm E' b o ∧ E'.w.cell? ⟨b, o, none⟩ = some v)
    (hR : ∀ id r, id < N → E.rows[id]? = some r → ∃ r', E'.rows[id]? = some r' ∧ RowEvo E E' id r r') {x : AVal} {v : Value} (h : V E x v) : x.refLt N = true → V E' x v := by
  induction h with
  | undef v => exact fun _ => .undef v
  | sc v h => exact fun _ => .sc v h
  | slnil k hk => exact fun _ => .slnil k hk
  | slz b o => exact fun _ => .slz b o
  | sl cells n k b o cap vs hk hn hd hv hm ih =>
    intro _
    refine .sl cells n k b o cap vs hk hn hd (fun i hi => ih i hi ?_) (fun i hi => ?_)
    · exact AVal.lt_of_data N _ ((dataAll_iff cells).1 hd i hi)
    · obtain ⟨h1, h2⟩ := hm i hi
      exact (hI _ _ _ h2 h1).symm
  | agg cells vs hl hv ih =>
    intro hb
    exact .agg cells vs hl fun i hi => ih i hi ((ltAll_iff N cells).1 hb i hi)
  | tup cells vs hl hv ih =>
    intro hb
    exact .tup cells vs hl fun i hi => ih i hi ((ltAll_iff N cells).1 hb i hi)
  | ptr id off r b hr hs hm =>
    intro hb
    obtain ⟨r', hr', hev⟩ := hR id r (by simpa [AVal.refLt] using hb) hr
    cases hev with
    | fresh h h' he hm' hl hc => exact .ptr id off r' b hr' h' (hm'.trans hm)
    | left h h' he hl hc hg => exact .ptrLost id off r' _ hr' (by rcases h' with h' | h' <;> simp [h'])
    | grown h => simp [hs] at h
    | frozen h => simp [hs] at h
    | map h => simp [hs] at h
  | ptrLost id off r v hr hs =>
    intro hb
    obtain ⟨r', hr', hev⟩ := hR id r (by simpa [AVal.refLt] using hb) hr
    cases hev with
    | fresh h => exact absurd h hs
    | left h => exact absurd h hs
    | grown h h' he hp hg => exact .ptrLost id off r' _ hr' (by rcases h' with h' | h' <;> simp [h'])
    | frozen h h' => exact .ptrLost id off r' _ hr' (by simp [h'])
    | map h h' => exact .ptrLost id off r' _ hr' (by simp [h'])
  | dptr cells b o vs hd hv hm ih =>
    intro _
    refine .dptr cells b o vs hd (fun i hi => ih i hi ?_) (fun i hi => ?_)
    · exact AVal.lt_of_data N _ ((dataAll_iff cells).1 hd i hi)
    · obtain ⟨h1, h2⟩ := hm i hi
      exact (hI _ _ _ h2 h1).symm
  | rowF id off n b cap r hr hs hm hn ho hc =>
    intro hb
    obtain ⟨r', hr', hev⟩ := hR id r (by simpa [AVal.refLt] using hb) hr
    cases hev with
    | fresh h h' he hm' hl hc' =>
      exact .rowF id off n b cap r' hr' h' (hm'.trans hm) hn (by rw [he, hl]; exact ho) (fun i hi => hc' b _ hm (hc i (by rw [← he]; exact hi)))
    | left h h' he hl hc' hg =>
      have hj := hc' b hm
      have hex : ∀ i, i < n * r.esz → ∃ v, E'.w.cell? ⟨b, off + i, none⟩ = some v ∧ V E' (r'.cells.getD (off + i) .undef) v := fun i hi => (hj (off + i) (by omega)).2.2
      refine .rowG id off n b off cap r' (fun i => (E'.w.cell? ⟨b, off + i, none⟩).getD Go.undef) hr' h' hn (by rw [he]; omega) ?_ ?_ ?_ ?_
      · intro i hi; rw [he] at hi; exact (hj (off + i) (by omega)).2.1
      · intro i hi; rw [he] at hi
        obtain ⟨v, h1, h2⟩ := hex i hi
        rw [h1]; exact h2
      · intro i hi; rw [he] at hi
        obtain ⟨v, h1, h2⟩ := hex i hi
        exact ⟨by rw [h1]; rfl, (hj (off + i) (by omega)).1⟩
      · intro hg' hend
        rw [he] at hend
        obtain ⟨h1, h2⟩ := hg hg' (by omega)
        exact ⟨h1.trans hm, rfl, fun i hi => h2 b _ hm (hc i (by rw [← he]; exact hi))⟩
    | grown h => simp [hs] at h
    | frozen h => simp [hs] at h
    | map h => simp [hs] at h
  | rowV id r base hr hs =>
    intro hb
    obtain ⟨r', hr', hev⟩ := hR id r (by simpa [AVal.refLt] using hb) hr
    cases hev with
    | fresh h h' he hm' hl hc' =>
      refine .rowV id r' base hr' (.inr (.inl ⟨.inl h', ?_⟩))
      rcases hs with hs | hs | hs
      · simp [h] at hs
      · exact hm'.trans hs.2
      · simp [h] at hs
    | left h h' he hl hc' hg =>
      rcases hs with hs | hs | hs
      · simp [h] at hs
      · rcases h' with h' | h'
        · by_cases h0 : r'.cells = []
          · refine .rowV id r' base hr' (.inr (.inl ⟨.inr h', ?_⟩))
            have : r'.cells.length = r.cells.length := by rw [h0] at hl ⊢; simp at hl ⊢; simp [hl]
            exact (hg h' this).1.trans hs.2
          · exact .rowV id r' base hr' (.inr (.inr ⟨h', h0⟩))
        · exact .rowV id r' base hr' (.inl h')
      · simp [h] at hs
    | grown h h' he hp hg =>
      rcases h' with h' | h'
      · obtain ⟨t, hp⟩ := hp
        by_cases h0 : r'.cells = []
        · rcases hs with hs | hs | hs
          · simp [h] at hs
          · refine .rowV id r' base hr' (.inr (.inl ⟨.inr h', ?_⟩))
            have hh := hp; rw [h0] at hh
            have h3 := List.append_eq_nil_iff.1 hh.symm
            exact (hg h' (by rw [h0, h3.1])).1.trans hs.2
          · have hh := hp; rw [h0] at hh
            exact absurd (List.append_eq_nil_iff.1 hh.symm).1 hs.2
        · exact .rowV id r' base hr' (.inr (.inr ⟨h', h0⟩))
      · exact .rowV id r' base hr' (.inl h')
    | frozen h h' => exact .rowV id r' base hr' (.inl h')
    | map h => rcases hs with hs | ⟨hs | hs, _⟩ | hs <;> simp [h] at hs
  | rowG id off n b o cap r vs hr hs hn ho hd hv hm he ih =>
    intro hb
    obtain ⟨r', hr', hev⟩ := hR id r (by simpa [AVal.refLt] using hb) hr
    have main : ∀ (h' : r'.st = .grown ∨ r'.st = .frozen) (he' : r'.esz = r.esz) (t : List AVal) (hp : r'.cells = r.cells ++ t)
        (hg : r'.st = .grown → r'.cells.length = r.cells.length → E'.m id = E.m id ∧ ∀ b o, E.m id = some b → (E.w.cell? ⟨b, o, none⟩).isSome = true → (E'.w.cell? ⟨b, o, none⟩).isSome = true)
        (hgg : r'.st = .grown → r.st = .grown),
        V E' (.row id off n) (.slice (some ⟨b, o, none⟩) n cap) := by
      intro h' he' t hp hg hgg
      have hcell : ∀ i, i < n * r.esz → r'.cells.getD (off + i) .undef = r.cells.getD (off + i) .undef := by
        intro i hi
        rw [hp, List.getD_eq_getElem?_getD, List.getD_eq_getElem?_getD, List.getElem?_append_left (by omega)]
      refine .rowG id off n b o cap r' vs hr' h' hn (by rw [he', hp, List.length_append]; omega) ?_ ?_ ?_ ?_
      · intro i hi; rw [he'] at hi; rw [hcell i hi]; exact hd i hi
      · intro i hi; rw [he'] at hi; rw [hcell i hi]; exact ih i hi (AVal.lt_of_data N _ (hd i hi))
      · intro i hi; rw [he'] at hi
        obtain ⟨h1, h2⟩ := hm i hi
        exact (hI _ _ _ h2 h1).symm
      · intro hg' hend
        rw [he', hp, List.length_append] at hend
        have ht : t.length = 0 := by omega
        obtain ⟨h1, h2⟩ := hg hg' (by rw [hp, List.length_append]; omega)
        obtain ⟨h3, h4, h5⟩ := he (hgg hg') (by omega)
        exact ⟨h1.trans h3, h4, fun i hi => h2 b _ h3 (h5 i (by rw [← he']; exact hi))⟩
    cases hev with
    | fresh h => rcases hs with hs | hs <;> simp [h] at hs
    | left h => rcases hs with hs | hs <;> simp [h] at hs
    | grown h h' he' hp hg => obtain ⟨t, hp⟩ := hp; exact main h' he' t hp hg (fun _ => h)
    | frozen h h' he' hp => exact main (.inr h') he' [] (by simp [hp]) (fun hx => by simp [h'] at hx) (fun hx => by simp [h'] at hx)
    | map h => rcases hs with hs | hs <;> simp [h] at hs
  | fn f cap vs hl hv ih =>
    intro hb
    exact .fn f cap vs hl fun i hi => ih i hi ((ltAll_iff N cap).1 hb i hi)
  | ifc t x v h ih => exact fun hb => .ifc t x v (ih hb)
  | mp id r b hr hs hm =>
    intro hb
    obtain ⟨r', hr', hev⟩ := hR id r (by simpa [AVal.refLt] using hb) hr
    cases hev with
    | fresh h => simp [hs] at h
    | left h => simp [hs] at h
    | grown h => simp [hs] at h
    | frozen h => simp [hs] at h
    | map h h' hm' => exact .mp id r' b hr' h' (hm'.trans hm)

/-- A value names rows that are there. -/
theorem V.refLt {E : Env} {x : AVal} {v : Value} (h : V E x v) : x.refLt E.rows.length = true := by
  have lt : ∀ {id : Nat} {r : Row}, E.rows[id]? = some r → id < E.rows.length := fun h => by
    rcases Nat.lt_or_ge _ E.rows.length with h' | h'
    · exact h'
    · simp [List.getElem?_eq_none h'] at h
  induction h with
  | undef v => rfl
  | sc v h => rfl
  | slnil => rfl
  | slz => rfl
  | sl => rfl
  | agg cells vs hl hv ih => exact (ltAll_iff _ cells).2 ih
  | tup cells vs hl hv ih => exact (ltAll_iff _ cells).2 ih
  | ptr id off r b hr hs hm => simpa [AVal.refLt] using lt hr
  | ptrLost id off r v hr hs => simpa [AVal.refLt] using lt hr
  | dptr => rfl
  | rowF id off n b cap r hr hs hm hn ho hc => simpa [AVal.refLt] using lt hr
  | rowV id r base hr hs => simpa [AVal.refLt] using lt hr
  | rowG id off n b o cap r vs hr hs hn ho hd hv hm he ih => simpa [AVal.refLt] using lt hr
  | fn f cap vs hl hv ih => exact (ltAll_iff _ cap).2 ih
  | ifc t x v h ih => exact ih
  | mp id r b hr hs hm => simpa [AVal.refLt] using lt hr

structure Evo (N : Nat) (E E' : Env) : Prop where
  val : ∀ x v, V E x v → x.refLt N = true → V E' x v
  size : E.w.heap.size ≤ E'.w.heap.size
  free : ∀ b, b < E.w.heap.size → Free E b → E'.w.heap[b]? = E.w.heap[b]? ∧ Free E' b
  os : E'.w.os = E.w.os
  tape : E'.w.tape = E.w.tape
  output : E'.w.output = E.w.output

theorem Evo.refl (N : Nat) (E : Env) : Evo N E E := ⟨fun _ _ h _ => h, Nat.le_refl _, fun _ _ h => ⟨rfl, h⟩, rfl, rfl, rfl⟩
theorem Evo.trans {N : Nat} {A B C : Env} (h : Evo N A B) (k : Evo N B C) : Evo N A C :=
  ⟨fun x v hv hb => k.val x v (h.val x v hv hb) hb, Nat.le_trans h.size k.size,
    fun b hb hf => let ⟨h1, h2⟩ := h.free b hb hf; let ⟨k1, k2⟩ := k.free b (Nat.lt_of_lt_of_le hb h.size) h2; ⟨k1.trans h1, k2⟩,
    k.os.trans h.os, k.tape.trans h.tape, k.output.trans h.output⟩
theorem Evo.mono {N M : Nat} {A B : Env} (h : Evo N A B) (hM : M ≤ N) : Evo M A B :=
  ⟨fun x v hv hb => h.val x v hv (AVal.lt_mono hM x hb), h.size, h.free, h.os, h.tape, h.output⟩

structure Rel (E : Env) : Prop where
  xlt : ∀ b o, E.x b o → b < E.w.heap.size
  xr : ∀ (i : Nat) (r : Row) (b : Nat), E.rows[i]? = some r → r.st ≠ .frozen → E.m i = some b → ∀ o, ¬ E.x b o
  inj : ∀ (i j : Nat) (r s : Row) (b : Nat), E.rows[i]? = some r → E.rows[j]? = some s → r.st ≠ .frozen → s.st ≠ .frozen → E.m i = some b → E.m j = some b → i = j
  own : ∀ (i : Nat) (r : Row), E.rows[i]? = some r → r.st ≠ .frozen → r.st ≠ .map → (E.m i = none ∧ r.cells = []) ∨
    ∃ b c e, E.m i = some b ∧ E.w.heap[b]? = some (.cells c e (0, 0)) ∧ r.cells.length ≤ c.size ∧ ∀ j, j < r.cells.length → V E (r.cells.getD j .undef) (c.getD j Go.undef)
  grown : ∀ (i : Nat) (r : Row), E.rows[i]? = some r → r.st = .grown → dataAll r.cells = true
  map : ∀ (i : Nat) (r : Row), E.rows[i]? = some r → r.st = .map → ∃ b es k, E.m i = some b ∧ E.w.heap[b]? = some (.map es k) ∧ r.cells.length = 2 * es.size ∧
    ∀ j (h : j < es.size), V E (r.cells.getD (2 * j) .undef) es[j].key ∧ V E (r.cells.getD (2 * j + 1) .undef) es[j].val
end Go.Abs
