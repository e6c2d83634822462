/- Library: an abstract machine over the model, part A. -/
import Derived.Calls
import Derived.CallsIn
import Derived.ChangeKeysEq
import Derived.Deep.LoopGhost
import Derived.Laws.Cells
import Derived.Laws.CopyRow
import Derived.Laws.Entries
import Derived.Laws.NewBlocks
import Derived.Laws.Rows
import Derived.Laws.Small
import Derived.Orders
import Derived.OrdersIn
import Derived.Sort.LoopGhostIn
/-! The abstract machine: values by value, mutable memory as rows. -/
set_option linter.unusedVariables false
set_option linter.unusedSimpArgs false
namespace Go.Abs
open Go

inductive SlK where
  | nil | cap0 | any | nn
  deriving DecidableEq

inductive RowSt where
  | fresh | grown | frozen | map | unborn | dead
  deriving DecidableEq

inductive AVal where
  | sc (v : Value)
  | sl (cells : List AVal) (n : Nat) (k : SlK)
  | agg (cells : List AVal)
  | tup (vs : List AVal)
  | ptr (id off : Nat)
  | dptr (cells : List AVal)
  | row (id off n : Nat)
  | fn (f : FuncId) (cap : List AVal)
  | ifc (t : TypeId) (v : AVal)
  | mp (id : Nat)
  | undef

instance : Inhabited AVal := ⟨.undef⟩

structure Row where
  cells : List AVal
  esz : Nat
  st : RowSt

def scOk : Value → Bool
  | .bool _ | .int _ _ | .float _ _ | .complex _ _ _ | .string _ | .pointer none | .map none | .chan none | .nilFunc | .nilIface => true
  | .func (.yield _) c d => c.isEmpty && d.isEmpty
  | _ => false

mutual
def AVal.data : AVal → Bool
  | .sc _ => true
  | .sl _ _ _ => true
  | .agg cs => dataAll cs
  | .tup cs => dataAll cs
  | .dptr _ => true
  | .fn _ cs => dataAll cs
  | .ifc _ v => v.data
  | .ptr _ _ => false
  | .row _ _ _ => false
  | .mp _ => false
  | .undef => false
def dataAll : List AVal → Bool
  | [] => true
  | x :: r => x.data && dataAll r
end

mutual
def AVal.refLt (N : Nat) : AVal → Bool
  | .sc _ => true
  | .sl _ _ _ => true
  | .agg cs => ltAll N cs
  | .tup cs => ltAll N cs
  | .dptr _ => true
  | .fn _ cs => ltAll N cs
  | .ifc _ v => v.refLt N
  | .ptr id _ => decide (id < N)
  | .row id _ _ => decide (id < N)
  | .mp id => decide (id < N)
  | .undef => true
def ltAll (N : Nat) : List AVal → Bool
  | [] => true
  | x :: r => x.refLt N && ltAll N r
end

theorem dataAll_iff (l : List AVal) : dataAll l = true ↔ ∀ i, i < l.length → (l.getD i .undef).data = true := by
  induction l with
  | nil => simp [dataAll]
  | cons x r ih =>
    simp only [dataAll, Bool.and_eq_true, ih, List.length_cons]
    constructor
    · rintro ⟨h1, h2⟩ i hi
      cases i with
      | zero => simpa using h1
      | succ i => simpa using h2 i (by omega)
    · intro h
      exact ⟨by simpa using h 0 (by omega), fun i hi => by simpa using h (i + 1) (by omega)⟩

theorem ltAll_iff (N : Nat) (l : List AVal) : ltAll N l = true ↔ ∀ i, i < l.length → (l.getD i .undef).refLt N = true := by
  induction l with
  | nil => simp [ltAll]
  | cons x r ih =>
    simp only [ltAll, Bool.and_eq_true, ih, List.length_cons]
    constructor
    · rintro ⟨h1, h2⟩ i hi
      cases i with
      | zero => simpa using h1
      | succ i => simpa using h2 i (by omega)
    · intro h
      exact ⟨by simpa using h 0 (by omega), fun i hi => by simpa using h (i + 1) (by omega)⟩

mutual
theorem AVal.lt_of_data (N : Nat) : ∀ x : AVal, x.data = true → x.refLt N = true
  | .sc _, _ => rfl
  | .sl _ _ _, _ => rfl
  | .agg cs, h => by simp only [AVal.data, AVal.refLt] at *; exact ltAll_of_data N cs h
  | .tup cs, h => by simp only [AVal.data, AVal.refLt] at *; exact ltAll_of_data N cs h
  | .dptr _, _ => rfl
  | .fn _ cs, h => by simp only [AVal.data, AVal.refLt] at *; exact ltAll_of_data N cs h
  | .ifc _ v, h => by simp only [AVal.data, AVal.refLt] at *; exact AVal.lt_of_data N v h
  | .ptr _ _, h => by simp [AVal.data] at h
  | .row _ _ _, h => by simp [AVal.data] at h
  | .mp _, h => by simp [AVal.data] at h
  | .undef, _ => rfl
theorem ltAll_of_data (N : Nat) : ∀ l : List AVal, dataAll l = true → ltAll N l = true
  | [], _ => rfl
  | x :: r, h => by
    simp only [dataAll, ltAll, Bool.and_eq_true] at *
    exact ⟨AVal.lt_of_data N x h.1, ltAll_of_data N r h.2⟩
end

mutual
theorem AVal.lt_mono {N M : Nat} (hNM : N ≤ M) : ∀ x : AVal, x.refLt N = true → x.refLt M = true
  | .sc _, _ => rfl
  | .sl _ _ _, _ => rfl
  | .agg cs, h => by simp only [AVal.refLt] at *; exact ltAll_mono hNM cs h
  | .tup cs, h => by simp only [AVal.refLt] at *; exact ltAll_mono hNM cs h
  | .dptr _, _ => rfl
  | .fn _ cs, h => by simp only [AVal.refLt] at *; exact ltAll_mono hNM cs h
  | .ifc _ v, h => by simp only [AVal.refLt] at *; exact AVal.lt_mono hNM v h
  | .ptr _ _, h => by simp only [AVal.refLt, decide_eq_true_eq] at *; omega
  | .row _ _ _, h => by simp only [AVal.refLt, decide_eq_true_eq] at *; omega
  | .mp _, h => by simp only [AVal.refLt, decide_eq_true_eq] at *; omega
  | .undef, _ => rfl
theorem ltAll_mono {N M : Nat} (hNM : N ≤ M) : ∀ l : List AVal, ltAll N l = true → ltAll M l = true
  | [], _ => rfl
  | x :: r, h => by
    simp only [ltAll, Bool.and_eq_true] at *
    exact ⟨AVal.lt_mono hNM x h.1, ltAll_mono hNM r h.2⟩
end

structure Env where
  rows : List Row
  m : Nat → Option Nat
  w : World
  x : Nat → Nat → Prop

/-- No mutable row lies in this block. -/
def Free (E : Env) (b : Nat) : Prop := ∀ (id : Nat) (r : Row), E.rows[id]? = some r → r.st ≠ .frozen → E.m id ≠ some b

/-- This cell is not written any more. -/
def Imm (E : Env) (b o : Nat) : Prop :=
  b < E.w.heap.size ∧ ¬ E.x b o ∧ ∀ (id : Nat) (r : Row), E.rows[id]? = some r → r.st ≠ .frozen → E.m id = some b → r.st = .grown ∧ o < r.cells.length

theorem Free.imm {E : Env} {b o : Nat} (h : Free E b) (hb : b < E.w.heap.size) (hx : ¬ E.x b o) : Imm E b o :=
  ⟨hb, hx, fun id r h1 h2 h3 => absurd h3 (h id r h1 h2)⟩

/-- What is known of a slice whose row is lost. -/
def LostOk (off n : Nat) (v : Value) : Prop := (off = 0 ∧ n = 0 ∧ ∃ base : Option Addr, v = .slice base 0 0) ∨ ∃ b o cap : Nat, v = .slice (some ⟨b, o, none⟩) n cap ∧ n ≤ cap

inductive V (E : Env) : AVal → Value → Prop
  | undef (v : Value) : V E .undef v
  | sc (v : Value) (h : scOk v = true) : V E (.sc v) v
  | slnil (k : SlK) (hk : k ≠ .nn) : V E (.sl [] 0 k) (.slice none 0 0)
  | slz (k : SlK) (hk : k ≠ .nil) (a : Addr) : V E (.sl [] 0 k) (.slice (some a) 0 0)
  | sl (cells : List AVal) (n : Nat) (k : SlK) (b o cap : Nat) (vs : Nat → Value) (hk : k = .any ∨ k = .nn)
      (hn : n ≤ cap) (hd : dataAll cells = true) (hv : ∀ i, i < cells.length → V E (cells.getD i .undef) (vs i))
      (hm : ∀ i, i < cells.length → E.w.cell? ⟨b, o + i, none⟩ = some (vs i) ∧ Imm E b (o + i)) :
      V E (.sl cells n k) (.slice (some ⟨b, o, none⟩) n cap)
  | agg (cells : List AVal) (vs : List Value) (hl : cells.length = vs.length) (hv : ∀ i, i < cells.length → V E (cells.getD i .undef) (vs.getD i Go.undef)) :
      V E (.agg cells) (.agg vs.toArray)
  | tup (cells : List AVal) (vs : List Value) (hl : cells.length = vs.length) (hv : ∀ i, i < cells.length → V E (cells.getD i .undef) (vs.getD i Go.undef)) :
      V E (.tup cells) (.tuple vs.toArray)
  | ptr (id off : Nat) (r : Row) (b : Nat) (hr : E.rows[id]? = some r) (hs : r.st = .fresh) (hm : E.m id = some b) : V E (.ptr id off) (.pointer (some ⟨b, off, none⟩))
  | ptrLost (id off : Nat) (r : Row) (v : Value) (hr : E.rows[id]? = some r) (hs : r.st ≠ .fresh) (hu : r.st ≠ .unborn) : V E (.ptr id off) v
  | dptr (cells : List AVal) (b o : Nat) (vs : Nat → Value) (hd : dataAll cells = true) (hv : ∀ i, i < cells.length → V E (cells.getD i .undef) (vs i))
      (hm : ∀ i, i < cells.length → E.w.cell? ⟨b, o + i, none⟩ = some (vs i) ∧ Imm E b (o + i)) :
      V E (.dptr cells) (.pointer (some ⟨b, o, none⟩))
  | rowF (id off n b cap : Nat) (r : Row) (hr : E.rows[id]? = some r) (hs : r.st = .fresh) (hm : E.m id = some b) (hn : n ≤ cap) (ho : off + n * r.esz ≤ r.cells.length)
      (hc : ∀ i, i < cap * r.esz → (E.w.cell? ⟨b, off + i, none⟩).isSome = true) : V E (.row id off n) (.slice (some ⟨b, off, none⟩) n cap)
  | rowV (id : Nat) (r : Row) (base : Option Addr) (hr : E.rows[id]? = some r) (hs : r.st = .frozen ∨ ((r.st = .fresh ∨ r.st = .grown) ∧ E.m id = none) ∨ (r.st = .grown ∧ r.cells ≠ [])) : V E (.row id 0 0) (.slice base 0 0)
  | rowG (id off n b o cap : Nat) (r : Row) (vs : Nat → Value) (hr : E.rows[id]? = some r) (hs : r.st = .grown ∨ r.st = .frozen) (hn : n ≤ cap) (ho : off + n * r.esz ≤ r.cells.length)
      (hd : ∀ i, i < n * r.esz → (r.cells.getD (off + i) .undef).data = true) (hv : ∀ i, i < n * r.esz → V E (r.cells.getD (off + i) .undef) (vs i))
      (hm : ∀ i, i < n * r.esz → E.w.cell? ⟨b, o + i, none⟩ = some (vs i) ∧ Imm E b (o + i))
      (he : r.st = .grown → off + n * r.esz = r.cells.length → E.m id = some b ∧ o = off ∧ ∀ i, i < cap * r.esz → (E.w.cell? ⟨b, off + i, none⟩).isSome = true) :
      V E (.row id off n) (.slice (some ⟨b, o, none⟩) n cap)
  | rowLost (id off n : Nat) (r : Row) (v : Value) (hr : E.rows[id]? = some r) (hs : r.st = .dead) (h0 : r.cells = []) (hv : LostOk off n v) : V E (.row id off n) v
  | fn (f : FuncId) (cap : List AVal) (vs : List Value) (hl : cap.length = vs.length) (hv : ∀ i, i < cap.length → V E (cap.getD i .undef) (vs.getD i Go.undef)) :
      V E (.fn f cap) (.func (.func f) #[] vs.toArray)
  | ifc (t : TypeId) (x : AVal) (v : Value) (h : V E x v) : V E (.ifc t x) (.iface t v)
  | mp (id : Nat) (r : Row) (b : Nat) (hr : E.rows[id]? = some r) (hs : r.st = .map) (hm : E.m id = some b) : V E (.mp id) (.map (some b))

/-- What may become of a row. -/
inductive RowEvo (E E' : Env) (id : Nat) (r r' : Row) : Prop
  | fresh (h : r.st = .fresh) (h' : r'.st = .fresh) (he : r'.esz = r.esz) (hm : E'.m id = E.m id) (hl : r'.cells.length = r.cells.length)
      (hc : ∀ b o, E.m id = some b → (E.w.cell? ⟨b, o, none⟩).isSome = true → (E'.w.cell? ⟨b, o, none⟩).isSome = true)
  | left (h : r.st = .fresh) (h' : r'.st = .grown ∨ r'.st = .frozen) (he : r'.esz = r.esz) (hl : r.cells.length ≤ r'.cells.length)
      (hc : ∀ b, E.m id = some b → ∀ j, j < r.cells.length → Imm E' b j ∧ (r'.cells.getD j .undef).data = true ∧ ∃ v, E'.w.cell? ⟨b, j, none⟩ = some v ∧ V E' (r'.cells.getD j .undef) v)
      (hg : r'.st = .grown → r'.cells.length = r.cells.length → E'.m id = E.m id ∧ ∀ b o, E.m id = some b → (E.w.cell? ⟨b, o, none⟩).isSome = true → (E'.w.cell? ⟨b, o, none⟩).isSome = true)
  | grown (h : r.st = .grown) (h' : r'.st = .grown ∨ r'.st = .frozen) (he : r'.esz = r.esz) (hp : ∃ t, r'.cells = r.cells ++ t)
      (hg : r'.st = .grown → r'.cells.length = r.cells.length → E'.m id = E.m id ∧ ∀ b o, E.m id = some b → (E.w.cell? ⟨b, o, none⟩).isSome = true → (E'.w.cell? ⟨b, o, none⟩).isSome = true)
  | frozen (h : r.st = .frozen) (h' : r'.st = .frozen) (he : r'.esz = r.esz) (hp : r'.cells = r.cells)
  | map (h : r.st = .map) (h' : r'.st = .map) (hm : E'.m id = E.m id)
  | born (h : r.st = .unborn)
  | dead (h : r.st ≠ .map) (hu : r.st ≠ .unborn) (h' : r'.st = .dead) (hc : r'.cells = [] ∨ r.st = .dead ∧ r'.cells = r.cells)

theorem V.mono {E E' : Env} {N : Nat} (hI : ∀ b o v, Imm E b o → E.w.cell? ⟨b, o, none⟩ = some v → Imm E' b o ∧ E'.w.cell? ⟨b, o, none⟩ = some v)
    (hR : ∀ id r, id < N → E.rows[id]? = some r → ∃ r', E'.rows[id]? = some r' ∧ RowEvo E E' id r r') {x : AVal} {v : Value} (h : V E x v) : x.refLt N = true → V E' x v := by
  induction h with
  | undef v => exact fun _ => .undef v
  | sc v h => exact fun _ => .sc v h
  | slnil k hk => exact fun _ => .slnil k hk
  | slz k hk a => exact fun _ => .slz k hk a
  | sl cells n k b o cap vs hk hn hd hv hm ih =>
    intro _
    refine .sl cells n k b o cap vs hk hn hd (fun i hi => ih i hi ?_) (fun i hi => ?_)
    · exact AVal.lt_of_data N _ ((dataAll_iff cells).1 hd i hi)
    · obtain ⟨h1, h2⟩ := hm i hi
      exact (hI _ _ _ h2 h1).symm
  | agg cells vs hl hv ih =>
    intro hb
    exact .agg cells vs hl fun i hi => ih i hi ((ltAll_iff N cells).1 hb i hi)
  | tup cells vs hl hv ih =>
    intro hb
    exact .tup cells vs hl fun i hi => ih i hi ((ltAll_iff N cells).1 hb i hi)
  | ptr id off r b hr hs hm =>
    intro hb
    obtain ⟨r', hr', hev⟩ := hR id r (by simpa [AVal.refLt] using hb) hr
    cases hev with
    | fresh h h' he hm' hl hc => exact .ptr id off r' b hr' h' (hm'.trans hm)
    | left h h' he hl hc hg => exact .ptrLost id off r' _ hr' (by rcases h' with h' | h' <;> simp [h']) (by rcases h' with h' | h' <;> simp [h'])
    | grown h => simp [hs] at h
    | frozen h => simp [hs] at h
    | map h => simp [hs] at h
    | born h => simp [hs] at h
    | dead h hu h' => exact .ptrLost id off r' _ hr' (by simp [h']) (by simp [h'])
  | ptrLost id off r v hr hs hu =>
    intro hb
    obtain ⟨r', hr', hev⟩ := hR id r (by simpa [AVal.refLt] using hb) hr
    cases hev with
    | fresh h => exact absurd h hs
    | left h => exact absurd h hs
    | grown h h' he hp hg => exact .ptrLost id off r' _ hr' (by rcases h' with h' | h' <;> simp [h']) (by rcases h' with h' | h' <;> simp [h'])
    | born h => exact absurd h hu
    | frozen h h' => exact .ptrLost id off r' _ hr' (by simp [h']) (by simp [h'])
    | map h h' => exact .ptrLost id off r' _ hr' (by simp [h']) (by simp [h'])
    | dead h hu h' => exact .ptrLost id off r' _ hr' (by simp [h']) (by simp [h'])
  | dptr cells b o vs hd hv hm ih =>
    intro _
    refine .dptr cells b o vs hd (fun i hi => ih i hi ?_) (fun i hi => ?_)
    · exact AVal.lt_of_data N _ ((dataAll_iff cells).1 hd i hi)
    · obtain ⟨h1, h2⟩ := hm i hi
      exact (hI _ _ _ h2 h1).symm
  | rowF id off n b cap r hr hs hm hn ho hc =>
    intro hb
    obtain ⟨r', hr', hev⟩ := hR id r (by simpa [AVal.refLt] using hb) hr
    cases hev with
    | fresh h h' he hm' hl hc' =>
      exact .rowF id off n b cap r' hr' h' (hm'.trans hm) hn (by rw [he, hl]; exact ho) (fun i hi => hc' b _ hm (hc i (by rw [← he]; exact hi)))
    | left h h' he hl hc' hg =>
      have hj := hc' b hm
      have hex : ∀ i, i < n * r.esz → ∃ v, E'.w.cell? ⟨b, off + i, none⟩ = some v ∧ V E' (r'.cells.getD (off + i) .undef) v := fun i hi => (hj (off + i) (by omega)).2.2
      refine .rowG id off n b off cap r' (fun i => (E'.w.cell? ⟨b, off + i, none⟩).getD Go.undef) hr' h' hn (by rw [he]; omega) ?_ ?_ ?_ ?_
      · intro i hi; rw [he] at hi; exact (hj (off + i) (by omega)).2.1
      · intro i hi; rw [he] at hi
        obtain ⟨v, h1, h2⟩ := hex i hi
        rw [h1]; exact h2
      · intro i hi; rw [he] at hi
        obtain ⟨v, h1, h2⟩ := hex i hi
        exact ⟨by rw [h1]; rfl, (hj (off + i) (by omega)).1⟩
      · intro hg' hend
        rw [he] at hend
        obtain ⟨h1, h2⟩ := hg hg' (by omega)
        exact ⟨h1.trans hm, rfl, fun i hi => h2 b _ hm (hc i (by rw [← he]; exact hi))⟩
    | grown h => simp [hs] at h
    | frozen h => simp [hs] at h
    | map h => simp [hs] at h
    | born h => simp [hs] at h
    | dead h hu h' hc0 => exact .rowLost id off n r' _ hr' h' (by rcases hc0 with hc0 | hc0; · exact hc0
                                                                  · simp [hs] at hc0) (.inr ⟨b, off, cap, rfl, hn⟩)
  | rowV id r base hr hs =>
    intro hb
    obtain ⟨r', hr', hev⟩ := hR id r (by simpa [AVal.refLt] using hb) hr
    cases hev with
    | fresh h h' he hm' hl hc' =>
      refine .rowV id r' base hr' (.inr (.inl ⟨.inl h', ?_⟩))
      rcases hs with hs | hs | hs
      · simp [h] at hs
      · exact hm'.trans hs.2
      · simp [h] at hs
    | left h h' he hl hc' hg =>
      rcases hs with hs | hs | hs
      · simp [h] at hs
      · rcases h' with h' | h'
        · by_cases h0 : r'.cells = []
          · refine .rowV id r' base hr' (.inr (.inl ⟨.inr h', ?_⟩))
            have : r'.cells.length = r.cells.length := by rw [h0] at hl ⊢; simp at hl ⊢; simp [hl]
            exact (hg h' this).1.trans hs.2
          · exact .rowV id r' base hr' (.inr (.inr ⟨h', h0⟩))
        · exact .rowV id r' base hr' (.inl h')
      · simp [h] at hs
    | grown h h' he hp hg =>
      rcases h' with h' | h'
      · obtain ⟨t, hp⟩ := hp
        by_cases h0 : r'.cells = []
        · rcases hs with hs | hs | hs
          · simp [h] at hs
          · refine .rowV id r' base hr' (.inr (.inl ⟨.inr h', ?_⟩))
            have hh := hp; rw [h0] at hh
            have h3 := List.append_eq_nil_iff.1 hh.symm
            exact (hg h' (by rw [h0, h3.1])).1.trans hs.2
          · have hh := hp; rw [h0] at hh
            exact absurd (List.append_eq_nil_iff.1 hh.symm).1 hs.2
        · exact .rowV id r' base hr' (.inr (.inr ⟨h', h0⟩))
      · exact .rowV id r' base hr' (.inl h')
    | frozen h h' => exact .rowV id r' base hr' (.inl h')
    | map h => rcases hs with hs | ⟨hs | hs, _⟩ | hs <;> simp [h] at hs
    | born h => rcases hs with hs | ⟨hs | hs, _⟩ | hs <;> simp [h] at hs
    | dead h hu h' hc0 =>
      refine .rowLost id 0 0 r' _ hr' h' ?_ (.inl ⟨rfl, rfl, base, rfl⟩)
      rcases hc0 with hc0 | ⟨hc0, _⟩
      · exact hc0
      · exfalso; rcases hs with hs | ⟨hs | hs, _⟩ | ⟨hs, _⟩ <;> rw [hs] at hc0 <;> cases hc0
  | rowG id off n b o cap r vs hr hs hn ho hd hv hm he ih =>
    intro hb
    obtain ⟨r', hr', hev⟩ := hR id r (by simpa [AVal.refLt] using hb) hr
    have main : ∀ (h' : r'.st = .grown ∨ r'.st = .frozen) (he' : r'.esz = r.esz) (t : List AVal) (hp : r'.cells = r.cells ++ t)
        (hg : r'.st = .grown → r'.cells.length = r.cells.length → E'.m id = E.m id ∧ ∀ b o, E.m id = some b → (E.w.cell? ⟨b, o, none⟩).isSome = true → (E'.w.cell? ⟨b, o, none⟩).isSome = true)
        (hgg : r'.st = .grown → r.st = .grown),
        V E' (.row id off n) (.slice (some ⟨b, o, none⟩) n cap) := by
      intro h' he' t hp hg hgg
      have hcell : ∀ i, i < n * r.esz → r'.cells.getD (off + i) .undef = r.cells.getD (off + i) .undef := by
        intro i hi
        rw [hp, List.getD_eq_getElem?_getD, List.getD_eq_getElem?_getD, List.getElem?_append_left (by omega)]
      refine .rowG id off n b o cap r' vs hr' h' hn (by rw [he', hp, List.length_append]; omega) ?_ ?_ ?_ ?_
      · intro i hi; rw [he'] at hi; rw [hcell i hi]; exact hd i hi
      · intro i hi; rw [he'] at hi; rw [hcell i hi]; exact ih i hi (AVal.lt_of_data N _ (hd i hi))
      · intro i hi; rw [he'] at hi
        obtain ⟨h1, h2⟩ := hm i hi
        exact (hI _ _ _ h2 h1).symm
      · intro hg' hend
        rw [he', hp, List.length_append] at hend
        have ht : t.length = 0 := by omega
        obtain ⟨h1, h2⟩ := hg hg' (by rw [hp, List.length_append]; omega)
        obtain ⟨h3, h4, h5⟩ := he (hgg hg') (by omega)
        exact ⟨h1.trans h3, h4, fun i hi => h2 b _ h3 (h5 i (by rw [← he']; exact hi))⟩
    cases hev with
    | fresh h => rcases hs with hs | hs <;> simp [h] at hs
    | left h => rcases hs with hs | hs <;> simp [h] at hs
    | grown h h' he' hp hg => obtain ⟨t, hp⟩ := hp; exact main h' he' t hp hg (fun _ => h)
    | frozen h h' he' hp => exact main (.inr h') he' [] (by simp [hp]) (fun hx => by simp [h'] at hx) (fun hx => by simp [h'] at hx)
    | map h => rcases hs with hs | hs <;> simp [h] at hs
    | born h => rcases hs with hs | hs <;> simp [h] at hs
    | dead h hu h' hc0 =>
      refine .rowLost id off n r' _ hr' h' ?_ (.inr ⟨b, o, cap, rfl, hn⟩)
      rcases hc0 with hc0 | ⟨hc0, _⟩
      · exact hc0
      · exfalso; rcases hs with hs | hs <;> rw [hs] at hc0 <;> cases hc0
  | rowLost id off n r v hr hs h0 hv =>
    intro hb
    obtain ⟨r', hr', hev⟩ := hR id r (by simpa [AVal.refLt] using hb) hr
    cases hev with
    | fresh h => simp [hs] at h
    | left h => simp [hs] at h
    | grown h => simp [hs] at h
    | frozen h => simp [hs] at h
    | map h => simp [hs] at h
    | born h => simp [hs] at h
    | dead h hu h' hc0 => exact .rowLost id off n r' _ hr' h' (by rcases hc0 with hc0 | hc0; · exact hc0
                                                                  · rw [hc0.2]; exact h0) hv
  | fn f cap vs hl hv ih =>
    intro hb
    exact .fn f cap vs hl fun i hi => ih i hi ((ltAll_iff N cap).1 hb i hi)
  | ifc t x v h ih => exact fun hb => .ifc t x v (ih hb)
  | mp id r b hr hs hm =>
    intro hb
    obtain ⟨r', hr', hev⟩ := hR id r (by simpa [AVal.refLt] using hb) hr
    cases hev with
    | fresh h => simp [hs] at h
    | left h => simp [hs] at h
    | grown h => simp [hs] at h
    | frozen h => simp [hs] at h
    | born h => simp [hs] at h
    | dead h => exact absurd hs h
    | map h h' hm' => exact .mp id r' b hr' h' (hm'.trans hm)

/-- A value names rows that are there. -/
theorem V.refLt {E : Env} {x : AVal} {v : Value} (h : V E x v) : x.refLt E.rows.length = true := by
  have lt : ∀ {id : Nat} {r : Row}, E.rows[id]? = some r → id < E.rows.length := fun h => by
    rcases Nat.lt_or_ge _ E.rows.length with h' | h'
    · exact h'
    · simp [List.getElem?_eq_none h'] at h
  induction h with
  | undef v => rfl
  | sc v h => rfl
  | slnil => rfl
  | slz => rfl
  | sl => rfl
  | agg cells vs hl hv ih => exact (ltAll_iff _ cells).2 ih
  | tup cells vs hl hv ih => exact (ltAll_iff _ cells).2 ih
  | ptr id off r b hr hs hm => simpa [AVal.refLt] using lt hr
  | ptrLost id off r v hr hs hu => simpa [AVal.refLt] using lt hr
  | dptr => rfl
  | rowF id off n b cap r hr hs hm hn ho hc => simpa [AVal.refLt] using lt hr
  | rowV id r base hr hs => simpa [AVal.refLt] using lt hr
  | rowG id off n b o cap r vs hr hs hn ho hd hv hm he ih => simpa [AVal.refLt] using lt hr
  | rowLost id off n r v hr hs h0 hv => simpa [AVal.refLt] using lt hr
  | fn f cap vs hl hv ih => exact (ltAll_iff _ cap).2 ih
  | ifc t x v h ih => exact ih
  | mp id r b hr hs hm => simpa [AVal.refLt] using lt hr

structure Evo (N : Nat) (E E' : Env) : Prop where
  val : ∀ x v, V E x v → x.refLt N = true → V E' x v
  size : E.w.heap.size ≤ E'.w.heap.size
  free : ∀ b, b < E.w.heap.size → Free E b → E'.w.heap[b]? = E.w.heap[b]? ∧ Free E' b
  os : E'.w.os = E.w.os
  tape : E'.w.tape = E.w.tape
  output : E'.w.output = E.w.output
  imm : ∀ b o v, Imm E b o → E.w.cell? ⟨b, o, none⟩ = some v → Imm E' b o ∧ E'.w.cell? ⟨b, o, none⟩ = some v

theorem Evo.refl (N : Nat) (E : Env) : Evo N E E := ⟨fun _ _ h _ => h, Nat.le_refl _, fun _ _ h => ⟨rfl, h⟩, rfl, rfl, rfl, fun _ _ _ h1 h2 => ⟨h1, h2⟩⟩
theorem Evo.trans {N : Nat} {A B C : Env} (h : Evo N A B) (k : Evo N B C) : Evo N A C :=
  ⟨fun x v hv hb => k.val x v (h.val x v hv hb) hb, Nat.le_trans h.size k.size,
    fun b hb hf => let ⟨h1, h2⟩ := h.free b hb hf; let ⟨k1, k2⟩ := k.free b (Nat.lt_of_lt_of_le hb h.size) h2; ⟨k1.trans h1, k2⟩,
    k.os.trans h.os, k.tape.trans h.tape, k.output.trans h.output, fun b o v h1 h2 => let ⟨a, c⟩ := h.imm b o v h1 h2; k.imm b o v a c⟩
theorem Evo.mono {N M : Nat} {A B : Env} (h : Evo N A B) (hM : M ≤ N) : Evo M A B :=
  ⟨fun x v hv hb => h.val x v hv (AVal.lt_mono hM x hb), h.size, h.free, h.os, h.tape, h.output, h.imm⟩

structure Rel (E : Env) : Prop where
  xlt : ∀ b o, E.x b o → b < E.w.heap.size
  xr : ∀ (i : Nat) (r : Row) (b : Nat), E.rows[i]? = some r → r.st ≠ .frozen → E.m i = some b → ∀ o, ¬ E.x b o
  inj : ∀ (i j : Nat) (r s : Row) (b : Nat), E.rows[i]? = some r → E.rows[j]? = some s → r.st ≠ .frozen → s.st ≠ .frozen → E.m i = some b → E.m j = some b → i = j
  own : ∀ (i : Nat) (r : Row), E.rows[i]? = some r → r.st ≠ .frozen → r.st ≠ .map → (E.m i = none ∧ r.cells = []) ∨
    ∃ b c e, E.m i = some b ∧ E.w.heap[b]? = some (.cells c e (0, 0)) ∧ r.cells.length ≤ c.size ∧ ∀ j, j < r.cells.length → V E (r.cells.getD j .undef) (c.getD j Go.undef)
  grown : ∀ (i : Nat) (r : Row), E.rows[i]? = some r → r.st = .grown → dataAll r.cells = true
  map : ∀ (i : Nat) (r : Row), E.rows[i]? = some r → r.st = .map → ∃ b es k, E.m i = some b ∧ E.w.heap[b]? = some (.map es k) ∧ r.cells.length = 2 * es.size ∧
    ∀ j (h : j < es.size), V E (r.cells.getD (2 * j) .undef) es[j].key ∧ V E (r.cells.getD (2 * j + 1) .undef) es[j].val
end Go.Abs

set_option linter.unusedVariables false
set_option linter.unusedSimpArgs false
namespace Go.Abs
open Go

theorem lt_of_get {α : Type} {l : List α} {i : Nat} {x : α} (h : l[i]? = some x) : i < l.length := by
  rcases Nat.lt_or_ge i l.length with h' | h'
  · exact h'
  · simp [List.getElem?_eq_none h'] at h

theorem cell_at {w : World} {b o : Nat} {c : Array Value} {e : TypeId} {f : Nat × Nat} (h : w.heap[b]? = some (.cells c e f)) : w.cell? ⟨b, o, none⟩ = c[o]? := by
  simp [World.cell?, h]
theorem getD_some {c : Array Value} {o : Nat} (h : o < c.size) : c[o]? = some (c.getD o Go.undef) := by
  simp [Array.getD, h]
theorem cell_getD {w : World} {b o : Nat} {c : Array Value} {e : TypeId} {f : Nat × Nat} (h : w.heap[b]? = some (.cells c e f)) (ho : o < c.size) :
    w.cell? ⟨b, o, none⟩ = some (c.getD o Go.undef) := by rw [cell_at h, getD_some ho]
theorem cell_congr {w w' : World} {b o : Nat} (h : w'.heap[b]? = w.heap[b]?) : w'.cell? ⟨b, o, none⟩ = w.cell? ⟨b, o, none⟩ := by
  simp [World.cell?, h]
theorem isSome_cell {w : World} {b o : Nat} {c : Array Value} {e : TypeId} {f : Nat × Nat} (h : w.heap[b]? = some (.cells c e f)) :
    (w.cell? ⟨b, o, none⟩).isSome = true ↔ o < c.size := by
  rw [cell_at h]; simp

def upd (w : World) (b : Nat) (o : Obj) : World := { w with heap := w.heap.setIfInBounds b o }
theorem upd_size (w : World) (b : Nat) (o : Obj) : (upd w b o).heap.size = w.heap.size := by simp [upd]
theorem upd_same {w : World} {b : Nat} {o : Obj} (h : b < w.heap.size) : (upd w b o).heap[b]? = some o := by
  simp [upd, Array.getElem?_setIfInBounds, h]
theorem upd_other {w : World} {b k : Nat} {o : Obj} (h : k ≠ b) : (upd w b o).heap[k]? = w.heap[k]? := by
  simp only [upd, Array.getElem?_setIfInBounds]; rw [if_neg (Ne.symm h)]
theorem alloc_new (w : World) (o : Obj) : (w.alloc o).heap[w.heap.size]? = some o := heap_alloc_new w o
theorem alloc_old {w : World} {o : Obj} {k : Nat} (h : k < w.heap.size) : (w.alloc o).heap[k]? = w.heap[k]? := heap_alloc_old w o k h
theorem lt_of_heap {w : World} {b : Nat} {o : Obj} (h : w.heap[b]? = some o) : b < w.heap.size := by
  rcases Nat.lt_or_ge b w.heap.size with h' | h'
  · exact h'
  · simp [Array.getElem?_eq_none h'] at h

/-- Where the heap is the same. -/
theorem same_heap {E : Env} (hE : Rel E) {w' : World} (hw : w'.heap = E.w.heap) (ho : w'.os = E.w.os) (ht : w'.tape = E.w.tape) (hp : w'.output = E.w.output) (N : Nat) :
    Rel ⟨E.rows, E.m, w', E.x⟩ ∧ Evo N E ⟨E.rows, E.m, w', E.x⟩ := by
  have hcell : ∀ b o, w'.cell? ⟨b, o, none⟩ = E.w.cell? ⟨b, o, none⟩ := fun b o => by simp [World.cell?, hw]
  have hI : ∀ b o v, Imm E b o → E.w.cell? ⟨b, o, none⟩ = some v → Imm ⟨E.rows, E.m, w', E.x⟩ b o ∧ w'.cell? ⟨b, o, none⟩ = some v :=
    fun b o v h hc => ⟨⟨by rw [show (Env.mk E.rows E.m w' E.x).w.heap = E.w.heap from hw]; exact h.1, h.2⟩, by rw [hcell]; exact hc⟩
  have hV : ∀ x v, V E x v → V ⟨E.rows, E.m, w', E.x⟩ x v := fun x v h => by
    refine V.mono (N := E.rows.length) hI (fun id r _ hr => ⟨r, hr, ?_⟩) h h.refLt
    cases hs : r.st with
    | fresh => exact .fresh hs hs rfl rfl rfl (fun b o _ h => by rw [show (Env.mk E.rows E.m w' E.x).w = w' from rfl, hcell]; exact h)
    | grown => exact .grown hs (.inl hs) rfl ⟨[], by simp⟩ (fun _ _ => ⟨rfl, fun b o _ h => by rw [show (Env.mk E.rows E.m w' E.x).w = w' from rfl, hcell]; exact h⟩)
    | frozen => exact .frozen hs hs rfl rfl
    | map => exact .map hs hs rfl
    | unborn => exact .born hs
    | dead => exact .dead (by simp [hs]) (by simp [hs]) hs (.inr ⟨hs, rfl⟩)
  refine ⟨⟨fun b o h => by rw [show (Env.mk E.rows E.m w' E.x).w.heap = E.w.heap from hw]; exact hE.xlt b o h, hE.xr, hE.inj, ?_, hE.grown, ?_⟩, ⟨fun x v h _ => hV x v h, by simp [hw], fun b _ h => ⟨by simp [hw], h⟩, ho, ht, hp, hI⟩⟩
  · intro i r hr hs hs'
    rcases hE.own i r hr hs hs' with h | ⟨b, c, e, h1, h2, h3, h4⟩
    · exact .inl h
    · exact .inr ⟨b, c, e, h1, by rw [show (Env.mk E.rows E.m w' E.x).w.heap = E.w.heap from hw]; exact h2, h3, fun j hj => hV _ _ (h4 j hj)⟩
  · intro i r hr hs
    obtain ⟨b, es, k, h1, h2, h3, h4⟩ := hE.map i r hr hs
    exact ⟨b, es, k, h1, by rw [show (Env.mk E.rows E.m w' E.x).w.heap = E.w.heap from hw]; exact h2, h3, fun j hj => ⟨hV _ _ (h4 j hj).1, hV _ _ (h4 j hj).2⟩⟩

/-- The block of a row that is not frozen. -/
theorem Rel.block {E : Env} (hE : Rel E) {id b : Nat} {r : Row} (hr : E.rows[id]? = some r) (hs : r.st = .fresh ∨ r.st = .grown) (hm : E.m id = some b) :
    ∃ c e, E.w.heap[b]? = some (.cells c e (0, 0)) ∧ r.cells.length ≤ c.size ∧ ∀ j, j < r.cells.length → V E (r.cells.getD j .undef) (c.getD j Go.undef) := by
  rcases hE.own id r hr (by rcases hs with h | h <;> simp [h]) (by rcases hs with h | h <;> simp [h]) with ⟨h, _⟩ | ⟨b', c, e, h1, h2, h3, h4⟩
  · simp [h] at hm
  · rw [hm] at h1; cases h1; exact ⟨c, e, h2, h3, h4⟩

theorem Rel.lt {E : Env} (hE : Rel E) {id b : Nat} {r : Row} (hr : E.rows[id]? = some r) (hs : r.st ≠ .frozen) (hm : E.m id = some b) : b < E.w.heap.size := by
  cases hst : r.st with
  | frozen => exact absurd hst hs
  | unborn =>
    rcases hE.own id r hr hs (by simp [hst]) with h | ⟨b', c, e, h1, h2, _⟩
    · rw [h.1] at hm; cases hm
    · rw [hm] at h1; cases h1; exact lt_of_heap h2
  | dead =>
    rcases hE.own id r hr hs (by simp [hst]) with h | ⟨b', c, e, h1, h2, _⟩
    · rw [h.1] at hm; cases hm
    · rw [hm] at h1; cases h1; exact lt_of_heap h2
  | map => obtain ⟨b', es, k, h1, h2, _⟩ := hE.map id r hr hst; rw [hm] at h1; cases h1; exact lt_of_heap h2
  | fresh => obtain ⟨c, e, h2, _⟩ := hE.block hr (.inl hst) hm; exact lt_of_heap h2
  | grown => obtain ⟨c, e, h2, _⟩ := hE.block hr (.inr hst) hm; exact lt_of_heap h2

theorem get_append_old {l : List Row} {r s : Row} {i : Nat} (h : l[i]? = some s) : (l ++ [r])[i]? = some s := by
  rw [List.getElem?_append_left (lt_of_get h)]; exact h
theorem get_append_cases {l : List Row} {r s : Row} {i : Nat} (h : (l ++ [r])[i]? = some s) : (i < l.length ∧ l[i]? = some s) ∨ (i = l.length ∧ s = r) := by
  rcases Nat.lt_trichotomy i l.length with h' | h' | h'
  · exact .inl ⟨h', by rw [List.getElem?_append_left h'] at h; exact h⟩
  · subst h'; simp at h; exact .inr ⟨rfl, h.symm⟩
  · rw [List.getElem?_eq_none (by simp; omega)] at h; simp at h
theorem get_set_cases {l : List Row} {r s : Row} {i j : Nat} (h : (l.set j r)[i]? = some s) : (i = j ∧ s = r ∧ j < l.length) ∨ (i ≠ j ∧ l[i]? = some s) := by
  rw [List.getElem?_set] at h
  split at h
  · rename_i e; subst e
    split at h
    · rename_i hl; simp at h; exact .inl ⟨rfl, h.symm, hl⟩
    · simp at h
  · rename_i e; exact .inr ⟨fun h' => e h'.symm, h⟩
theorem get_set_same {l : List Row} {r s : Row} {j : Nat} (h : l[j]? = some s) : (l.set j r)[j]? = some r := by
  rw [List.getElem?_set]; simp [lt_of_get h]
theorem get_set_other {l : List Row} {r : Row} {i j : Nat} (h : i ≠ j) : (l.set j r)[i]? = l[i]? := by
  rw [List.getElem?_set]; simp [Ne.symm h]

/-- A row as it was. -/
theorem RowEvo.keep {E E' : Env} {id : Nat} {r : Row} (hm : E'.m id = E.m id) (hc : r.st = .fresh ∨ r.st = .grown → ∀ b o, E.m id = some b → (E.w.cell? ⟨b, o, none⟩).isSome = true → (E'.w.cell? ⟨b, o, none⟩).isSome = true) :
    RowEvo E E' id r r := by
  cases hs : r.st with
  | fresh => exact .fresh hs hs rfl hm rfl (hc (.inl hs))
  | grown => exact .grown hs (.inl hs) rfl ⟨[], by simp⟩ (fun _ _ => ⟨hm, hc (.inr hs)⟩)
  | frozen => exact .frozen hs hs rfl rfl
  | map => exact .map hs hs hm
  | unborn => exact .born hs
  | dead => exact .dead (by simp [hs]) (by simp [hs]) hs (.inr ⟨hs, rfl⟩)

/-- A new block for a new row. -/
theorem alloc_step {E : Env} (hE : Rel E) (r : Row) (c : Array Value) (e : TypeId) (hf : r.st = .fresh) (hl : r.cells.length ≤ c.size)
    (hv : ∀ j, j < r.cells.length → V E (r.cells.getD j .undef) (c.getD j Go.undef)) :
    let E' : Env := ⟨E.rows ++ [r], fun i => if i = E.rows.length then some E.w.heap.size else E.m i, E.w.alloc (.cells c e), E.x⟩
    Rel E' ∧ Evo E.rows.length E E' := by
  intro E'
  have hold : ∀ {i : Nat}, i < E.rows.length → E'.m i = E.m i := fun h => by show (if _ then _ else _) = _; rw [if_neg (by omega)]
  have hnew : E'.m E.rows.length = some E.w.heap.size := by show (if _ then _ else _) = _; rw [if_pos rfl]
  have hheap : ∀ {k : Nat}, k < E.w.heap.size → E'.w.heap[k]? = E.w.heap[k]? := fun h => alloc_old h
  have hI : ∀ b o v, Imm E b o → E.w.cell? ⟨b, o, none⟩ = some v → Imm E' b o ∧ E'.w.cell? ⟨b, o, none⟩ = some v := by
    intro b o v h hc
    refine ⟨⟨by show b < (E.w.alloc _).heap.size; simp; have := h.1; omega, h.2.1, ?_⟩, by rw [cell_congr (hheap h.1)]; exact hc⟩
    intro id s hs hns hm
    rcases get_append_cases hs with ⟨hlt, hs⟩ | ⟨he, _⟩
    · rw [hold hlt] at hm; exact h.2.2 id s hs hns hm
    · subst he; rw [hnew] at hm; have := h.1; simp at hm; omega
  have hV : ∀ x v, V E x v → V E' x v := fun x v h => by
    refine V.mono (N := E.rows.length) hI (fun id s _ hs => ⟨s, get_append_old hs, RowEvo.keep (hold (lt_of_get hs)) ?_⟩) h h.refLt
    intro hst b o hm hc
    rw [cell_congr (hheap (hE.lt hs (by rcases hst with h | h <;> simp [h]) hm))]; exact hc
  refine ⟨⟨?_, ?_, ?_, ?_, ?_, ?_⟩, ⟨fun x v h _ => hV x v h, by show _ ≤ (E.w.alloc _).heap.size; simp, ?_, rfl, rfl, rfl, hI⟩⟩
  · intro b o h; show b < (E.w.alloc _).heap.size; have := hE.xlt b o h; simp; omega
  · intro i s b hs hns hi o hx
    rcases get_append_cases hs with ⟨hlt, hs⟩ | ⟨he, he2⟩
    · rw [hold hlt] at hi; exact hE.xr i s b hs hns hi o hx
    · rw [he, hnew] at hi; simp at hi; have := hE.xlt b o hx; omega
  · intro i j s t b hs ht hns hnt hi hj
    rcases get_append_cases hs with ⟨hlt, hs⟩ | ⟨he, he2⟩ <;> rcases get_append_cases ht with ⟨hlt', ht⟩ | ⟨he', he2'⟩
    · rw [hold hlt] at hi; rw [hold hlt'] at hj; exact hE.inj i j s t b hs ht hns hnt hi hj
    · rw [hold hlt] at hi; rw [he', hnew] at hj; have := hE.lt hs hns hi; simp at hj; omega
    · rw [hold hlt'] at hj; rw [he, hnew] at hi; have := hE.lt ht hnt hj; simp at hi; omega
    · omega
  · intro i s hs hns hnm
    rcases get_append_cases hs with ⟨hlt, hs⟩ | ⟨he, he2⟩
    · rcases hE.own i s hs hns hnm with h | ⟨b, c', e', h1, h2, h3, h4⟩
      · exact .inl ⟨(hold hlt).trans h.1, h.2⟩
      · exact .inr ⟨b, c', e', (hold hlt).trans h1, (hheap (lt_of_heap h2)).trans h2, h3, fun j hj => hV _ _ (h4 j hj)⟩
    · subst he; subst he2
      exact .inr ⟨_, c, e, hnew, alloc_new _ _, hl, fun j hj => hV _ _ (hv j hj)⟩
  · intro i s hs hg
    rcases get_append_cases hs with ⟨hlt, hs⟩ | ⟨he, he2⟩
    · exact hE.grown i s hs hg
    · subst he2; simp [hf] at hg
  · intro i s hs hg
    rcases get_append_cases hs with ⟨hlt, hs⟩ | ⟨he, he2⟩
    · obtain ⟨b, es, k, h1, h2, h3, h4⟩ := hE.map i s hs hg
      exact ⟨b, es, k, (hold hlt).trans h1, (hheap (lt_of_heap h2)).trans h2, h3, fun j hj => ⟨hV _ _ (h4 j hj).1, hV _ _ (h4 j hj).2⟩⟩
    · subst he2; simp [hf] at hg
  · intro b hb hfree
    refine ⟨hheap hb, fun id s hs hns hm => ?_⟩
    rcases get_append_cases hs with ⟨hlt, hs⟩ | ⟨he, _⟩
    · rw [hold hlt] at hm; exact hfree id s hs hns hm
    · subst he; rw [hnew] at hm; simp at hm; omega

/-- A row without a block. -/
theorem virtual_step {E : Env} (hE : Rel E) (esz : Nat) :
    let E' : Env := ⟨E.rows ++ [⟨[], esz, .fresh⟩], fun i => if i = E.rows.length then none else E.m i, E.w, E.x⟩
    Rel E' ∧ Evo E.rows.length E E' := by
  intro E'
  have hold : ∀ {i : Nat}, i < E.rows.length → E'.m i = E.m i := fun h => by show (if _ then _ else _) = _; rw [if_neg (by omega)]
  have hnew : E'.m E.rows.length = none := by show (if _ then _ else _) = _; rw [if_pos rfl]
  have hI : ∀ b o v, Imm E b o → E.w.cell? ⟨b, o, none⟩ = some v → Imm E' b o ∧ E'.w.cell? ⟨b, o, none⟩ = some v := by
    intro b o v h hc
    refine ⟨⟨h.1, h.2.1, ?_⟩, hc⟩
    intro id s hs hns hm
    rcases get_append_cases hs with ⟨hlt, hs⟩ | ⟨he, _⟩
    · rw [hold hlt] at hm; exact h.2.2 id s hs hns hm
    · subst he; rw [hnew] at hm; simp at hm
  have hV : ∀ x v, V E x v → V E' x v := fun x v h =>
    V.mono (N := E.rows.length) hI (fun id s _ hs => ⟨s, get_append_old hs, RowEvo.keep (hold (lt_of_get hs)) (fun _ b o _ h => h)⟩) h h.refLt
  refine ⟨⟨hE.xlt, ?_, ?_, ?_, ?_, ?_⟩, ⟨fun x v h _ => hV x v h, Nat.le_refl _, ?_, rfl, rfl, rfl, hI⟩⟩
  · intro i s b hs hns hi o hx
    rcases get_append_cases hs with ⟨hlt, hs⟩ | ⟨he, he2⟩
    · rw [hold hlt] at hi; exact hE.xr i s b hs hns hi o hx
    · rw [he, hnew] at hi; simp at hi
  · intro i j s t b hs ht hns hnt hi hj
    rcases get_append_cases hs with ⟨hlt, hs⟩ | ⟨he, he2⟩ <;> rcases get_append_cases ht with ⟨hlt', ht⟩ | ⟨he', he2'⟩
    · rw [hold hlt] at hi; rw [hold hlt'] at hj; exact hE.inj i j s t b hs ht hns hnt hi hj
    · rw [he', hnew] at hj; simp at hj
    · rw [he, hnew] at hi; simp at hi
    · omega
  · intro i s hs hns hnm
    rcases get_append_cases hs with ⟨hlt, hs⟩ | ⟨he, he2⟩
    · rcases hE.own i s hs hns hnm with h | ⟨b, c', e', h1, h2, h3, h4⟩
      · exact .inl ⟨(hold hlt).trans h.1, h.2⟩
      · exact .inr ⟨b, c', e', (hold hlt).trans h1, h2, h3, fun j hj => hV _ _ (h4 j hj)⟩
    · subst he; subst he2
      exact .inl ⟨hnew, rfl⟩
  · intro i s hs hg
    rcases get_append_cases hs with ⟨hlt, hs⟩ | ⟨he, he2⟩
    · exact hE.grown i s hs hg
    · subst he2; simp at hg
  · intro i s hs hg
    rcases get_append_cases hs with ⟨hlt, hs⟩ | ⟨he, he2⟩
    · obtain ⟨b, es, k, h1, h2, h3, h4⟩ := hE.map i s hs hg
      exact ⟨b, es, k, (hold hlt).trans h1, h2, h3, fun j hj => ⟨hV _ _ (h4 j hj).1, hV _ _ (h4 j hj).2⟩⟩
    · subst he2; simp at hg
  · intro b hb hfree
    refine ⟨rfl, fun id s hs hns hm => ?_⟩
    rcases get_append_cases hs with ⟨hlt, hs⟩ | ⟨he, _⟩
    · rw [hold hlt] at hm; exact hfree id s hs hns hm
    · subst he; rw [hnew] at hm; simp at hm

/-- The contents of one row turn; its block is the same, or a new one. -/
theorem row_step {E : Env} (hE : Rel E) {id b : Nat} {r r' : Row} (hr : E.rows[id]? = some r) (hs : r.st = .fresh ∨ r.st = .grown) (hm : E.m id = some b)
    {w' : World} {b' : Nat} {c' : Array Value} {e' : TypeId} (hw : (b' = b ∧ w' = upd E.w b (.cells c' e' (0, 0))) ∨ (b' = E.w.heap.size ∧ w' = E.w.alloc (.cells c' e') ∧ r'.st = .grown))
    (hs' : r'.st = .fresh ∨ r'.st = .grown) (hse : r'.st = .fresh → r.st = .fresh ∧ r'.cells.length = r.cells.length) (he : r'.esz = r.esz)
    (hg : r'.st = .grown → (∃ t, r'.cells = r.cells ++ t ∧ (b' = b ∨ t ≠ [])) ∧ dataAll r'.cells = true)
    (hl : r'.cells.length ≤ c'.size) (hkeep : b' = b → ∀ c e, E.w.heap[b]? = some (.cells c e (0, 0)) → c'.size = c.size ∧ (r'.st = .grown → ∀ j, j < r.cells.length → c'.getD j Go.undef = c.getD j Go.undef))
    (hv : ∀ j, j < r'.cells.length → V E (r'.cells.getD j .undef) (c'.getD j Go.undef)) :
    let E' : Env := ⟨E.rows.set id r', fun i => if i = id then some b' else E.m i, w', E.x⟩
    Rel E' ∧ Evo E.rows.length E E' := by
  intro E'
  obtain ⟨c, e, hb, hbl, hbv⟩ := hE.block hr hs hm
  have hnf : r.st ≠ .frozen := by rcases hs with h | h <;> simp [h]
  have hnf' : r'.st ≠ .frozen := by rcases hs' with h | h <;> simp [h]
  have hblt := lt_of_heap hb
  have hmid : E'.m id = some b' := by show (if _ then _ else _) = _; rw [if_pos rfl]
  have hmo : ∀ {i : Nat}, i ≠ id → E'.m i = E.m i := fun h => by show (if _ then _ else _) = _; rw [if_neg h]
  have hsz : E.w.heap.size ≤ E'.w.heap.size := by
    show _ ≤ w'.heap.size
    rcases hw with ⟨_, hw⟩ | ⟨_, hw, _⟩
    · rw [hw, upd_size]; omega
    · rw [hw]; simp
  have hwb : E'.w.heap[b']? = some (.cells c' e' (0, 0)) := by
    show w'.heap[b']? = _
    rcases hw with ⟨h1, hw⟩ | ⟨h1, hw, _⟩
    · rw [hw, h1]; exact upd_same hblt
    · rw [hw, h1]; exact alloc_new _ _
  have hheap : ∀ {k : Nat}, k < E.w.heap.size → k ≠ b → E'.w.heap[k]? = E.w.heap[k]? := by
    intro k hk hkb
    show w'.heap[k]? = _
    rcases hw with ⟨_, hw⟩ | ⟨_, hw, _⟩
    · rw [hw]; exact upd_other hkb
    · rw [hw]; exact alloc_old hk
  -- the old block, where the row has left it
  have hleft : b' ≠ b → E'.w.heap[b]? = E.w.heap[b]? ∧ b' = E.w.heap.size := by
    intro hne
    rcases hw with ⟨h1, _⟩ | ⟨h1, hw, _⟩
    · exact absurd h1 hne
    · exact ⟨by show w'.heap[b]? = _; rw [hw]; exact alloc_old hblt, h1⟩
  have hother : ∀ {i : Nat} {s : Row}, i ≠ id → E.rows[i]? = some s → s.st ≠ .frozen → E.m i ≠ some b := by
    intro i s hi hs1 hns h
    exact hi (hE.inj i id s r b hs1 hr hns hnf h hm)
  have hImmNew : ∀ o, r'.st = .grown → o < r.cells.length → Imm E' b o ∧ E'.w.cell? ⟨b, o, none⟩ = some (c.getD o Go.undef) := by
    intro o hgr ho
    obtain ⟨⟨t, ht, _⟩, _⟩ := hg hgr
    by_cases hbb : b' = b
    · obtain ⟨hk1, hk2⟩ := hkeep hbb c e hb
      refine ⟨⟨Nat.lt_of_lt_of_le hblt hsz, hE.xr id r b hr hnf hm o, ?_⟩, ?_⟩
      · intro i s hs1 hns hmi
        rcases get_set_cases hs1 with ⟨h1, h2, _⟩ | ⟨h1, h2⟩
        · subst h2; exact ⟨hgr, by rw [ht, List.length_append]; omega⟩
        · rw [hmo h1] at hmi; exact absurd hmi (hother h1 h2 hns)
      · rw [hbb] at hwb; rw [cell_getD hwb (by omega), hk2 hgr o ho]
    · obtain ⟨h1, h2⟩ := hleft hbb
      refine ⟨⟨Nat.lt_of_lt_of_le hblt hsz, hE.xr id r b hr hnf hm o, ?_⟩, ?_⟩
      · intro i s hs1 hns hmi
        rcases get_set_cases hs1 with ⟨h3, h4, _⟩ | ⟨h3, h4⟩
        · subst h3; rw [hmid] at hmi; simp at hmi; exact absurd hmi hbb
        · rw [hmo h3] at hmi; exact absurd hmi (hother h3 h4 hns)
      · rw [cell_congr h1, cell_getD hb (by omega)]
  have hI : ∀ b0 o v, Imm E b0 o → E.w.cell? ⟨b0, o, none⟩ = some v → Imm E' b0 o ∧ E'.w.cell? ⟨b0, o, none⟩ = some v := by
    intro b0 o v h hc
    by_cases hbb : b0 = b
    · subst hbb
      obtain ⟨hgr, ho⟩ := h.2.2 id r hr hnf hm
      have hgr' : r'.st = .grown := by
        rcases hs' with h' | h'
        · have := (hse h').1; simp [hgr] at this
        · exact h'
      obtain ⟨h1, h2⟩ := hImmNew o hgr' ho
      refine ⟨h1, h2.trans ?_⟩
      rw [cell_getD hb (by omega)] at hc; exact hc
    · refine ⟨⟨Nat.lt_of_lt_of_le h.1 hsz, h.2.1, ?_⟩, by rw [cell_congr (hheap h.1 hbb)]; exact hc⟩
      intro i s hs1 hns hmi
      rcases get_set_cases hs1 with ⟨h1, h2, _⟩ | ⟨h1, h2⟩
      · subst h1; rw [hmid] at hmi; simp at hmi
        by_cases hb2 : b' = b
        · omega
        · have := (hleft hb2).2; have := h.1; omega
      · rw [hmo h1] at hmi; exact h.2.2 i s h2 hns hmi
  have hV1 : ∀ x v, V E x v → x.data = true → V E' x v := fun x v h hd =>
    V.mono (N := 0) hI (fun id r h _ => absurd h (by omega)) h (AVal.lt_of_data 0 x hd)
  have hsome : b' = b → ∀ o, (E.w.cell? ⟨b, o, none⟩).isSome = true → (E'.w.cell? ⟨b, o, none⟩).isSome = true := by
    intro hbb o ho
    rw [isSome_cell hb] at ho
    have := (hkeep hbb c e hb).1
    rw [hbb] at hwb
    rw [isSome_cell hwb]; omega
  have hV : ∀ x v, V E x v → V E' x v := fun x v h => by
    refine V.mono (N := E.rows.length) hI (fun i s _ hs1 => ?_) h h.refLt
    by_cases hi : i = id
    · subst hi
      rw [hr] at hs1; cases hs1
      refine ⟨r', get_set_same hr, ?_⟩
      rcases hs' with h' | h'
      · obtain ⟨h1, h2⟩ := hse h'
        have hbb : b' = b := by
          rcases hw with ⟨h3, _⟩ | ⟨_, _, h3⟩
          · exact h3
          · simp [h'] at h3
        exact .fresh h1 h' he (by rw [hmid, hm, hbb]) h2 (fun b1 o hb1 ho => by rw [hm] at hb1; cases hb1; exact hsome hbb o ho)
      · obtain ⟨⟨t, ht, htb⟩, hd⟩ := hg h'
        have hlast : r'.st = .grown → r'.cells.length = r.cells.length → E'.m i = E.m i ∧ ∀ b1 o, E.m i = some b1 → (E.w.cell? ⟨b1, o, none⟩).isSome = true → (E'.w.cell? ⟨b1, o, none⟩).isSome = true := by
          intro _ hlen
          have hbb : b' = b := by
            rcases htb with h1 | h1
            · exact h1
            · rw [ht, List.length_append] at hlen
              exact absurd (List.eq_nil_of_length_eq_zero (by omega)) h1
          exact ⟨by rw [hmid, hm, hbb], fun b1 o hb1 ho => by rw [hm] at hb1; cases hb1; exact hsome hbb o ho⟩
        rcases hs with h1 | h1
        · refine .left h1 (.inl h') he (by rw [ht, List.length_append]; omega) ?_ hlast
          intro b1 hb1 j hj
          rw [hm] at hb1; cases hb1
          obtain ⟨hi1, hi2⟩ := hImmNew j h' hj
          have hdj : (r'.cells.getD j .undef).data = true := (dataAll_iff _).1 hd j (by rw [ht, List.length_append]; omega)
          refine ⟨hi1, hdj, _, hi2, ?_⟩
          have hcj : r'.cells.getD j .undef = r.cells.getD j .undef := by
            rw [ht, List.getD_eq_getElem?_getD, List.getD_eq_getElem?_getD, List.getElem?_append_left hj]
          rw [hcj] at hdj ⊢
          exact hV1 _ _ (hbv j hj) hdj
        · exact .grown h1 (.inl h') he ⟨t, ht⟩ hlast
    · refine ⟨s, by rw [get_set_other hi]; exact hs1, RowEvo.keep (hmo hi) ?_⟩
      intro hst b1 o hb1 ho
      have hns : s.st ≠ .frozen := by rcases hst with h | h <;> simp [h]
      have hne : b1 ≠ b := fun h => hother hi hs1 hns (h ▸ hb1)
      rw [cell_congr (hheap (hE.lt hs1 hns hb1) hne)]; exact ho
  refine ⟨⟨fun b1 o h => Nat.lt_of_lt_of_le (hE.xlt b1 o h) hsz, ?_, ?_, ?_, ?_, ?_⟩, ⟨fun x v h _ => hV x v h, hsz, ?_, ?_, ?_, ?_, hI⟩⟩
  · intro i s b1 h1 hns hmi o hx
    rcases get_set_cases h1 with ⟨a1, a2, _⟩ | ⟨a1, a2⟩
    · rw [a1, hmid] at hmi; simp at hmi
      by_cases hbb : b' = b
      · exact hE.xr id r b hr hnf hm o (by rw [← hbb, hmi]; exact hx)
      · have := (hleft hbb).2; have := hE.xlt b1 o hx; omega
    · rw [hmo a1] at hmi; exact hE.xr i s b1 a2 hns hmi o hx
  · intro i j s t b1 h1 h2 hn1 hn2 hi hj
    have key : ∀ {i : Nat} {s : Row}, i ≠ id → E.rows[i]? = some s → s.st ≠ .frozen → E.m i ≠ some b' := by
      intro i s hne h1 hn1 hmi
      by_cases hbb : b' = b
      · exact hother hne h1 hn1 (hbb ▸ hmi)
      · have := hE.lt h1 hn1 hmi; have := (hleft hbb).2; omega
    rcases get_set_cases h1 with ⟨a1, a2, _⟩ | ⟨a1, a2⟩ <;> rcases get_set_cases h2 with ⟨d1, d2, _⟩ | ⟨d1, d2⟩
    · omega
    · rw [hmo d1] at hj; rw [a1, hmid] at hi; cases hi; exact absurd hj (key d1 d2 hn2)
    · rw [hmo a1] at hi; rw [d1, hmid] at hj; cases hj; exact absurd hi (key a1 a2 hn1)
    · rw [hmo a1] at hi; rw [hmo d1] at hj; exact hE.inj i j s t b1 a2 d2 hn1 hn2 hi hj
  · intro i s h1 hns hnm
    rcases get_set_cases h1 with ⟨a1, a2, _⟩ | ⟨a1, a2⟩
    · subst a1; subst a2
      exact .inr ⟨b', c', e', hmid, hwb, hl, fun j hj => hV _ _ (hv j hj)⟩
    · rcases hE.own i s a2 hns hnm with h | ⟨b1, c1, e1, h1, h2, h3, h4⟩
      · exact .inl ⟨(hmo a1).trans h.1, h.2⟩
      · exact .inr ⟨b1, c1, e1, (hmo a1).trans h1, (hheap (lt_of_heap h2) (fun h => hother a1 a2 hns (h ▸ h1))).trans h2, h3, fun j hj => hV _ _ (h4 j hj)⟩
  · intro i s h1 hgr
    rcases get_set_cases h1 with ⟨a1, a2, _⟩ | ⟨a1, a2⟩
    · subst a2; exact (hg hgr).2
    · exact hE.grown i s a2 hgr
  · intro i s h1 hmp
    rcases get_set_cases h1 with ⟨a1, a2, _⟩ | ⟨a1, a2⟩
    · subst a2; rcases hs' with h | h <;> simp [h] at hmp
    · obtain ⟨b1, es, k, h1, h2, h3, h4⟩ := hE.map i s a2 hmp
      exact ⟨b1, es, k, (hmo a1).trans h1, (hheap (lt_of_heap h2) (fun h => hother a1 a2 (by simp [hmp]) (h ▸ h1))).trans h2, h3, fun j hj => ⟨hV _ _ (h4 j hj).1, hV _ _ (h4 j hj).2⟩⟩
  · intro b1 hb1 hfree
    have hne : b1 ≠ b := fun h => hfree id r hr hnf (h ▸ hm)
    refine ⟨hheap hb1 hne, fun i s h1 hns hmi => ?_⟩
    rcases get_set_cases h1 with ⟨a1, a2, _⟩ | ⟨a1, a2⟩
    · subst a1; rw [hmid] at hmi; simp at hmi
      by_cases hbb : b' = b
      · omega
      · have := (hleft hbb).2; omega
    · rw [hmo a1] at hmi; exact hfree i s a2 hns hmi
  all_goals (show _ = _; rcases hw with ⟨_, hw⟩ | ⟨_, hw, _⟩ <;> (rw [show E'.w = w' from rfl, hw]; rfl))

/-- A row is not written any more. -/
theorem freeze_step {E : Env} (hE : Rel E) {id : Nat} {r : Row} (hr : E.rows[id]? = some r) (hs : r.st = .fresh ∨ r.st = .grown) (hd : dataAll r.cells = true) :
    let E' : Env := ⟨E.rows.set id { r with st := .frozen }, E.m, E.w, E.x⟩
    Rel E' ∧ Evo E.rows.length E E' := by
  intro E'
  have hnf : r.st ≠ .frozen := by rcases hs with h | h <;> simp [h]
  have hI : ∀ b o v, Imm E b o → E.w.cell? ⟨b, o, none⟩ = some v → Imm E' b o ∧ E'.w.cell? ⟨b, o, none⟩ = some v := by
    intro b o v h hc
    refine ⟨⟨h.1, h.2.1, ?_⟩, hc⟩
    intro i s hs1 hns hm
    rcases get_set_cases hs1 with ⟨_, h2, _⟩ | ⟨_, h2⟩
    · subst h2; exact absurd rfl hns
    · exact h.2.2 i s h2 hns hm
  have hV1 : ∀ x v, V E x v → x.data = true → V E' x v := fun x v h hdx =>
    V.mono (N := 0) hI (fun id r h _ => absurd h (by omega)) h (AVal.lt_of_data 0 x hdx)
  have hV : ∀ x v, V E x v → V E' x v := fun x v h => by
    refine V.mono (N := E.rows.length) hI (fun i s _ hs1 => ?_) h h.refLt
    by_cases hi : i = id
    · subst hi
      rw [hr] at hs1; cases hs1
      refine ⟨_, get_set_same hr, ?_⟩
      rcases hs with h1 | h1
      · refine .left h1 (.inr rfl) rfl (Nat.le_refl _) ?_ (fun h => by simp at h)
        intro b hb j hj
        obtain ⟨c, e, hbk, hbl, hbv⟩ := hE.block hr (.inl h1) hb
        have hdj := (dataAll_iff _).1 hd j hj
        refine ⟨⟨lt_of_heap hbk, hE.xr i r b hr hnf hb j, ?_⟩, hdj, _, cell_getD hbk (by omega), hV1 _ _ (hbv j hj) hdj⟩
        intro i' s' hs' hns hmi
        rcases get_set_cases hs' with ⟨_, a2, _⟩ | ⟨a1, a2⟩
        · subst a2; exact absurd rfl hns
        · exact absurd (hE.inj i' i s' r b a2 hr hns hnf hmi hb) a1
      · exact .grown h1 (.inr rfl) rfl ⟨[], by simp⟩ (fun h => by simp at h)
    · exact ⟨s, by rw [get_set_other hi]; exact hs1, RowEvo.keep rfl (fun _ _ _ _ h => h)⟩
  refine ⟨⟨hE.xlt, ?_, ?_, ?_, ?_, ?_⟩, ⟨fun x v h _ => hV x v h, Nat.le_refl _, ?_, rfl, rfl, rfl, hI⟩⟩
  · intro i s b h1 hns hmi o hx
    rcases get_set_cases h1 with ⟨_, a2, _⟩ | ⟨_, a2⟩
    · subst a2; exact absurd rfl hns
    · exact hE.xr i s b a2 hns hmi o hx
  · intro i j s t b h1 h2 hn1 hn2 hi hj
    rcases get_set_cases h1 with ⟨_, a2, _⟩ | ⟨_, a2⟩
    · subst a2; exact absurd rfl hn1
    · rcases get_set_cases h2 with ⟨_, d2, _⟩ | ⟨_, d2⟩
      · subst d2; exact absurd rfl hn2
      · exact hE.inj i j s t b a2 d2 hn1 hn2 hi hj
  · intro i s h1 hns hnm
    rcases get_set_cases h1 with ⟨_, a2, _⟩ | ⟨_, a2⟩
    · subst a2; exact absurd rfl hns
    · rcases hE.own i s a2 hns hnm with h | ⟨b, c', e', h1, h2, h3, h4⟩
      · exact .inl h
      · exact .inr ⟨b, c', e', h1, h2, h3, fun j hj => hV _ _ (h4 j hj)⟩
  · intro i s h1 hg
    rcases get_set_cases h1 with ⟨_, a2, _⟩ | ⟨_, a2⟩
    · subst a2; simp at hg
    · exact hE.grown i s a2 hg
  · intro i s h1 hg
    rcases get_set_cases h1 with ⟨_, a2, _⟩ | ⟨_, a2⟩
    · subst a2; simp at hg
    · obtain ⟨b, es, k, h1, h2, h3, h4⟩ := hE.map i s a2 hg
      exact ⟨b, es, k, h1, h2, h3, fun j hj => ⟨hV _ _ (h4 j hj).1, hV _ _ (h4 j hj).2⟩⟩
  · intro b hb hfree
    refine ⟨rfl, fun i s h1 hns hmi => ?_⟩
    rcases get_set_cases h1 with ⟨_, a2, _⟩ | ⟨_, a2⟩
    · subst a2; exact absurd rfl hns
    · exact hfree i s a2 hns hmi
end Go.Abs

set_option linter.unusedVariables false
set_option linter.unusedSimpArgs false
namespace Go.Abs
open Go

/-! ### Rows may be forgotten, and have other numbers -/
mutual
def AVal.ren (ρ : Nat → Nat) : AVal → AVal
  | .sc v => .sc v
  | .sl c n k => .sl c n k
  | .agg cs => .agg (renAll ρ cs)
  | .tup cs => .tup (renAll ρ cs)
  | .dptr cs => .dptr cs
  | .fn f cs => .fn f (renAll ρ cs)
  | .ifc t v => .ifc t (v.ren ρ)
  | .ptr id o => .ptr (ρ id) o
  | .row id o n => .row (ρ id) o n
  | .mp id => .mp (ρ id)
  | .undef => .undef
def renAll (ρ : Nat → Nat) : List AVal → List AVal
  | [] => []
  | x :: r => x.ren ρ :: renAll ρ r
end
theorem renAll_length (ρ : Nat → Nat) (l : List AVal) : (renAll ρ l).length = l.length := by
  induction l with
  | nil => rfl
  | cons x r ih => simp [renAll, ih]
theorem renAll_getD (ρ : Nat → Nat) (l : List AVal) (i : Nat) : (renAll ρ l).getD i .undef = (l.getD i .undef).ren ρ := by
  induction l generalizing i with
  | nil => simp [renAll, AVal.ren]
  | cons x r ih =>
    cases i with
    | zero => simp [renAll]
    | succ i => simpa [renAll] using ih i
mutual
theorem AVal.ren_lt {ρ : Nat → Nat} {N : Nat} (h : ∀ i, i < N → ρ i = i) : ∀ x : AVal, x.refLt N = true → x.ren ρ = x
  | .sc _, _ => rfl
  | .sl _ _ _, _ => rfl
  | .agg cs, hx => by simp only [AVal.refLt, AVal.ren] at *; rw [renAll_lt h cs hx]
  | .tup cs, hx => by simp only [AVal.refLt, AVal.ren] at *; rw [renAll_lt h cs hx]
  | .dptr _, _ => rfl
  | .fn _ cs, hx => by simp only [AVal.refLt, AVal.ren] at *; rw [renAll_lt h cs hx]
  | .ifc _ v, hx => by simp only [AVal.refLt, AVal.ren] at *; rw [AVal.ren_lt h v hx]
  | .ptr id _, hx => by simp only [AVal.refLt, AVal.ren, decide_eq_true_eq] at *; rw [h id hx]
  | .row id _ _, hx => by simp only [AVal.refLt, AVal.ren, decide_eq_true_eq] at *; rw [h id hx]
  | .mp id, hx => by simp only [AVal.refLt, AVal.ren, decide_eq_true_eq] at *; rw [h id hx]
  | .undef, _ => rfl
theorem renAll_lt {ρ : Nat → Nat} {N : Nat} (h : ∀ i, i < N → ρ i = i) : ∀ l : List AVal, ltAll N l = true → renAll ρ l = l
  | [], _ => rfl
  | x :: r, hx => by
    simp only [ltAll, renAll, Bool.and_eq_true] at *
    rw [AVal.ren_lt h x hx.1, renAll_lt h r hx.2]
end
theorem AVal.ren_data {ρ : Nat → Nat} (x : AVal) (h : x.data = true) : x.ren ρ = x := AVal.ren_lt (N := 0) (fun _ h => absurd h (by omega)) x (AVal.lt_of_data 0 x h)
mutual
theorem AVal.ren_id : ∀ x : AVal, x.ren id = x
  | .sc _ => rfl
  | .sl _ _ _ => rfl
  | .agg cs => by simp only [AVal.ren]; rw [renAll_id cs]
  | .tup cs => by simp only [AVal.ren]; rw [renAll_id cs]
  | .dptr _ => rfl
  | .fn _ cs => by simp only [AVal.ren]; rw [renAll_id cs]
  | .ifc _ v => by simp only [AVal.ren]; rw [AVal.ren_id v]
  | .ptr _ _ => rfl
  | .row _ _ _ => rfl
  | .mp _ => rfl
  | .undef => rfl
theorem renAll_id : ∀ l : List AVal, renAll id l = l
  | [] => rfl
  | x :: r => by simp only [renAll]; rw [AVal.ren_id x, renAll_id r]
end
mutual
theorem AVal.data_ren (ρ : Nat → Nat) : ∀ x : AVal, (x.ren ρ).data = x.data
  | .sc _ => rfl
  | .sl _ _ _ => rfl
  | .agg cs => by simp only [AVal.ren, AVal.data]; exact dataAll_ren ρ cs
  | .tup cs => by simp only [AVal.ren, AVal.data]; exact dataAll_ren ρ cs
  | .dptr _ => rfl
  | .fn _ cs => by simp only [AVal.ren, AVal.data]; exact dataAll_ren ρ cs
  | .ifc _ v => by simp only [AVal.ren, AVal.data]; exact AVal.data_ren ρ v
  | .ptr _ _ => rfl
  | .row _ _ _ => rfl
  | .mp _ => rfl
  | .undef => rfl
theorem dataAll_ren (ρ : Nat → Nat) : ∀ l : List AVal, dataAll (renAll ρ l) = dataAll l
  | [] => rfl
  | x :: r => by simp only [renAll, dataAll]; rw [AVal.data_ren ρ x, dataAll_ren ρ r]
end

def Row.ren (ρ : Nat → Nat) (r : Row) : Row := { r with cells := renAll ρ r.cells }
theorem Row.ren_id (r : Row) : r.ren id = r := by simp [Row.ren, renAll_id]

theorem V.unren {E1 E2 : Env} {ρ : Nat → Nat} (hw : E2.w = E1.w) (hx2 : E2.x = E1.x) (hrow : ∀ (i : Nat) (r : Row), E2.rows[i]? = some r → E1.rows[ρ i]? = some (r.ren ρ))
    (hm : ∀ i, i < E2.rows.length → E2.m i = E1.m (ρ i)) {y : AVal} {v : Value} (h : V E1 y v) : ∀ x : AVal, x.ren ρ = y → x.refLt E2.rows.length = true → V E2 x v := by
  have hI : ∀ b o, Imm E1 b o → Imm E2 b o := by
    intro b o hi
    refine ⟨by rw [hw]; exact hi.1, by rw [hx2]; exact hi.2.1, fun id r hr hns hmi => ?_⟩
    have := hi.2.2 (ρ id) _ (hrow id r hr) hns (by rw [← hm id (lt_of_get hr)]; exact hmi)
    simpa [Row.ren, renAll_length] using this
  have hmem : ∀ b o v, (E1.w.cell? ⟨b, o, none⟩ = some v ∧ Imm E1 b o) → (E2.w.cell? ⟨b, o, none⟩ = some v ∧ Imm E2 b o) := fun b o v h => ⟨by rw [hw]; exact h.1, hI b o h.2⟩
  have hget : ∀ {id : Nat}, id < E2.rows.length → ∀ {r : Row}, E1.rows[ρ id]? = some r → ∃ r2, E2.rows[id]? = some r2 ∧ r = r2.ren ρ := by
    intro id hid r hr
    have h1 : E2.rows[id]? = some E2.rows[id] := by simp [hid]
    have h2 := hrow id _ h1
    rw [hr] at h2; cases h2
    exact ⟨_, h1, rfl⟩
  induction h with
  | undef v => intro x hx hb; cases x <;> simp [AVal.ren] at hx; exact .undef v
  | sc v h => intro x hx hb; cases x <;> simp [AVal.ren] at hx; subst hx; exact .sc _ h
  | slnil k hk => intro x hx hb; cases x <;> simp [AVal.ren] at hx; obtain ⟨rfl, rfl, rfl⟩ := hx; exact .slnil _ hk
  | slz k hk a => intro x hx hb; cases x <;> simp [AVal.ren] at hx; obtain ⟨rfl, rfl, rfl⟩ := hx; exact .slz _ hk a
  | sl cells n k b o cap vs hk hn hd hv hm' ih =>
    intro x hx hb
    cases x <;> simp [AVal.ren] at hx
    obtain ⟨rfl, rfl, rfl⟩ := hx
    refine .sl _ _ _ b o cap vs hk hn hd (fun i hi => ?_) (fun i hi => hmem _ _ _ (hm' i hi))
    have hdi := (dataAll_iff _).1 hd i hi
    exact ih i hi _ (AVal.ren_data _ hdi) (AVal.lt_of_data _ _ hdi)
  | agg cells vs hl hv ih =>
    intro x hx hb
    cases x <;> simp [AVal.ren] at hx
    subst hx
    rw [renAll_length] at hl
    refine .agg _ vs hl fun i hi => ih i (by rw [renAll_length]; exact hi) _ (renAll_getD ρ _ i).symm ((ltAll_iff _ _).1 hb i hi)
  | tup cells vs hl hv ih =>
    intro x hx hb
    cases x <;> simp [AVal.ren] at hx
    subst hx
    rw [renAll_length] at hl
    refine .tup _ vs hl fun i hi => ih i (by rw [renAll_length]; exact hi) _ (renAll_getD ρ _ i).symm ((ltAll_iff _ _).1 hb i hi)
  | ptr id off r b hr hs hmi =>
    intro x hx hb
    cases x <;> simp [AVal.ren] at hx
    obtain ⟨rfl, rfl⟩ := hx
    have hid := of_decide_eq_true hb
    obtain ⟨r2, h1, h2⟩ := hget hid hr
    subst h2
    exact .ptr _ _ r2 b h1 hs ((hm _ hid).trans hmi)
  | ptrLost id off r v hr hs hu =>
    intro x hx hb
    cases x <;> simp [AVal.ren] at hx
    obtain ⟨rfl, rfl⟩ := hx
    have hid := of_decide_eq_true hb
    obtain ⟨r2, h1, h2⟩ := hget hid hr
    subst h2
    exact .ptrLost _ _ r2 _ h1 hs hu
  | dptr cells b o vs hd hv hm' ih =>
    intro x hx hb
    cases x <;> simp [AVal.ren] at hx
    subst hx
    refine .dptr _ b o vs hd (fun i hi => ?_) (fun i hi => hmem _ _ _ (hm' i hi))
    have hdi := (dataAll_iff _).1 hd i hi
    exact ih i hi _ (AVal.ren_data _ hdi) (AVal.lt_of_data _ _ hdi)
  | rowF id off n b cap r hr hs hmi hn ho hc =>
    intro x hx hb
    cases x <;> simp [AVal.ren] at hx
    obtain ⟨rfl, rfl, rfl⟩ := hx
    have hid := of_decide_eq_true hb
    obtain ⟨r2, h1, h2⟩ := hget hid hr
    subst h2
    exact .rowF _ _ _ b cap r2 h1 hs ((hm _ hid).trans hmi) hn (by simpa [Row.ren, renAll_length] using ho) (fun i hi => by rw [hw]; exact hc i hi)
  | rowV id r base hr hs =>
    intro x hx hb
    cases x <;> simp [AVal.ren] at hx
    obtain ⟨rfl, rfl, rfl⟩ := hx
    have hid := of_decide_eq_true hb
    obtain ⟨r2, h1, h2⟩ := hget hid hr
    subst h2
    refine .rowV _ r2 base h1 ?_
    rcases hs with hs | hs | hs
    · exact .inl hs
    · exact .inr (.inl ⟨hs.1, (hm _ hid).trans hs.2⟩)
    · refine .inr (.inr ⟨hs.1, fun h0 => hs.2 ?_⟩)
      simp [Row.ren, h0, renAll]
  | rowG id off n b o cap r vs hr hs hn ho hd hv hm' he ih =>
    intro x hx hb
    cases x <;> simp [AVal.ren] at hx
    rename_i id' off' n'
    obtain ⟨rfl, rfl, rfl⟩ := hx
    have hid := of_decide_eq_true hb
    obtain ⟨r2, h1, h2⟩ := hget hid hr
    subst h2
    have hd2 : ∀ i, i < n' * r2.esz → (r2.cells.getD (off' + i) .undef).data = true := fun i hi => by
      have := hd i hi
      simp only [Row.ren, renAll_getD, AVal.data_ren] at this; exact this
    refine .rowG _ _ _ b o cap r2 vs h1 hs hn (by simpa [Row.ren, renAll_length] using ho) hd2 (fun i hi => ?_) (fun i hi => hmem _ _ _ (hm' i hi)) (fun hg hend => ?_)
    · exact ih i hi _ (by simp only [Row.ren, renAll_getD]) (AVal.lt_of_data _ _ (hd2 i hi))
    · obtain ⟨k1, k2, k3⟩ := he hg (by simpa [Row.ren, renAll_length] using hend)
      exact ⟨(hm _ hid).trans k1, k2, fun i hi => by rw [hw]; exact k3 i hi⟩
  | rowLost id off n r v hr hs h0 hv =>
    intro x hx hb
    cases x <;> simp [AVal.ren] at hx
    obtain ⟨rfl, rfl, rfl⟩ := hx
    have hid := of_decide_eq_true hb
    obtain ⟨r2, h1, h2⟩ := hget hid hr
    subst h2
    exact .rowLost _ _ _ r2 _ h1 hs (List.eq_nil_of_length_eq_zero (by have := congrArg List.length h0; simpa [Row.ren, renAll_length] using this)) hv
  | fn f cap vs hl hv ih =>
    intro x hx hb
    cases x <;> simp [AVal.ren] at hx
    obtain ⟨rfl, rfl⟩ := hx
    rw [renAll_length] at hl
    refine .fn _ _ vs hl fun i hi => ih i (by rw [renAll_length]; exact hi) _ (renAll_getD ρ _ i).symm ((ltAll_iff _ _).1 hb i hi)
  | ifc t x v h ih =>
    intro x hx hb
    cases x <;> simp [AVal.ren] at hx
    obtain ⟨rfl, rfl⟩ := hx
    exact .ifc _ _ v (ih _ rfl hb)
  | mp id r b hr hs hmi =>
    intro x hx hb
    cases x <;> simp [AVal.ren] at hx
    subst hx
    have hid := of_decide_eq_true hb
    obtain ⟨r2, h1, h2⟩ := hget hid hr
    subst h2
    exact .mp _ r2 b h1 hs ((hm _ hid).trans hmi)

/-- Rows forgotten, and with other numbers from N on. -/
theorem drop_step {E1 : Env} (hE : Rel E1) {N : Nat} {ρ : Nat → Nat} {rows2 : List Row} (hN : ∀ i, i < N → ρ i = i) (hNl : N ≤ rows2.length)
    (hinj : ∀ i j, i < rows2.length → j < rows2.length → ρ i = ρ j → i = j)
    (hrow : ∀ (i : Nat) (r : Row), rows2[i]? = some r → E1.rows[ρ i]? = some (r.ren ρ) ∧ (r.st ≠ .frozen → ltAll rows2.length r.cells = true)) :
    let E2 : Env := ⟨rows2, fun i => E1.m (ρ i), E1.w, E1.x⟩
    Rel E2 ∧ Evo N E1 E2 ∧ ∀ x v, V E1 (x.ren ρ) v → x.refLt rows2.length = true → V E2 x v := by
  intro E2
  have hV : ∀ x v, V E1 (x.ren ρ) v → x.refLt rows2.length = true → V E2 x v := fun x v h hb =>
    V.unren (E1 := E1) (E2 := E2) rfl rfl (fun i r h => (hrow i r h).1) (fun i _ => rfl) h x rfl hb
  have hI : ∀ b o v, Imm E1 b o → E1.w.cell? ⟨b, o, none⟩ = some v → Imm E2 b o ∧ E2.w.cell? ⟨b, o, none⟩ = some v := fun b o v h1 h2 =>
    ⟨⟨h1.1, h1.2.1, fun id r hr hns hmi => by
      have := h1.2.2 (ρ id) _ (hrow id r hr).1 hns hmi
      simpa [Row.ren, renAll_length] using this⟩, h2⟩
  refine ⟨⟨hE.xlt, fun i r b hr hns hmi => hE.xr (ρ i) _ b (hrow i r hr).1 hns hmi, ?_, ?_, ?_, ?_⟩, ⟨fun x v h hb => hV x v (by rw [AVal.ren_lt hN x hb]; exact h) (AVal.lt_mono hNl x hb), Nat.le_refl _, ?_, rfl, rfl, rfl, hI⟩, hV⟩
  · intro i j r s b hr hs hnr hns hi hj
    exact hinj i j (lt_of_get hr) (lt_of_get hs) (hE.inj (ρ i) (ρ j) _ _ b (hrow i r hr).1 (hrow j s hs).1 hnr hns hi hj)
  · intro i r hr hns hnm
    rcases hE.own (ρ i) _ (hrow i r hr).1 hns hnm with h | ⟨b, c, e, h1, h2, h3, h4⟩
    · refine .inl ⟨h.1, ?_⟩
      have h0 : (renAll ρ r.cells).length = 0 := by rw [show renAll ρ r.cells = [] from h.2]; rfl
      rw [renAll_length] at h0; exact List.eq_nil_of_length_eq_zero h0
    · refine .inr ⟨b, c, e, h1, h2, by simpa [Row.ren, renAll_length] using h3, fun j hj => ?_⟩
      have := h4 j (by simpa [Row.ren, renAll_length] using hj)
      refine hV _ _ (by simpa only [Row.ren, renAll_getD] using this) ((ltAll_iff _ _).1 ((hrow i r hr).2 hns) j hj)
  · intro i r hr hg
    have := hE.grown (ρ i) _ (hrow i r hr).1 hg
    simpa [Row.ren, dataAll_ren] using this
  · intro i r hr hg
    obtain ⟨b, es, k, h1, h2, h3, h4⟩ := hE.map (ρ i) _ (hrow i r hr).1 hg
    have h3' : r.cells.length = 2 * es.size := by simpa [Row.ren, renAll_length] using h3
    have hlt := (ltAll_iff _ _).1 ((hrow i r hr).2 (by simp [hg]))
    refine ⟨b, es, k, h1, h2, h3', fun j hj => ⟨hV _ _ ?_ (hlt _ (by omega)), hV _ _ ?_ (hlt _ (by omega))⟩⟩
    · simpa only [Row.ren, renAll_getD] using (h4 j hj).1
    · simpa only [Row.ren, renAll_getD] using (h4 j hj).2
  · intro b hb hf
    exact ⟨rfl, fun i r hr hns hmi => hf (ρ i) _ (hrow i r hr).1 hns hmi⟩
end Go.Abs

set_option linter.unusedVariables false
set_option linter.unusedSimpArgs false
namespace Go.Abs
open Go

structure St where
  regs : List AVal
  rows : List Row

def St.put (st : St) (dst : Option Tmp) (x : AVal) (rows : List Row) : St :=
  match dst with
  | some d => ⟨st.regs.set d x, rows⟩
  | none => ⟨st.regs, rows⟩

def const1 (v : Value) : AVal :=
  match v with
  | .bool b => .sc (.bool b)
  | .int k n => .sc (.int k n)
  | .float k n => .sc (.float k n)
  | .complex k a b => .sc (.complex k a b)
  | .string s => .sc (.string s)
  | .pointer none => .sc (.pointer none)
  | .map none => .sc (.map none)
  | .chan none => .sc (.chan none)
  | .nilFunc => .sc .nilFunc
  | .nilIface => .sc .nilIface
  | .slice none 0 0 => .sl [] 0 .nil
  | .func (.func f) first cap => if first.size = 0 ∧ cap.size = 0 then .fn f [] else .undef
  | _ => .undef
def constA (v : Value) : AVal :=
  match v with
  | .agg cs => .agg (cs.toList.map const1)
  | .tuple cs => .tup (cs.toList.map const1)
  | v => const1 v

theorem V.const1 (E : Env) (v : Value) : V E (const1 v) v := by
  unfold Abs.const1
  split <;> first | exact .sc _ rfl | exact .slnil _ (by simp) | exact .undef _ | skip
  rename_i f first cap
  split
  · rename_i h
    obtain ⟨h1, h2⟩ := h
    have h1' : first = #[] := by simpa using h1
    have h2' : cap = #[] := by simpa using h2
    subst h1'; subst h2'
    exact .fn f [] [] rfl (fun i hi => by simp at hi)
  · exact .undef _
theorem V.constA (E : Env) (v : Value) : V E (constA v) v := by
  unfold Abs.constA
  split
  · rename_i cs
    have := V.agg (E := E) (cs.toList.map Abs.const1) cs.toList (by simp) (fun i hi => by
      simp at hi; simp [hi]; exact V.const1 E _)
    simpa using this
  · rename_i cs
    have := V.tup (E := E) (cs.toList.map Abs.const1) cs.toList (by simp) (fun i hi => by
      simp at hi; simp [hi]; exact V.const1 E _)
    simpa using this
  · exact V.const1 E _

def ev (regs : List AVal) : Operand → AVal
  | .tmp t => regs.getD t .undef
  | .const v => constA v
  | .global _ => .undef
  | .func f => .fn f []

structure RelSt (ds : List Deferred) (X : Nat → Nat → Prop) (st : St) (m : Nat → Option Nat) (w : World) (a : Act) : Prop where
  rel : Rel ⟨st.rows, m, w, X⟩
  len : st.regs.length = a.tmps.size
  regs : ∀ i, i < st.regs.length → V ⟨st.rows, m, w, X⟩ (st.regs.getD i .undef) (a.tmps.getD i Go.undef)
  defers : a.defers = ds

theorem RelSt.reg {st : St} {ds : List Deferred} {X : Nat → Nat → Prop} {m : Nat → Option Nat} {w : World} {a : Act} (h : RelSt ds X st m w a) (i : Nat) : V ⟨st.rows, m, w, X⟩ (st.regs.getD i .undef) (a.tmps.getD i Go.undef) := by
  rcases Nat.lt_or_ge i st.regs.length with h' | h'
  · exact h.regs i h'
  · rw [List.getD_eq_getElem?_getD, List.getElem?_eq_none h']; exact .undef _
theorem RelSt.eval {st : St} {ds : List Deferred} {X : Nat → Nat → Prop} {m : Nat → Option Nat} {w : World} {a : Act} (h : RelSt ds X st m w a) (x : Operand) : V ⟨st.rows, m, w, X⟩ (ev st.regs x) (a.eval x) := by
  cases x with
  | tmp t => exact h.reg t
  | const v => exact V.constA _ v
  | global g => exact .undef _
  | func f => exact .fn f [] [] rfl (fun i hi => by simp at hi)

theorem RelSt.put {st : St} {ds : List Deferred} {X : Nat → Nat → Prop} {m m' : Nat → Option Nat} {w w' : World} {a : Act} (h : RelSt ds X st m w a) {rows' : List Row} (hr : Rel ⟨rows', m', w', X⟩)
    (he : Evo st.rows.length ⟨st.rows, m, w, X⟩ ⟨rows', m', w', X⟩) (dst : Option Tmp) {x : AVal} {v : Value} (hx : V ⟨rows', m', w', X⟩ x v) : RelSt ds X (st.put dst x rows') m' w' (a.put dst v) := by
  have hold : ∀ i, i < st.regs.length → V ⟨rows', m', w', X⟩ (st.regs.getD i .undef) (a.tmps.getD i Go.undef) := fun i hi => he.val _ _ (h.regs i hi) (h.regs i hi).refLt
  cases dst with
  | none => exact ⟨hr, h.len, hold, h.defers⟩
  | some d =>
    refine ⟨hr, by show (st.regs.set d x).length = (a.tmps.setIfInBounds d v).size; simp [h.len], ?_, h.defers⟩
    intro i hi
    have hi' : i < st.regs.length := by simpa [St.put] using hi
    show V _ ((st.regs.set d x).getD i .undef) ((a.tmps.setIfInBounds d v).getD i Go.undef)
    have hsz : i < a.tmps.size := by rw [← h.len]; exact hi'
    by_cases hd : d = i
    · subst hd
      have e1 : (st.regs.set d x).getD d .undef = x := by simp [List.getD_eq_getElem?_getD, hi']
      have e2 : (a.tmps.setIfInBounds d v).getD d Go.undef = v := by simp [Array.getD, hsz]
      rw [e1, e2]; exact hx
    · have e1 : (st.regs.set d x).getD i .undef = st.regs.getD i .undef := by simp [List.getD_eq_getElem?_getD, List.getElem?_set, hd]
      have e2 : (a.tmps.setIfInBounds d v).getD i Go.undef = a.tmps.getD i Go.undef := by simp [Array.getD, hsz, Array.getElem_setIfInBounds, hd]
      rw [e1, e2]; exact hold i hi'

/-- No fence but the round that a frame is in. -/
def Fw (rd : Option Nat) : Fence := { fn := fun _ => True, depth := none, alive := false, round := rd }
theorem calls_in {P : Program} {f : FuncId} {args : Array Value} {w : World} {R : Ending → World → Prop} (rd : Option Nat) (n : Nat) (h : Calls P f args w R) : CallsIn (Fw rd) n P f args w R := (callsIn_wide (n := n)).2 h
theorem calls_out {P : Program} {f : FuncId} {args : Array Value} {w : World} {R : Ending → World → Prop} {n : Nat} (h : CallsIn (Fw none) n P f args w R) : Calls P f args w R := (callsIn_wide (n := n)).1 h
/-- A piece of code, from a state on. N: the rows of the callers. -/
def AWP (P : Program) (N : Nat) (c : Code) (Q : Exit → St → Prop) (st : St) : Prop :=
  N ≤ st.rows.length → ∀ (rd : Option Nat) (ds : List Deferred) (X : Nat → Nat → Prop) (m : Nat → Option Nat) (w : World) (a : Act), RelSt ds X st m w a →
    c.wpIn (Fw rd) 0 P (fun e a' w' => ∃ st' m', Q e st' ∧ N ≤ st'.rows.length ∧ RelSt ds X st' m' w' a' ∧ Evo N ⟨st.rows, m, w, X⟩ ⟨st'.rows, m', w', X⟩) a w

def VL (E : Env) (xs : List AVal) (vs : List Value) : Prop := xs.length = vs.length ∧ ∀ i, i < xs.length → V E (xs.getD i .undef) (vs.getD i Go.undef)

/-- What a function answers. -/
def EvF (P : Program) (f : FuncId) (args : List AVal) (rows : List Row) (r : AVal) (rows' : List Row) : Prop :=
  ∀ (X : Nat → Nat → Prop) (m : Nat → Option Nat) (w : World) (vs : List Value), Rel ⟨rows, m, w, X⟩ → VL ⟨rows, m, w, X⟩ args vs →
    Calls P f vs.toArray w fun e w' => ∃ v m', e = .returned v ∧ Rel ⟨rows', m', w', X⟩ ∧ V ⟨rows', m', w', X⟩ r v ∧ rows.length ≤ rows'.length ∧ Evo rows.length ⟨rows, m, w, X⟩ ⟨rows', m', w', X⟩

/-- One operation. -/
def OpS (P : Program) (o : Oper) (ρ : Operand → AVal) (rows : List Row) (res : AVal) (rows' : List Row) : Prop :=
  ∀ (X : Nat → Nat → Prop) (m : Nat → Option Nat) (w : World) (a : Act), Rel ⟨rows, m, w, X⟩ → (∀ x ∈ o.op.operands.toList, V ⟨rows, m, w, X⟩ (ρ x) (a.eval x)) →
    ∀ (K : Act → World → Prop) (Q : Exit → Act → World → Prop),
      (∀ v m' w', Rel ⟨rows', m', w', X⟩ → V ⟨rows', m', w', X⟩ res v → rows.length ≤ rows'.length → Evo rows.length ⟨rows, m, w, X⟩ ⟨rows', m', w', X⟩ → K (a.put o.dst v) w') → ∀ rd : Option Nat, o.wpIn (Fw rd) 0 P a w K Q

theorem OpS.congr {P : Program} {o : Oper} {ρ ρ' : Operand → AVal} {rows rows' : List Row} {res : AVal} (h : OpS P o ρ rows res rows') (he : ∀ x ∈ o.op.operands.toList, ρ' x = ρ x) : OpS P o ρ' rows res rows' :=
  fun X m w a hr hv K Q hK => h X m w a hr (fun x hx => by rw [← he x hx]; exact hv x hx) K Q hK

def wantA (ops : Array Oper) (o : Oper) (regs : List AVal) : Option Bool :=
  match o.guard with
  | none => some true
  | some (j, want) =>
    match (ops[j]?).bind (·.dst) with
    | none => some false
    | some t =>
      match regs.getD t .undef with
      | .sc (.bool b) => some (b == want)
      | .tup [] => some false
      | _ => none

theorem wantA_spec {ops : Array Oper} {o : Oper} {st : St} {ds : List Deferred} {X : Nat → Nat → Prop} {m : Nat → Option Nat} {w : World} {a : Act} {b : Bool} (h : RelSt ds X st m w a) (hw : wantA ops o st.regs = some b) :
    Region.wanted o (yielded ops a.tmps) = b := by
  unfold wantA at hw
  unfold Region.wanted
  split at hw
  · rename_i hg; simp at hw; subst hw; rw [hg]
  · rename_i j want hg
    rw [hg]
    simp only
    split at hw
    · rename_i hd
      simp at hw; subst hw
      simp [yielded, hd]
    · rename_i t hd
      have hv := h.reg t
      have hlt : (∃ x, st.regs.getD t .undef = x ∧ x ≠ .undef) → t < st.regs.length := by
        rintro ⟨x, hx, hne⟩
        rcases Nat.lt_or_ge t st.regs.length with h' | h'
        · exact h'
        · rw [List.getD_eq_getElem?_getD, List.getElem?_eq_none h'] at hx; exact absurd hx.symm hne
      split at hw
      · rename_i bb hb
        have ht := hlt ⟨_, hb, by simp⟩
        rw [hb] at hv
        have : a.tmps[t]? = some (.bool bb) := by
          rw [h.len] at ht
          cases hv' : a.tmps.getD t Go.undef with
          | bool q => rw [hv'] at hv; cases hv; simp [Array.getD, ht] at hv'; simp [ht, hv']
          | _ => rw [hv'] at hv; cases hv
        simp at hw
        simp only [yielded, hd, Option.bind_some, this, ← hw]
        rfl
      · rename_i hb
        have ht := hlt ⟨_, hb, by simp⟩
        rw [hb] at hv
        simp at hw; subst hw
        have : a.tmps[t]? = some (.tuple #[]) := by
          rw [h.len] at ht
          cases hv' : a.tmps.getD t Go.undef with
          | tuple q =>
            rw [hv'] at hv
            have hq : q = #[] := by
              generalize hx : AVal.tup [] = x at hv
              generalize hy : Value.tuple q = y at hv
              cases hv <;> simp at hx hy
              rename_i vs hl _
              subst hx
              simp at hl
              simp [hy, List.eq_nil_of_length_eq_zero hl.symm]
            subst hq
            simp [Array.getD, ht] at hv'; simp [ht, hv']
          | _ =>
            rw [hv'] at hv
            generalize hx : AVal.tup [] = x at hv
            cases hv <;> simp_all
        simp [yielded, hd, this]
      · simp at hw

inductive Der (P : Program) (ops : Array Oper) : List Nat → St → St → Prop
  | nil (st : St) : Der P ops [] st st
  | op (i : Nat) (rest : List Nat) (st st' : St) (o : Oper) (res : AVal) (rows' : List Row) (ho : ops[i]? = some o) (hw : wantA ops o st.regs = some true)
      (hs : OpS P o (ev st.regs) st.rows res rows') (h : Der P ops rest (st.put o.dst res rows') st') : Der P ops (i :: rest) st st'
  | skip (i : Nat) (rest : List Nat) (st st' : St) (o : Oper) (ho : ops[i]? = some o) (hw : wantA ops o st.regs = some false)
      (h : Der P ops rest (st.put o.dst (.tup []) st.rows) st') : Der P ops (i :: rest) st st'

theorem V.undefTup (E : Env) : V E (.tup []) Go.undef := by
  have := V.tup (E := E) [] [] rfl (fun i hi => by simp at hi)
  simpa [Go.undef] using this

theorem Der.wp {P : Program} {ops : Array Oper} {l : List Nat} {st st' : St} (h : Der P ops l st st') : ∀ {ds : List Deferred} {X : Nat → Nat → Prop} {m : Nat → Option Nat} {w : World} {a : Act} {Q : Exit → Act → World → Prop} {rd : Option Nat}, RelSt ds X st m w a →
    (∀ m' w' a', RelSt ds X st' m' w' a' → st.rows.length ≤ st'.rows.length → Evo st.rows.length ⟨st.rows, m, w, X⟩ ⟨st'.rows, m', w', X⟩ → Q .normal a' w') → wpOpsIn (Fw rd) 0 P ops Q l a w := by
  induction h with
  | nil st => exact fun hr hq => hq _ _ _ hr (Nat.le_refl _) (Evo.refl _ _)
  | op i rest st st' o res rows' ho hw hs _ ih =>
    intro ds X m w a Q rd hr hq
    simp only [wpOpsIn, ho]
    rw [if_pos (wantA_spec hr hw)]
    refine hs X m w a hr.rel (fun x _ => hr.eval x) _ _ (fun v m' w' h1 h2 h3 h4 => ?_) rd
    have hput := hr.put h1 h4 o.dst h2
    refine ih hput fun m2 w2 a2 k1 k2 k3 => ?_
    have hrows : (st.put o.dst res rows').rows = rows' := by cases o.dst <;> rfl
    rw [hrows] at k2 k3
    exact hq _ _ _ k1 (Nat.le_trans h3 k2) (h4.trans (k3.mono h3))
  | skip i rest st st' o ho hw _ ih =>
    intro ds X m w a Q rd hr hq
    simp only [wpOpsIn, ho]
    rw [if_neg (by rw [wantA_spec hr hw]; simp)]
    refine ⟨fun _ _ => trivial, ?_⟩
    have hput := hr.put hr.rel (Evo.refl _ _) o.dst (V.undefTup _)
    refine ih hput fun m2 w2 a2 k1 k2 k3 => ?_
    have hrows : (st.put o.dst (.tup []) st.rows).rows = st.rows := by cases o.dst <;> rfl
    rw [hrows] at k2 k3
    exact hq _ _ _ k1 k2 k3

section
variable {P : Program} {N : Nat} {Q : Exit → St → Prop} {st : St}

theorem AWP.mono {c : Code} {Q' : Exit → St → Prop} (h : AWP P N c Q st) (hq : ∀ e s, Q e s → Q' e s) : AWP P N c Q' st :=
  fun hN rd ds X m w a hr => wpIn_mono (h hN rd ds X m w a hr) fun e _ _ ⟨st', m', h1, h2⟩ => ⟨st', m', hq e st' h1, h2⟩

def thenQ (next : St → Prop) (Q : Exit → St → Prop) : Exit → St → Prop
  | .normal, st => next st
  | e, st => Q e st
def inBlockQ (id : Nat) (Q : Exit → St → Prop) : Exit → St → Prop
  | .exit id', st => if id' = id then Q .normal st else Q (.exit id') st
  | e, st => Q e st

theorem AWP.skip (h : Q .normal st) : AWP P N .skip Q st :=
  fun hN rd ds X m w _ hr => wpIn_skip ⟨st, m, h, hN, hr, Evo.refl _ _⟩
theorem AWP.label {l : Nat} (h : Q .normal st) : AWP P N (.label l) Q st :=
  fun hN rd ds X m w _ hr => wpIn_label ⟨st, m, h, hN, hr, Evo.refl _ _⟩
theorem AWP.exit {id : Nat} (h : Q (.exit id) st) : AWP P N (.exit id) Q st :=
  fun hN rd ds X m w _ hr => wpIn_exit ⟨st, m, h, hN, hr, Evo.refl _ _⟩
theorem AWP.ret (h : Q .ret st) : AWP P N .ret Q st :=
  fun hN rd ds X m w _ hr => wpIn_ret ⟨st, m, h, hN, hr, Evo.refl _ _⟩

theorem AWP.seq {x y : Code} (h : AWP P N x (thenQ (AWP P N y Q) Q) st) : AWP P N (.seq x y) Q st := by
  intro hN rd ds X m w a hr
  refine wpIn_seq (wpIn_mono (h hN rd ds X m w a hr) ?_)
  rintro e a' w' ⟨st', m', hq, hN', hr', hev⟩
  cases e with
  | normal => exact wpIn_mono (hq hN' rd ds X m' w' a' hr') fun e _ _ ⟨s2, m2, k1, k2, k3, k4⟩ => ⟨s2, m2, k1, k2, k3, hev.trans k4⟩
  | exit id => exact ⟨st', m', hq, hN', hr', hev⟩
  | goto l => exact ⟨st', m', hq, hN', hr', hev⟩
  | ret => exact ⟨st', m', hq, hN', hr', hev⟩
  | panic ch => exact ⟨st', m', hq, hN', hr', hev⟩
  | outgrown => exact ⟨st', m', hq, hN', hr', hev⟩

theorem AWP.cond {c : Operand} {x y : Code} {b : Bool} (hc : ev st.regs c = .sc (.bool b)) (ht : b = true → AWP P N x Q st) (hf : b = false → AWP P N y Q st) : AWP P N (.cond c x y) Q st := by
  intro hN rd ds X m w a hr
  have hv := hr.eval c
  rw [hc] at hv
  have hv' : a.eval c = .bool b := by
    generalize a.eval c = v at hv
    cases hv
    rfl
  exact wpIn_cond_split hv' (fun h => ht h hN rd ds X m w a hr) (fun h => hf h hN rd ds X m w a hr)

theorem AWP.block {id : Nat} {c : Code} (h : AWP P N c (inBlockQ id Q) st) : AWP P N (.block id c) Q st := by
  intro hN rd ds X m w a hr
  refine wpIn_block (wpIn_mono (h hN rd ds X m w a hr) ?_)
  rintro e a' w' ⟨st', m', hq, hx⟩
  cases e with
  | exit id' =>
    simp only [inBlockQ] at hq
    simp only [Exit.inBlock]
    split
    · rename_i he; rw [if_pos he] at hq; exact ⟨st', m', hq, hx⟩
    · rename_i he; rw [if_neg he] at hq; exact ⟨st', m', hq, hx⟩
  | normal => exact ⟨st', m', hq, hx⟩
  | goto l => exact ⟨st', m', hq, hx⟩
  | ret => exact ⟨st', m', hq, hx⟩
  | panic ch => exact ⟨st', m', hq, hx⟩
  | outgrown => exact ⟨st', m', hq, hx⟩

theorem AWP.loop {c : Code} (I : Nat → St → Prop) (n₀ : Nat) (h₀ : I n₀ st) (round : ∀ n s, I n s → AWP P N c (thenQ (fun s' => ∃ n', n' < n ∧ I n' s') Q) s) : AWP P N (.loop c) Q st := by
  intro hN rd ds X m w a hr
  refine wpIn_loop_ghost (fun n a' w' => ∃ s m', I n s ∧ N ≤ s.rows.length ∧ RelSt ds X s m' w' a' ∧ Evo N ⟨st.rows, m, w, X⟩ ⟨s.rows, m', w', X⟩) n₀ ⟨st, m, h₀, hN, hr, Evo.refl _ _⟩ ?_
  rintro n a' w' ⟨s, m', hI, hN', hr', hev⟩
  refine wpIn_mono (round n s hI hN' rd ds X m' w' a' hr') ?_
  rintro e a2 w2 ⟨s2, m2, hq, hN2, hr2, hev2⟩
  cases e with
  | normal => obtain ⟨n', hlt, hI'⟩ := hq; exact ⟨n', hlt, s2, m2, hI', hN2, hr2, hev.trans hev2⟩
  | exit id => exact ⟨s2, m2, hq, hN2, hr2, hev.trans hev2⟩
  | goto l => exact ⟨s2, m2, hq, hN2, hr2, hev.trans hev2⟩
  | ret => exact ⟨s2, m2, hq, hN2, hr2, hev.trans hev2⟩
  | panic ch => exact ⟨s2, m2, hq, hN2, hr2, hev.trans hev2⟩
  | outgrown => exact ⟨s2, m2, hq, hN2, hr2, hev.trans hev2⟩

theorem AWP.region {id : Nat} {ops : Array Oper} {st' : St} (h : Der P ops (List.range ops.size) st st') (hq : Q .normal st') : AWP P N (.region id ops false) Q st := by
  intro hN rd ds X m w a hr
  refine wpIn_region (h.wp hr fun m' w' a' h1 h2 h3 => ⟨st', m', hq, Nat.le_trans hN h2, h1, h3.mono hN⟩)

/-- A state may be said otherwise. -/
def Weak (N : Nat) (st st' : St) : Prop :=
  N ≤ st.rows.length → N ≤ st'.rows.length ∧ ∀ (ds : List Deferred) (X : Nat → Nat → Prop) (m : Nat → Option Nat) (w : World) (a : Act), RelSt ds X st m w a → ∃ m', RelSt ds X st' m' w a ∧ Evo N ⟨st.rows, m, w, X⟩ ⟨st'.rows, m', w, X⟩
theorem AWP.weaken {c : Code} {st' : St} (hw : Weak N st st') (h : AWP P N c Q st') : AWP P N c Q st := by
  intro hN rd ds X m w a hr
  obtain ⟨hN', hw'⟩ := hw hN
  obtain ⟨m', hr', hev⟩ := hw' ds X m w a hr
  exact wpIn_mono (h hN' rd ds X m' w a hr') fun e _ _ ⟨s2, m2, k1, k2, k3, k4⟩ => ⟨s2, m2, k1, k2, k3, hev.trans k4⟩
end

/-- What stands in the results at the end. -/
def resA (rs : Array ResultVar) (st : St) : Option AVal :=
  let one : ResultVar → Option AVal
    | .tmp t => some (st.regs.getD t .undef)
    | .cell a _ =>
      match st.regs.getD a .undef with
      | .ptr id 0 => (st.rows[id]?).bind fun r => if r.st = .fresh then some (.agg r.cells) else none
      | _ => none
  match rs.toList with
  | [r] => one r
  | l => (l.mapM one).map .tup
end Go.Abs

set_option linter.unusedVariables false
set_option linter.unusedSimpArgs false
namespace Go.Abs
open Go

/-! ### What a value can be -/
theorem V.sc_inv {E : Env} {v u : Value} (h : V E (.sc v) u) : u = v := by
  generalize hx : AVal.sc v = x at h
  cases h <;> simp_all
theorem V.agg_inv {E : Env} {cs : List AVal} {u : Value} (h : V E (.agg cs) u) : ∃ vs : List Value, u = .agg vs.toArray ∧ cs.length = vs.length ∧ ∀ i, i < cs.length → V E (cs.getD i .undef) (vs.getD i Go.undef) := by
  generalize hx : AVal.agg cs = x at h
  cases h <;> simp at hx
  rename_i vs hl hv
  subst hx
  exact ⟨vs, rfl, hl, hv⟩
theorem V.tup_inv {E : Env} {cs : List AVal} {u : Value} (h : V E (.tup cs) u) : ∃ vs : List Value, u = .tuple vs.toArray ∧ cs.length = vs.length ∧ ∀ i, i < cs.length → V E (cs.getD i .undef) (vs.getD i Go.undef) := by
  generalize hx : AVal.tup cs = x at h
  cases h <;> simp at hx
  rename_i vs hl hv
  subst hx
  exact ⟨vs, rfl, hl, hv⟩
theorem V.ptr_inv {E : Env} {id off : Nat} {u : Value} {r : Row} (h : V E (.ptr id off) u) (hr : E.rows[id]? = some r) (hs : r.st = .fresh) : ∃ b, u = .pointer (some ⟨b, off, none⟩) ∧ E.m id = some b := by
  generalize hx : AVal.ptr id off = x at h
  cases h <;> simp at hx
  · rename_i b _ _ hm; obtain ⟨rfl, rfl⟩ := hx; exact ⟨b, rfl, hm⟩
  · rename_i hr2 hs2 hu2; obtain ⟨rfl, rfl⟩ := hx; rw [hr] at hr2; cases hr2; exact absurd hs hs2
theorem V.dptr_inv {E : Env} {cs : List AVal} {u : Value} (h : V E (.dptr cs) u) : ∃ b o, ∃ vs : Nat → Value, u = .pointer (some ⟨b, o, none⟩) ∧ dataAll cs = true ∧
    (∀ i, i < cs.length → V E (cs.getD i .undef) (vs i)) ∧ ∀ i, i < cs.length → E.w.cell? ⟨b, o + i, none⟩ = some (vs i) ∧ Imm E b (o + i) := by
  generalize hx : AVal.dptr cs = x at h
  cases h <;> simp at hx
  rename_i b o vs hd hv hm
  subst hx
  exact ⟨b, o, vs, rfl, hd, hv, hm⟩
theorem V.fn_inv {E : Env} {f : FuncId} {cs : List AVal} {u : Value} (h : V E (.fn f cs) u) : ∃ vs : List Value, u = .func (.func f) #[] vs.toArray ∧ cs.length = vs.length ∧ ∀ i, i < cs.length → V E (cs.getD i .undef) (vs.getD i Go.undef) := by
  generalize hx : AVal.fn f cs = x at h
  cases h <;> simp at hx
  rename_i vs hl hv
  obtain ⟨rfl, rfl⟩ := hx
  exact ⟨vs, rfl, hl, hv⟩
theorem V.ifc_inv {E : Env} {t : TypeId} {x : AVal} {u : Value} (h : V E (.ifc t x) u) : ∃ v, u = .iface t v ∧ V E x v := by
  generalize hx : AVal.ifc t x = y at h
  cases h <;> simp at hx
  rename_i v hv
  obtain ⟨rfl, rfl⟩ := hx
  exact ⟨_, rfl, hv⟩

/-- A value that takes one cell. -/
def AVal.one : AVal → Bool
  | .agg _ | .tup _ | .undef => false
  | .ptr _ _ => true
  | _ => true

theorem scOk_one {v : Value} (h : scOk v = true) : v.oneCell' = true := by
  cases v <;> simp_all [scOk, Value.oneCell']
theorem V.oneCell {E : Env} {x : AVal} {v : Value} (h : V E x v) (hx : x.one = true) (hp : ∀ id off, x = .ptr id off → ∃ r, E.rows[id]? = some r ∧ r.st = .fresh) : v.oneCell' = true := by
  cases h with
  | undef => simp [AVal.one] at hx
  | sc v h => exact scOk_one h
  | ptrLost id off r v hr hs hu => obtain ⟨r2, h1, h2⟩ := hp id off rfl; rw [hr] at h1; cases h1; exact absurd h2 hs
  | agg => simp [AVal.one] at hx
  | rowLost id off n r v hr hs h0 hv => rcases hv with ⟨_, _, base, rfl⟩ | ⟨b, o, cap, rfl, _⟩ <;> rfl
  | tup => simp [AVal.one] at hx
  | _ => rfl

def isAggD : TypeDesc → Bool
  | .struct _ | .array _ _ => true
  | _ => false
def tyS (P : Program) (t : TypeId) : Option Nat := (P.info? t).map (·.size)

section
variable {P : Program}
theorem run_sizeOf' {t : TypeId} {n : Nat} (h : tyS P t = some n) (w : World) : (sizeOf t).run P w = .ok n w := by
  unfold tyS at h
  cases hi : P.info? t with
  | none => simp [hi] at h
  | some i => rw [run_sizeOf w hi]; simp [Program.cellsOf, hi] at h ⊢; exact h
theorem run_isAgg' {t : TypeId} {d : TypeDesc} (h : P.underlying t = some d) (w : World) : (isAgg t).run P w = .ok (isAggD d) w := by
  cases d <;> simp [isAgg, run_underlying h, isAggD]

theorem addr_add (b o i : Nat) : (⟨b, o, none⟩ : Addr).add i = ⟨b, o + i, none⟩ := by
  unfold Addr.add; split <;> simp_all

theorem run_loadVar_agg {t : TypeId} {d : TypeDesc} {n b o : Nat} {w : World} {f : Nat → Value} (h : P.underlying t = some d) (hd : isAggD d = true) (hs : tyS P t = some n)
    (hc : ∀ j, j < n → w.cell? ⟨b, o + j, none⟩ = some (f j)) : (loadVar t ⟨b, o, none⟩).run P w = .ok (.agg ((List.range n).map f).toArray) w := by
  simp only [loadVar, Sem.run_bind, run_isAgg' h, Result.andThen_ok, hd, if_true, run_sizeOf' hs]
  rw [run_loadCells w ⟨b, o, none⟩ n f (fun j hj => by rw [addr_add]; exact hc j hj)]
  rfl
theorem run_loadVar_one {t : TypeId} {d : TypeDesc} {b o : Nat} {w : World} {v : Value} (h : P.underlying t = some d) (hd : isAggD d = false)
    (hc : w.cell? ⟨b, o, none⟩ = some v) : (loadVar t ⟨b, o, none⟩).run P w = .ok v w := by
  simp [loadVar, run_isAgg' h, hd, hc]

theorem setRow_upd {w : World} {b : Nat} {c c' : Array Value} {e : TypeId} (h : w.heap[b]? = some (.cells c e (0, 0))) : w.setRow b c' = upd w b (.cells c' e (0, 0)) := by
  have hlt := lt_of_heap h
  have h' : w.heap[b] = .cells c e (0, 0) := by simpa [hlt] using h
  simp only [World.setRow, upd]
  congr 1
  apply Array.ext
  · simp
  · intro i h1 h2
    simp only [Array.getElem_modify, Array.getElem_setIfInBounds]
    split
    · rename_i he; subst he; simp [h']
    · rename_i he; rw [Array.getElem_setIfInBounds_ne (by simpa using h1) he]

theorem run_storeVar {t : TypeId} {w : World} {b o : Nat} {c : Array Value} {e : TypeId} {v : Value} (hs : tyS P t = some v.cells.size)
    (hg : w.heap[b]? = some (.cells c e (0, 0))) (ho : o + v.cells.size ≤ c.size) (h1 : ∀ x ∈ v.cells.toList, x.oneCell' = true) :
    (storeVar t ⟨b, o, none⟩ v).run P w = .ok () (upd w b (.cells (c.toList.take o ++ v.cells.toList ++ c.toList.drop (o + v.cells.size)).toArray e (0, 0))) := by
  simp only [storeVar, Sem.run_bind, run_sizeOf' hs, Result.andThen_ok, ne_eq, not_true_eq_false, if_false]
  have := run_storeCells_at (P := P) b o e v.cells.toList 0 c w hg (by simpa using ho) h1
  simp only [Nat.add_zero, Array.length_toList] at this
  rw [← setRow_upd hg]
  simpa using this
end

/-! ### The results; a function's body -/
/-- What stands in the results at the end. -/
def resOne (P : Program) (st : St) : ResultVar → Option AVal
  | .tmp t => some (st.regs.getD t .undef)
  | .cell a t =>
    match st.regs.getD a .undef with
    | .ptr id 0 =>
      match st.rows[id]?, P.underlying t, tyS P t with
      | some r, some d, some n =>
        if r.st = .fresh ∧ r.cells.length = n then (if isAggD d then some (.agg r.cells) else match r.cells with | [x] => some x | _ => none) else none
      | _, _, _ => none
    | _ => none
def resL (P : Program) (st : St) : List ResultVar → Option (List AVal)
  | [] => some []
  | r :: l => match resOne P st r, resL P st l with
    | some x, some xs => some (x :: xs)
    | _, _ => none
def resA' (P : Program) (rs : Array ResultVar) (st : St) : Option AVal :=
  match resL P st rs.toList with
  | some [x] => some x
  | some l => some (.tup l)
  | none => none

def resRun (tmps : Array Value) : ResultVar → Sem Value
  | .tmp t => pure (tmps.getD t Go.undef)
  | .cell p t => do loadVar t (← asAddr (tmps.getD p Go.undef))
theorem results_eq (fn : Func) (tmps : Array Value) : results fn tmps = (do let vs ← fn.results.mapM (resRun tmps); pure (if h : vs.size = 1 then vs[0] else .tuple vs)) := by
  unfold results
  have : (fun x => match x with
    | .tmp t => pure (tmps.getD t Go.undef)
    | .cell a t => do loadVar t (← asAddr (tmps.getD a Go.undef)) : ResultVar → Sem Value) = resRun tmps := by funext r; cases r <;> rfl
  rw [← this]
  rfl

theorem resOne_spec {P : Program} {st : St} {ds : List Deferred} {X : Nat → Nat → Prop} {m : Nat → Option Nat} {w : World} {a : Act} (h : RelSt ds X st m w a) {r : ResultVar} {x : AVal} (hx : resOne P st r = some x) :
    ∃ v, (resRun a.tmps r).run P w = .ok v w ∧ V ⟨st.rows, m, w, X⟩ x v := by
  cases r with
  | tmp t => simp [resOne] at hx; exact ⟨_, rfl, hx ▸ h.reg t⟩
  | cell p t =>
    have hv := h.reg p
    simp only [resOne] at hx
    split at hx
    · rename_i id hp
      rw [hp] at hv
      split at hx
      · rename_i r d n hr hd hn
        split at hx
        · rename_i hc
          obtain ⟨hs, hl⟩ := hc
          obtain ⟨b, hu, hm⟩ := hv.ptr_inv hr hs
          obtain ⟨c, e, hb, hbl, hbv⟩ := h.rel.block hr (.inl hs) hm
          simp only [resRun, hu, Sem.run_bind, asAddr, Sem.run_pure, Result.andThen_ok]
          split at hx
          · rename_i hagg
            simp at hx; subst hx
            rw [run_loadVar_agg hd hagg hn (f := fun j => c.getD j Go.undef) (fun j hj => by rw [Nat.zero_add]; exact cell_getD hb (by omega))]
            refine ⟨_, rfl, .agg _ _ (by simp [hl]) fun i hi => ?_⟩
            have := hbv i hi
            simpa [List.getD_eq_getElem?_getD, hl ▸ hi] using this
          · rename_i hagg
            split at hx
            · rename_i y hcs
              simp at hx; subst hx
              rw [run_loadVar_one hd (by simpa using hagg) (v := c.getD 0 Go.undef) (cell_getD hb (by simp [hcs] at hbl; omega))]
              have := hbv 0 (by simp [hcs])
              simp only [hcs] at this
              exact ⟨_, rfl, this⟩
            · simp at hx
        · simp at hx
      · simp at hx
    · simp at hx

theorem resL_spec {P : Program} {st : St} {ds : List Deferred} {X : Nat → Nat → Prop} {m : Nat → Option Nat} {w : World} {a : Act} (h : RelSt ds X st m w a) : ∀ {l : List ResultVar} {xs : List AVal}, resL P st l = some xs →
    ∃ vs : List Value, (l.mapM (resRun a.tmps)).run P w = .ok vs w ∧
      xs.length = vs.length ∧ ∀ i, i < xs.length → V ⟨st.rows, m, w, X⟩ (xs.getD i .undef) (vs.getD i Go.undef)
  | [], xs, hx => by simp [resL] at hx; subst hx; exact ⟨[], by simp, rfl, fun i hi => by simp at hi⟩
  | r :: l, xs, hx => by
    simp only [resL] at hx
    split at hx
    · rename_i x ys h1 h2
      simp at hx; subst hx
      obtain ⟨v, hv1, hv2⟩ := resOne_spec (P := P) h h1
      obtain ⟨vs, hvs1, hvs2, hvs3⟩ := resL_spec (P := P) h h2
      refine ⟨v :: vs, ?_, by simp [hvs2], fun i hi => ?_⟩
      · simp only [List.mapM_cons, Sem.run_bind]
        rw [hv1]
        simp only [Result.andThen_ok]
        rw [hvs1]
        rfl
      · cases i with
        | zero => simpa using hv2
        | succ i => simpa using hvs3 i (by simpa using hi)
    · simp at hx

theorem results_spec {P : Program} {fn : Func} {st : St} {ds : List Deferred} {X : Nat → Nat → Prop} {m : Nat → Option Nat} {w : World} {a : Act} (h : RelSt ds X st m w a) {x : AVal} (hx : resA' P fn.results st = some x) :
    ∃ v, (results fn a.tmps).run P w = .ok v w ∧ V ⟨st.rows, m, w, X⟩ x v := by
  unfold resA' at hx
  cases hl : resL P st fn.results.toList with
  | none => simp [hl] at hx
  | some xs =>
    obtain ⟨vs, h1, h2, h3⟩ := resL_spec (P := P) h hl
    have hrun : (results fn a.tmps).run P w = .ok (if h : vs.toArray.size = 1 then vs.toArray[0] else .tuple vs.toArray) w := by
      rw [results_eq]
      simp only [Sem.run_bind]
      rw [show fn.results = fn.results.toList.toArray from by simp]
      rw [List.mapM_toArray, Sem.run_map, h1]
      rfl
    rw [hrun]
    refine ⟨_, rfl, ?_⟩
    rw [hl] at hx
    split at hx
    · rename_i y he
      simp at he hx
      subst he; subst hx
      simp at h2
      have : vs.length = 1 := h2.symm
      match vs, this, h3 with
      | [v], _, h3 => rw [dif_pos (by rfl)]; exact h3 0 (by simp)
    · rename_i l hne he
      simp at he hx
      subst he; subst hx
      have hlen : vs.length ≠ 1 := fun hh => by
        rw [hh] at h2
        match xs, h2 with
        | [y], _ => exact hne y rfl
      rw [dif_neg (by simpa using hlen)]
      exact .tup _ _ h2 h3
    · rename_i he; simp at he

/-- Less is known, or less is there. -/
def Shrink (N : Nat) (rows1 : List Row) (r1 : AVal) (rows2 : List Row) (r2 : AVal) : Prop :=
  ∀ (X : Nat → Nat → Prop) (m : Nat → Option Nat) (w : World) (v : Value), Rel ⟨rows1, m, w, X⟩ → V ⟨rows1, m, w, X⟩ r1 v → N ≤ rows1.length →
    ∃ m2, Rel ⟨rows2, m2, w, X⟩ ∧ V ⟨rows2, m2, w, X⟩ r2 v ∧ N ≤ rows2.length ∧ Evo N ⟨rows1, m, w, X⟩ ⟨rows2, m2, w, X⟩
def WfRows (N : Nat) (rows : List Row) : Prop := ∀ (i : Nat) (r : Row), rows[i]? = some r → r.st ≠ .frozen → ltAll N r.cells = true

theorem Rel.wf {E : Env} (h : Rel E) : WfRows E.rows.length E.rows := by
  intro i r hr hns
  rw [ltAll_iff]
  intro j hj
  cases hs : r.st with
  | frozen => exact absurd hs hns
  | map =>
    obtain ⟨b, es, k, h1, h2, h3, h4⟩ := h.map i r hr hs
    have hj2 : j / 2 < es.size := by omega
    rcases Nat.mod_two_eq_zero_or_one j with hm | hm
    · have := (h4 (j / 2) hj2).1.refLt
      rwa [show 2 * (j / 2) = j by omega] at this
    · have := (h4 (j / 2) hj2).2.refLt
      rwa [show 2 * (j / 2) + 1 = j by omega] at this
  | _ =>
    rcases h.own i r hr hns (by simp [hs]) with ⟨_, h0⟩ | ⟨b, c, e, h1, h2, h3, h4⟩
    · simp [h0] at hj
    · exact (h4 j hj).refLt

/-- A function's body. -/
theorem EvF.body {P : Program} {f : FuncId} {fn : Func} {c : Code} {args : List AVal} {rows rows' : List Row} {r : AVal} (hf : P.funcs[f]? = some fn) (hb : fn.body = some c)
    (h : WfRows rows.length rows → AWP P rows.length c (fun e st' => (e = .normal ∨ e = .ret) ∧ ∃ r1, resA' P fn.results st' = some r1 ∧ Shrink rows.length st'.rows r1 rows' r)
      ⟨args ++ List.replicate (fn.ntmps - args.length) .undef, rows⟩) : EvF P f args rows r rows' := by
  intro X m w vs hrel hvl
  refine calls_out (n := 0) (callsIn_of_wp hf hb trivial ?_)
  have hst : RelSt [] X ⟨args ++ List.replicate (fn.ntmps - args.length) .undef, rows⟩ m w { tmps := vs.toArray ++ Array.replicate (fn.ntmps - vs.toArray.size) Go.undef, defers := [] } := by
    refine ⟨hrel, by simp [hvl.1], ?_, rfl⟩
    intro i hi
    rcases Nat.lt_or_ge i args.length with h' | h'
    · have e1 : (args ++ List.replicate (fn.ntmps - args.length) AVal.undef).getD i .undef = args.getD i .undef := by
        rw [List.getD_eq_getElem?_getD, List.getD_eq_getElem?_getD, List.getElem?_append_left h']
      have e2 : (vs.toArray ++ Array.replicate (fn.ntmps - vs.toArray.size) Go.undef).getD i Go.undef = vs.getD i Go.undef := by
        have hv : i < vs.length := by rw [← hvl.1]; exact h'
        simp [Array.getD_eq_getD_getElem?, List.getD_eq_getElem?_getD, Array.getElem?_append, hv]
      show V _ _ _
      rw [e1, e2]; exact hvl.2 i h'
    · have e1 : (args ++ List.replicate (fn.ntmps - args.length) AVal.undef).getD i .undef = .undef := by
        rw [List.getD_eq_getElem?_getD, List.getElem?_append_right h', List.getElem?_replicate]
        split <;> rfl
      rw [e1]; exact .undef _
  refine wpIn_mono (h hrel.wf (Nat.le_refl _) none [] X m w _ hst) ?_
  rintro e a' w' ⟨st', m', ⟨he, r1, hr1, hsh⟩, hN, hr, hev⟩
  obtain ⟨v, hv1, hv2⟩ := results_spec (P := P) hr hr1
  obtain ⟨m2, k1, k2, k3, k4⟩ := hsh X m' w' v hr.rel hv2 hN
  rcases he with rfl | rfl
  · exact ⟨hr.defers, v, hv1, v, m2, rfl, k1, k2, k3, hev.trans k4⟩
  · exact ⟨hr.defers, v, hv1, v, m2, rfl, k1, k2, k3, hev.trans k4⟩

theorem Shrink.refl (N : Nat) (rows : List Row) (r : AVal) : Shrink N rows r rows r := fun X m _ _ h hv hN => ⟨m, h, hv, hN, Evo.refl _ _⟩
theorem Shrink.trans {N : Nat} {A B C : List Row} {a b c : AVal} (h : Shrink N A a B b) (k : Shrink N B b C c) : Shrink N A a C c := by
  intro X m w v h1 h2 hN
  obtain ⟨m2, a1, a2, a3, a4⟩ := h X m w v h1 h2 hN
  obtain ⟨m3, b1, b2, b3, b4⟩ := k X m2 w v a1 a2 a3
  exact ⟨m3, b1, b2, b3, a4.trans b4⟩

/-- What is behind is forgotten. -/
theorem Shrink.drop {N : Nat} {rows ext : List Row} {r : AVal} (hN : N ≤ rows.length) (hwf : WfRows rows.length rows) (hr : r.refLt rows.length = true) : Shrink N (rows ++ ext) r rows r := by
  intro X m w v h1 h2 _
  obtain ⟨k1, k2, k3⟩ := drop_step (E1 := ⟨rows ++ ext, m, w, X⟩) h1 (N := N) (ρ := id) (rows2 := rows) (fun _ _ => rfl) hN (fun _ _ _ _ h => h)
    (fun i r hr => ⟨by rw [Row.ren_id]; exact (List.getElem?_append_left (lt_of_get hr)).trans hr, fun hns => hwf i r hr hns⟩)
  exact ⟨_, k1, k3 r v (by rw [AVal.ren_id]; exact h2) hr, hN, k2⟩

end Go.Abs

set_option linter.unusedVariables false
set_option linter.unusedSimpArgs false
namespace Go.Abs
open Go

/-! ### Calls -/
def enterable (P : Program) (f : FuncId) : Bool :=
  match P.funcs[f]? with
  | some fn => fn.body.isSome && !(fn.name == "runtime.NumGoroutine")
  | none => false
theorem run_callFunc {P : Program} {f : FuncId} (h : enterable P f = true) (args : Array Value) (w : World) : (callFunc f args).run P w = .ok (.enter f args) w := by
  unfold enterable at h
  cases hf : P.funcs[f]? with
  | none => simp [hf] at h
  | some fn =>
    simp only [hf, Bool.and_eq_true, Bool.not_eq_true', Option.isSome_iff_exists] at h
    obtain ⟨⟨c, hc⟩, hn⟩ := h
    simp only [callFunc, Sem.run_bind, run_program, Result.andThen_ok, hf]
    rw [if_neg (by simpa using hn), if_neg (by simp [hc])]
    rfl

theorem getD_append_vals {xs : List AVal} {vs : List Value} {ys : List AVal} {us : List Value} {E : Env} (h1 : VL E xs vs) (h2 : VL E ys us) : VL E (xs ++ ys) (vs ++ us) := by
  refine ⟨by simp [h1.1, h2.1], fun i hi => ?_⟩
  rcases Nat.lt_or_ge i xs.length with h | h
  · rw [List.getD_eq_getElem?_getD, List.getD_eq_getElem?_getD, List.getElem?_append_left h, List.getElem?_append_left (by rw [← h1.1]; exact h)]
    exact h1.2 i h
  · rw [List.getD_eq_getElem?_getD, List.getD_eq_getElem?_getD, List.getElem?_append_right h, List.getElem?_append_right (by rw [← h1.1]; exact h), h1.1]
    have := h2.2 (i - vs.length) (by rw [← h1.1]; simp at hi; omega)
    exact this

theorem VL.map {E : Env} {ρ : Operand → AVal} {τ : Operand → Value} : ∀ (l : List Operand), (∀ x ∈ l, V E (ρ x) (τ x)) → VL E (l.map ρ) (l.map τ)
  | [], _ => ⟨rfl, fun i hi => by simp at hi⟩
  | x :: l, h => by
    have ih := VL.map l (fun y hy => h y (by simp [hy]))
    refine ⟨by simp, fun i hi => ?_⟩
    cases i with
    | zero => simpa using h x (by simp)
    | succ i => simpa using ih.2 i (by simpa using hi)

theorem mem_args {c : Call} {x : Operand} (h : x ∈ c.args.toList) : x ∈ (Op.call c).operands.toList := by
  simp only [Op.operands, Call.operands, Array.toList_append, List.mem_append]; exact .inr h

/-- A call of a function value. -/
theorem OpS.call {P : Program} {o : Oper} {c : Call} {fop : Operand} {f : FuncId} {cap args : List AVal} {ρ : Operand → AVal} {rows rows' : List Row} {r : AVal}
    (ho : o.op = .call c) (hc : c.callee = .value fop) (hf : ρ fop = .fn f cap) (ha : c.args.toList.map ρ ++ cap = args) (he : enterable P f = true) (h : EvF P f args rows r rows') : OpS P o ρ rows r rows' := by
  intro X m w a hrel hv K Q hK
  have hfv : V ⟨rows, m, w, X⟩ (ρ fop) (a.eval fop) := hv fop (by rw [ho]; simp [Op.operands, Call.operands, hc])
  rw [hf] at hfv
  obtain ⟨us, hu, hl, hus⟩ := hfv.fn_inv
  have hal : VL ⟨rows, m, w, X⟩ (c.args.toList.map ρ) (c.args.toList.map a.eval) := VL.map _ fun x hx => hv x (by rw [ho]; exact mem_args hx)
  have hall := getD_append_vals hal ⟨hl, hus⟩
  rw [ha] at hall
  have hrun : (execOp a.eval o).run P w = .ok (.enter f (c.args.toList.map a.eval ++ us).toArray) w := by
    simp only [execOp, ho, resolve, hc, Deferred.ofValue, hu, Sem.run_bind, Sem.run_pure, Result.andThen_ok, invoke]
    rw [run_callFunc he]
    simp
  intro rd
  unfold Oper.wpIn
  refine ⟨fun _ _ => trivial, ?_⟩
  rw [Oper.semAt_eq _ _ _ (by rw [ho]; intro c; simp), hrun, Oper.uponIn_enter]
  refine ⟨fun h => by simp [Fw] at h, ?_⟩
  refine CallsIn.mono (calls_in rd _ (h X m w _ hrel hall)) ?_
  rintro e w' ⟨v, m', rfl, h1, h2, h3, h4⟩
  exact hK v m' w' h1 h2 h3 h4

/-! ### A region that draws its order -/
inductive DerG (P : Program) (F : Oper → Bool) (ops : Array Oper) (G : List Row → Prop) : List Nat → St → St → Prop
  | nil (st : St) : DerG P F ops G [] st st
  | quiet (i : Nat) (rest : List Nat) (st st' : St) (o : Oper) (res : AVal) (ho : ops[i]? = some o) (hw : wantA ops o st.regs = some true)
      (hs : ∀ rows, G rows → OpS P o (ev st.regs) rows res rows) (h : DerG P F ops G rest (st.put o.dst res st.rows) st') : DerG P F ops G (i :: rest) st st'
  | eff (i : Nat) (rest : List Nat) (st st' : St) (o : Oper) (res : AVal) (rows' : List Row) (ho : ops[i]? = some o) (he : F o = true) (hw : wantA ops o st.regs = some true)
      (hs : OpS P o (ev st.regs) st.rows res rows') (hg : G rows') (h : DerG P F ops G rest (st.put o.dst res rows') st') : DerG P F ops G (i :: rest) st st'
  | skip (i : Nat) (rest : List Nat) (st st' : St) (o : Oper) (ho : ops[i]? = some o) (hw : wantA ops o st.regs = some false)
      (h : DerG P F ops G rest (st.put o.dst (.tup []) st.rows) st') : DerG P F ops G (i :: rest) st st'

def namesOf (ops : Array Oper) (o : Oper) : List Tmp :=
  (o.op.operands.toList.filterMap fun | .tmp t => some t | _ => none) ++
  (match o.guard with
   | some (j, _) => ((ops[j]?).bind (·.dst)).toList
   | none => [])
/-- Two operations that touch nothing in common. -/
def apartB (F : Oper → Bool) (ops : Array Oper) (x y : Oper) : Bool :=
  (match x.dst with | some d => !(namesOf ops y).contains d && y.dst != some d | none => true) &&
  (match y.dst with | some d => !(namesOf ops x).contains d | none => true) && !(F x && F y)

theorem rows_put (st : St) (dst : Option Tmp) (x : AVal) (rows : List Row) : (st.put dst x rows).rows = rows := by
  cases dst <;> rfl
theorem getD_put {st : St} {dst : Option Tmp} {x : AVal} {rows : List Row} {t : Tmp} (h : dst ≠ some t) : (st.put dst x rows).regs.getD t .undef = st.regs.getD t .undef := by
  cases dst with
  | none => rfl
  | some d =>
    have : d ≠ t := fun e => h (e ▸ rfl)
    simp [St.put, List.getD_eq_getElem?_getD, List.getElem?_set, this]
theorem mem_namesOf {ops : Array Oper} {o : Oper} {t : Tmp} (h : Operand.tmp t ∈ o.op.operands.toList) : t ∈ namesOf ops o := by
  simp only [namesOf, List.mem_append, List.mem_filterMap]
  exact .inl ⟨_, h, rfl⟩
theorem ev_put {ops : Array Oper} {o : Oper} {st : St} {dst : Option Tmp} {x : AVal} {rows : List Row} (h : ∀ d, dst = some d → d ∉ namesOf ops o) :
    ∀ y ∈ o.op.operands.toList, ev (st.put dst x rows).regs y = ev st.regs y := by
  intro y hy
  cases y with
  | tmp t => exact getD_put (fun e => h t e (mem_namesOf hy))
  | _ => rfl
theorem wantA_put {ops : Array Oper} {o : Oper} {st : St} {dst : Option Tmp} {x : AVal} {rows : List Row} (h : ∀ d, dst = some d → d ∉ namesOf ops o) :
    wantA ops o (st.put dst x rows).regs = wantA ops o st.regs := by
  unfold wantA
  split
  · rfl
  · rename_i j want hg
    cases hd : (ops[j]?).bind (·.dst) with
    | none => rfl
    | some t =>
      simp only []
      rw [getD_put (fun e => h t e (by simp only [namesOf, hg, hd]; simp))]
theorem put_put {st : St} {d1 d2 : Option Tmp} {x1 x2 : AVal} {r1 r2 : List Row} (h : ∀ d, d1 = some d → d2 ≠ some d) (r3 : List Row) :
    (st.put d1 x1 r1).put d2 x2 r2 = (st.put d2 x2 r3).put d1 x1 r2 := by
  cases d1 with
  | none => cases d2 <;> rfl
  | some a =>
    cases d2 with
    | none => rfl
    | some b =>
      have : a ≠ b := fun e => h a rfl (e ▸ rfl)
      simp only [St.put]
      rw [List.set_comm _ _ this]

theorem apartB_spec {F : Oper → Bool} {ops : Array Oper} {x y : Oper} (h : apartB F ops x y = true) :
    (∀ d, x.dst = some d → d ∉ namesOf ops y) ∧ (∀ d, x.dst = some d → y.dst ≠ some d) ∧ (∀ d, y.dst = some d → d ∉ namesOf ops x) ∧ ¬ (F x = true ∧ F y = true) := by
  simp only [apartB, Bool.and_eq_true] at h
  obtain ⟨⟨h1, h2⟩, h3⟩ := h
  refine ⟨fun d hd => ?_, fun d hd => ?_, fun d hd => ?_, ?_⟩
  · simp [hd] at h1; exact h1.1
  · simp [hd] at h1; exact h1.2
  · simp [hd] at h2; exact h2
  · rintro ⟨k1, k2⟩; simp [k1, k2] at h3

theorem DerG.swap {F : Oper → Bool} {P : Program} {ops : Array Oper} {G : List Row → Prop} {i j : Nat} {rest : List Nat} {st st' : St} {x y : Oper} (hx : ops[i]? = some x) (hy : ops[j]? = some y) (hap : apartB F ops x y = true)
    (hG : G st.rows) (h : DerG P F ops G (i :: j :: rest) st st') : DerG P F ops G (j :: i :: rest) st st' := by
  obtain ⟨a1, a2, a3, a4⟩ := apartB_spec hap
  cases h with
  | quiet _ _ _ _ o res ho hw hs h =>
    rw [hx] at ho; cases ho
    cases h with
    | quiet _ _ _ _ o2 res2 ho2 hw2 hs2 h =>
      rw [hy] at ho2; cases ho2
      rw [wantA_put a1] at hw2
      refine .quiet j _ _ _ y res2 hy hw2 (fun rows hg => (hs2 rows hg).congr fun z hz => (ev_put a1 z hz).symm) ?_
      refine .quiet i _ _ _ x res hx (by rw [wantA_put a3]; exact hw) (fun rows hg => (hs rows hg).congr fun z hz => ev_put a3 z hz) ?_
      rw [rows_put] at h ⊢
      rw [← put_put a2 st.rows]; exact h
    | eff _ _ _ _ o2 res2 rows2 ho2 he2 hw2 hs2 hg2 h =>
      rw [hy] at ho2; cases ho2
      rw [wantA_put a1] at hw2
      rw [rows_put] at hs2
      refine .eff j _ _ _ y res2 rows2 hy he2 hw2 (hs2.congr fun z hz => (ev_put a1 z hz).symm) hg2 ?_
      refine .quiet i _ _ _ x res hx (by rw [wantA_put a3]; exact hw) (fun rows hg => (hs rows hg).congr fun z hz => ev_put a3 z hz) ?_
      rw [rows_put]
      rw [← put_put a2 rows2]; exact h
    | skip _ _ _ _ o2 ho2 hw2 h =>
      rw [hy] at ho2; cases ho2
      rw [wantA_put a1] at hw2
      refine .skip j _ _ _ y hy hw2 ?_
      refine .quiet i _ _ _ x res hx (by rw [wantA_put a3]; exact hw) (fun rows hg => (hs rows hg).congr fun z hz => ev_put a3 z hz) ?_
      rw [rows_put] at h ⊢
      rw [← put_put a2 st.rows]; exact h
  | eff _ _ _ _ o res rows' ho he hw hs hg h =>
    rw [hx] at ho; cases ho
    cases h with
    | quiet _ _ _ _ o2 res2 ho2 hw2 hs2 h =>
      rw [hy] at ho2; cases ho2
      rw [wantA_put a1] at hw2
      refine .quiet j _ _ _ y res2 hy hw2 (fun rows hg => (hs2 rows hg).congr fun z hz => (ev_put a1 z hz).symm) ?_
      refine .eff i _ _ _ x res rows' hx he (by rw [wantA_put a3]; exact hw) (by rw [rows_put]; exact hs.congr fun z hz => ev_put a3 z hz) hg ?_
      rw [rows_put] at h
      rw [← put_put a2 st.rows]; exact h
    | eff _ _ _ _ o2 res2 rows2 ho2 he2 hw2 hs2 hg2 h =>
      rw [hy] at ho2; cases ho2
      exact absurd ⟨he, he2⟩ a4
    | skip _ _ _ _ o2 ho2 hw2 h =>
      rw [hy] at ho2; cases ho2
      rw [wantA_put a1] at hw2
      refine .skip j _ _ _ y hy hw2 ?_
      refine .eff i _ _ _ x res rows' hx he (by rw [wantA_put a3]; exact hw) (by rw [rows_put]; exact hs.congr fun z hz => ev_put a3 z hz) hg ?_
      rw [rows_put] at h
      rw [← put_put a2 st.rows]; exact h
  | skip _ _ _ _ o ho hw h =>
    rw [hx] at ho; cases ho
    cases h with
    | quiet _ _ _ _ o2 res2 ho2 hw2 hs2 h =>
      rw [hy] at ho2; cases ho2
      rw [wantA_put a1] at hw2
      refine .quiet j _ _ _ y res2 hy hw2 (fun rows hg => (hs2 rows hg).congr fun z hz => (ev_put a1 z hz).symm) ?_
      refine .skip i _ _ _ x hx (by rw [wantA_put a3]; exact hw) ?_
      rw [rows_put] at h ⊢
      rw [← put_put a2 st.rows]; exact h
    | eff _ _ _ _ o2 res2 rows2 ho2 he2 hw2 hs2 hg2 h =>
      rw [hy] at ho2; cases ho2
      rw [wantA_put a1] at hw2
      rw [rows_put] at hs2
      refine .eff j _ _ _ y res2 rows2 hy he2 hw2 (hs2.congr fun z hz => (ev_put a1 z hz).symm) hg2 ?_
      refine .skip i _ _ _ x hx (by rw [wantA_put a3]; exact hw) ?_
      rw [rows_put]
      rw [← put_put a2 rows2]; exact h
    | skip _ _ _ _ o2 ho2 hw2 h =>
      rw [hy] at ho2; cases ho2
      rw [wantA_put a1] at hw2
      refine .skip j _ _ _ y hy hw2 ?_
      refine .skip i _ _ _ x hx (by rw [wantA_put a3]; exact hw) ?_
      rw [rows_put] at h ⊢
      rw [← put_put a2 st.rows]; exact h

/-- An operation that is apart from all ahead of it may come first. -/
theorem DerG.front {F : Oper → Bool} {P : Program} {ops : Array Oper} {G : List Row → Prop} {i : Nat} {y : Oper} (hy : ops[i]? = some y) : ∀ (pre : List Nat) {post : List Nat} {st st' : St}, G st.rows →
    (∀ j ∈ pre, ∃ x, ops[j]? = some x ∧ apartB F ops x y = true) → DerG P F ops G (pre ++ i :: post) st st' → DerG P F ops G (i :: (pre ++ post)) st st'
  | [], _, _, _, _, _, h => h
  | j :: pre, post, st, st', hG, hap, h => by
    obtain ⟨x, hx, hxy⟩ := hap j (by simp)
    have hap' : ∀ k ∈ pre, ∃ x, ops[k]? = some x ∧ apartB F ops x y = true := fun k hk => hap k (by simp [hk])
    refine DerG.swap hx hy hxy hG ?_
    cases h with
    | quiet _ _ _ _ o res ho hw hs h => exact .quiet j _ _ _ o res ho hw hs (DerG.front hy pre (by rw [rows_put]; exact hG) hap' h)
    | eff _ _ _ _ o res rows' ho he hw hs hg h => exact .eff j _ _ _ o res rows' ho he hw hs hg (DerG.front hy pre (by rw [rows_put]; exact hg) hap' h)
    | skip _ _ _ _ o ho hw h => exact .skip j _ _ _ o ho hw (DerG.front hy pre (by rw [rows_put]; exact hG) hap' h)

/-- For each operation the set of those that must come ahead of it. -/
def maskOf (acc : List Nat) (o : Oper) : Nat := o.after.toList.foldl (fun s e => if Region.binds .any e then s ||| 2 ^ e.on ||| acc.getD e.on 0 else s) 0
def masks : List Oper → List Nat → List Nat
  | [], acc => acc
  | o :: r, acc => masks r (acc ++ [maskOf acc o])
def drawOk (F : Oper → Bool) (ops : List Oper) : Bool :=
  let b := masks ops []
  (List.range ops.length).all fun j => match ops[j]? with
    | none => false
    | some y => y.after.toList.all (fun e => !Region.binds .any e || decide (e.on < j)) && (List.range j).all fun i => match ops[i]? with
      | none => false
      | some x => (b.getD j 0).testBit i || apartB F ops.toArray x y

theorem maskOf_spec {acc : List Nat} {o : Oper} {i : Nat} (h : (maskOf acc o).testBit i = true) : ∃ e ∈ o.after.toList, Region.binds .any e = true ∧ (i = e.on ∨ (acc.getD e.on 0).testBit i = true) := by
  unfold maskOf at h
  have key : ∀ (l : List Edge) (s : Nat), (l.foldl (fun s e => if Region.binds .any e then s ||| 2 ^ e.on ||| acc.getD e.on 0 else s) s).testBit i = true →
      s.testBit i = true ∨ ∃ e ∈ l, Region.binds .any e = true ∧ (i = e.on ∨ (acc.getD e.on 0).testBit i = true) := by
    intro l
    induction l with
    | nil => intro s h; exact .inl h
    | cons e l ih =>
      intro s h
      rw [List.foldl_cons] at h
      rcases ih _ h with h | ⟨e', h1, h2⟩
      · split at h
        · rename_i hb
          rw [Nat.testBit_or, Nat.testBit_or, Bool.or_eq_true, Bool.or_eq_true] at h
          rcases h with (h | h) | h
          · exact .inl h
          · refine .inr ⟨e, by simp, hb, .inl ?_⟩
            rw [Nat.testBit_two_pow] at h
            exact (of_decide_eq_true h).symm
          · exact .inr ⟨e, by simp, hb, .inr h⟩
        · exact .inl h
      · exact .inr ⟨e', by simp [h1], h2⟩
  rcases key _ _ h with h | h
  · simp at h
  · exact h

theorem masks_spec : ∀ (l : List Oper) (done : List Oper) (acc : List Nat), acc.length = done.length →
    (∀ j o, done[j]? = some o → ∀ i, (acc.getD j 0).testBit i = true → ∃ e ∈ o.after.toList, Region.binds .any e = true ∧ (i = e.on ∨ (e.on < j ∧ (acc.getD e.on 0).testBit i = true))) →
    ∀ j o, (done ++ l)[j]? = some o → ∀ i, ((masks l acc).getD j 0).testBit i = true → ∃ e ∈ o.after.toList, Region.binds .any e = true ∧ (i = e.on ∨ (e.on < j ∧ ((masks l acc).getD e.on 0).testBit i = true))
  | [], done, acc, hl, h => by simpa [masks] using h
  | o :: r, done, acc, hl, h => by
    have := masks_spec r (done ++ [o]) (acc ++ [maskOf acc o]) (by simp [hl]) ?_
    · simpa [masks] using this
    · intro j o' ho' i hi
      have hjlt := lt_of_get ho'
      simp only [List.length_append, List.length_singleton] at hjlt
      have hold : ∀ k, k < done.length → (acc ++ [maskOf acc o]).getD k 0 = acc.getD k 0 := fun k hk => by
        rw [List.getD_eq_getElem?_getD, List.getD_eq_getElem?_getD, List.getElem?_append_left (by omega)]
      rcases Nat.lt_or_ge j done.length with hj | hj
      · rw [List.getElem?_append_left hj] at ho'
        rw [hold j hj] at hi
        obtain ⟨e, h1, h2, h3⟩ := h j o' ho' i hi
        refine ⟨e, h1, h2, h3.imp id fun ⟨h4, h5⟩ => ⟨h4, ?_⟩⟩
        rw [hold e.on (by omega)]; exact h5
      · have hje : j = done.length := by omega
        subst hje
        simp at ho'
        subst ho'
        have e1 : (acc ++ [maskOf acc o]).getD done.length 0 = maskOf acc o := by
          rw [List.getD_eq_getElem?_getD, ← hl]; simp
        rw [e1] at hi
        obtain ⟨e, h1, h2, h3⟩ := maskOf_spec hi
        refine ⟨e, h1, h2, h3.imp id fun h4 => ?_⟩
        have hlt : e.on < done.length := by
          rcases Nat.lt_or_ge e.on acc.length with h' | h'
          · omega
          · rw [List.getD_eq_getElem?_getD, List.getElem?_eq_none h'] at h4; simp at h4
        exact ⟨hlt, by rw [hold e.on hlt]; exact h4⟩

/-- A set that has, with each, all that must come ahead of it. -/
def Closed (ops : List Oper) (listed : Array Bool) : Prop :=
  ∀ j o, ops[j]? = some o → listed.getD j true = true → ∀ e ∈ o.after.toList, Region.binds .any e = true → listed.getD e.on false = true

theorem Closed.mask {ops : List Oper} {listed : Array Bool} (hsz : listed.size = ops.length) (h : Closed ops listed) : ∀ (n j : Nat), j ≤ n → ∀ o, ops[j]? = some o →
    (∀ e ∈ o.after.toList, Region.binds .any e = true → listed.getD e.on false = true) → ∀ i, ((masks ops []).getD j 0).testBit i = true → listed.getD i false = true
  | n, j, hjn, o, ho, hd, i, hi => by
    obtain ⟨e, h1, h2, h3⟩ := masks_spec ops [] [] rfl (fun j o h => by simp at h) j o (by simpa using ho) i hi
    rcases h3 with rfl | ⟨h4, h5⟩
    · exact hd e h1 h2
    · have hl := hd e h1 h2
      have hlt : e.on < ops.length := Nat.lt_trans h4 (lt_of_get ho)
      have hoe : ops[e.on]? = some ops[e.on] := by simp [hlt]
      match n with
      | 0 => omega
      | n + 1 =>
        exact Closed.mask hsz h n e.on (by omega) _ hoe (fun e' k1 k2 => h e.on _ hoe (by
          have : e.on < listed.size := by omega
          simpa [Array.getD, this] using hl) e' k1 k2) i h5

theorem drawOk_spec {F : Oper → Bool} {ops : List Oper} (h : drawOk F ops = true) : ∀ j y, ops[j]? = some y → (∀ e ∈ y.after.toList, Region.binds .any e = true → e.on < j) ∧
    ∀ i x, i < j → ops[i]? = some x → ((masks ops []).getD j 0).testBit i = true ∨ apartB F ops.toArray x y = true := by
  intro j y hy
  simp only [drawOk, List.all_eq_true, List.mem_range] at h
  have hj := h j (lt_of_get hy)
  rw [hy] at hj
  simp only [Bool.and_eq_true, List.all_eq_true, List.mem_range] at hj
  refine ⟨fun e he hb => ?_, fun i x hi hx => ?_⟩
  · have := hj.1 e he
    simp only [hb, Bool.not_true, Bool.false_or, decide_eq_true_eq] at this
    exact this
  · have := hj.2 i hi
    rw [hx] at this
    simpa using this

def left (n : Nat) (listed : Array Bool) : List Nat := (List.range n).filter fun i => !listed.getD i true

theorem DerG.any {F : Oper → Bool} {P : Program} {ops : List Oper} {G : List Row → Prop} (hok : drawOk F ops = true) {st' : St} : ∀ (fuel : Nat) (listed : Array Bool) (st : St), (left ops.length listed).length = fuel → listed.size = ops.length →
    Closed ops listed → G st.rows → DerG P F ops.toArray G (left ops.length listed) st st' → ∀ {ds : List Deferred} {X : Nat → Nat → Prop} {m : Nat → Option Nat} {w : World} {a : Act} {Q : Exit → Act → World → Prop} {rd : Option Nat}, RelSt ds X st m w a →
    (∀ m' w' a', RelSt ds X st' m' w' a' → st.rows.length ≤ st'.rows.length → Evo st.rows.length ⟨st.rows, m, w, X⟩ ⟨st'.rows, m', w', X⟩ → Q .normal a' w') → wpAnyIn (Fw rd) 0 P .any ops.toArray Q fuel listed a w
  | 0, listed, st, hf, hsz, hcl, hG, h, ds, X, m, w, a, Q, rd, hr, hq => by
    have hnil : left ops.length listed = [] := List.eq_nil_of_length_eq_zero hf
    rw [hnil] at h
    refine ⟨?_, ?_⟩
    · unfold Region.ready
      rw [List.filter_eq_nil_iff]
      intro i hi
      have : ∀ i ∈ List.range ops.length, ¬ (!listed.getD i true) = true := List.filter_eq_nil_iff.1 hnil
      have := this i (by simpa using hi)
      simp only [Bool.not_eq_true, Bool.not_eq_false'] at this
      simp [this]
    · cases h
      exact hq m w a hr (Nat.le_refl _) (Evo.refl _ _)
  | fuel + 1, listed, st, hf, hsz, hcl, hG, h, ds, X, m, w, a, Q, rd, hr, hq => by
    have hpair : (left ops.length listed).Pairwise (· < ·) := List.Pairwise.filter _ (List.pairwise_lt_range)
    refine ⟨fun hnil => ?_, fun i hi => ?_⟩
    · exfalso
      match hL : left ops.length listed, hf with
      | i :: tl, _ =>
        have hmem : i ∈ left ops.length listed := by rw [hL]; simp
        simp only [left, List.mem_filter, List.mem_range] at hmem
        have hio : ops[i]? = some ops[i] := by simp [hmem.1]
        have hmin : ∀ k, k < i → listed.getD k false = true := by
          intro k hk
          have hks : k < listed.size := by omega
          by_cases hkl : listed.getD k true = true
          · simpa [Array.getD, hks] using hkl
          · exfalso
            have : k ∈ left ops.length listed := by
              simp only [left, List.mem_filter, List.mem_range]; exact ⟨by omega, by simpa using hkl⟩
            rw [hL] at this hpair
            rcases List.mem_cons.1 this with h1 | h1
            · omega
            · have := (List.pairwise_cons.1 hpair).1 k h1; omega
        have : i ∈ Region.ready .any ops.toArray listed := by
          unfold Region.ready
          simp only [List.mem_filter, List.mem_range, List.size_toArray]
          refine ⟨hmem.1, ?_⟩
          simp only [List.getElem?_toArray, hio, Option.map_some, Option.getD_some, Bool.and_eq_true]
          refine ⟨hmem.2, ?_⟩
          rw [Array.all_eq_true']
          intro e he
          cases hb : Region.binds .any e with
          | false => simp
          | true =>
            have := (drawOk_spec hok i _ hio).1 e (by simpa using he) hb
            simp only [Bool.not_true, Bool.false_or]
            exact hmin _ this
        rw [hnil] at this
        simp at this
    · unfold Region.ready at hi
      simp only [List.mem_filter, List.mem_range, List.size_toArray] at hi
      obtain ⟨hilt, hi⟩ := hi
      have hio : ops[i]? = some ops[i] := by simp [hilt]
      simp only [List.getElem?_toArray, hio, Option.map_some, Option.getD_some, Bool.and_eq_true] at hi
      obtain ⟨hil, hie⟩ := hi
      rw [Array.all_eq_true'] at hie
      have hmem : i ∈ left ops.length listed := by
        simp only [left, List.mem_filter, List.mem_range]; exact ⟨hilt, hil⟩
      obtain ⟨pre, post, hL⟩ := List.append_of_mem hmem
      have hdir : ∀ e ∈ ops[i].after.toList, Region.binds .any e = true → listed.getD e.on false = true := by
        intro e he hb
        have := hie e (by simpa using he)
        simpa [hb] using this
      have hpre : ∀ j ∈ pre, ∃ x, ops.toArray[j]? = some x ∧ apartB F ops.toArray x ops[i] = true := by
        intro j hj
        have hjm : j ∈ left ops.length listed := by rw [hL]; simp [hj]
        simp only [left, List.mem_filter, List.mem_range] at hjm
        have hji : j < i := by
          rw [hL] at hpair
          exact (List.pairwise_append.1 hpair).2.2 j hj i (by simp)
        have hjo : ops[j]? = some ops[j] := by simp [hjm.1]
        refine ⟨ops[j], by simp [hjo], ?_⟩
        rcases (drawOk_spec hok i _ hio).2 j _ hji hjo with h1 | h1
        · have := hcl.mask hsz i i (Nat.le_refl _) _ hio hdir j h1
          have hjs : j < listed.size := by omega
          have h2 := hjm.2
          simp [Array.getD, hjs] at this h2
          simp [this] at h2
        · exact h1
      have hfront := DerG.front (i := i) (y := ops[i]) (by simp [hio]) pre hG hpre (hL ▸ h)
      have hils : i < listed.size := by omega
      have hnext : left ops.length (listed.setIfInBounds i true) = pre ++ post := by
        have e1 : left ops.length (listed.setIfInBounds i true) = (left ops.length listed).filter (fun j => j != i) := by
          simp only [left, List.filter_filter]
          apply List.filter_congr
          intro j hj
          have hjs : j < listed.size := by simp at hj; omega
          by_cases hji : j = i
          · subst hji; simp [Array.getD, hjs]
          · have : i ≠ j := fun e => hji e.symm
            simp [Array.getD, hjs, Array.getElem_setIfInBounds, this, hji]
        rw [e1, hL]
        rw [hL] at hpair
        have hp := List.pairwise_append.1 hpair
        have hp2 := List.pairwise_cons.1 hp.2.1
        simp only [List.filter_append, List.filter_cons, bne_self_eq_false]
        have f1 : pre.filter (fun j => j != i) = pre := List.filter_eq_self.2 fun j hj => by have := hp.2.2 j hj i (by simp); simp; omega
        have f2 : post.filter (fun j => j != i) = post := List.filter_eq_self.2 fun j hj => by have := hp2.1 j hj; simp; omega
        rw [f1, f2]; simp
      have hlen : (pre ++ post).length = fuel := by
        rw [hL] at hf; simp at hf ⊢; omega
      have hcl' : Closed ops (listed.setIfInBounds i true) := by
        intro j o ho hj e he hb
        have hgrow : ∀ k, listed.getD k false = true → (listed.setIfInBounds i true).getD k false = true := by
          intro k hk
          rcases Nat.lt_or_ge k listed.size with hks | hks
          · by_cases hki : k = i
            · subst hki; simp [Array.getD, hks]
            · have : i ≠ k := fun e => hki e.symm
              simp [Array.getD, hks] at hk
              simp [Array.getD, hks, Array.getElem_setIfInBounds, this, hk]
          · simp [Array.getD, Nat.not_lt.2 hks] at hk
        apply hgrow
        by_cases hji : j = i
        · subst hji; rw [hio] at ho; cases ho; exact hdir e he hb
        · refine hcl j o ho ?_ e he hb
          have hjs : j < listed.size := by rw [hsz]; exact lt_of_get ho
          have : i ≠ j := fun e => hji e.symm
          simpa [Array.getD, hjs, Array.getElem_setIfInBounds, this] using hj
      unfold wpOpIn
      rw [show ops.toArray[i]? = some ops[i] by simp [hio]]
      simp only []
      cases hfront with
      | quiet _ _ _ _ o res ho hw hs h =>
        rw [show ops.toArray[i]? = some ops[i] by simp [hio]] at ho; cases ho
        rw [if_pos (wantA_spec hr hw)]
        refine hs _ hG X m w a hr.rel (fun x _ => hr.eval x) _ _ (fun v m' w' h1 h2 h3 h4 => ?_) rd
        have hput := hr.put h1 h4 ops[i].dst h2
        refine DerG.any (G := G) hok fuel _ _ (by rw [hnext]; exact hlen) (by simpa using hsz) hcl' (by rw [rows_put]; exact hG) (by rw [hnext]; exact h) hput fun m2 w2 a2 k1 k2 k3 => ?_
        rw [rows_put] at k2 k3
        exact hq _ _ _ k1 (Nat.le_trans h3 k2) (h4.trans (k3.mono h3))
      | eff _ _ _ _ o res rows' ho he hw hs hg h =>
        rw [show ops.toArray[i]? = some ops[i] by simp [hio]] at ho; cases ho
        rw [if_pos (wantA_spec hr hw)]
        refine hs X m w a hr.rel (fun x _ => hr.eval x) _ _ (fun v m' w' h1 h2 h3 h4 => ?_) rd
        have hput := hr.put h1 h4 ops[i].dst h2
        refine DerG.any (G := G) hok fuel _ _ (by rw [hnext]; exact hlen) (by simpa using hsz) hcl' (by rw [rows_put]; exact hg) (by rw [hnext]; exact h) hput fun m2 w2 a2 k1 k2 k3 => ?_
        rw [rows_put] at k2 k3
        exact hq _ _ _ k1 (Nat.le_trans h3 k2) (h4.trans (k3.mono h3))
      | skip _ _ _ _ o ho hw h =>
        rw [show ops.toArray[i]? = some ops[i] by simp [hio]] at ho; cases ho
        rw [if_neg (by rw [wantA_spec hr hw]; simp)]
        refine ⟨fun _ _ => trivial, ?_⟩
        have hput := hr.put hr.rel (Evo.refl _ _) ops[i].dst (V.undefTup _)
        refine DerG.any (G := G) hok fuel _ _ (by rw [hnext]; exact hlen) (by simpa using hsz) hcl' (by rw [rows_put]; exact hG) (by rw [hnext]; exact h) hput fun m2 w2 a2 k1 k2 k3 => ?_
        rw [rows_put] at k2 k3
        exact hq _ _ _ k1 k2 k3

theorem AWP.draw {F : Oper → Bool} {P : Program} {N : Nat} {Q : Exit → St → Prop} {st st' : St} {id : Nat} {ops : List Oper} (hm : P.follows .mixedOrders = true) (G : List Row → Prop) (hG : G st.rows) (hok : drawOk F ops = true)
    (h : DerG P F ops.toArray G (List.range ops.length) st st') (hq : Q .normal st') : AWP P N (.region id ops.toArray true) Q st := by
  intro hN rd ds X m w a hr
  obtain ⟨hrel, hev⟩ := same_heap (E := ⟨st.rows, m, w, X⟩) hr.rel (w' := { w with drawn := w.drawn + 1 }) rfl rfl rfl rfl st.rows.length
  have hr' : RelSt ds X st m { w with drawn := w.drawn + 1 } a := ⟨hrel, hr.len, fun i hi => hev.val _ _ (hr.regs i hi) (hr.regs i hi).refLt, hr.defers⟩
  have hleft : left ops.length (Array.replicate ops.length false) = List.range ops.length := by
    unfold left
    rw [List.filter_eq_self]
    intro i hi
    simp at hi
    simp [Array.getD, hi]
  refine wpIn_region_any hm ?_
  have := DerG.any (P := P) (rd := rd) (G := G) hok (st' := st') ops.length (Array.replicate ops.length false) st (by rw [hleft]; simp) (by simp) ?_ hG (by rw [hleft]; exact h) hr'
    (Q := fun e a' w' => ∃ st' m', Q e st' ∧ N ≤ st'.rows.length ∧ RelSt ds X st' m' w' a' ∧ Evo N ⟨st.rows, m, w, X⟩ ⟨st'.rows, m', w', X⟩)
    (fun m' w' a' h1 h2 h3 => ⟨st', m', hq, Nat.le_trans hN h2, h1, (hev.mono hN).trans (h3.mono hN)⟩)
  · simpa using this
  · intro j o ho hj
    have : j < ops.length := lt_of_get ho
    simp [Array.getD, this] at hj
end Go.Abs

set_option linter.unusedVariables false
set_option linter.unusedSimpArgs false
namespace Go.Abs
open Go

theorem sem_run {P : Program} {o : Oper} {a : Act} {w w' : World} {x : Next} (rd : Option Nat) (h : (execOp a.eval o).run P w = .ok x w') (hx : ∀ d, x ≠ .defer d) : (o.semAt rd a.eval).run P w = .ok x w' := by
  rw [Oper.semAt_eq]
  · exact h
  · intro c hc
    simp only [execOp, hc, Sem.run_bind] at h
    cases hr : (resolve a.eval c o.type).run P w with
    | ok d w2 => rw [hr] at h; simp at h; exact hx _ h.1.symm
    | halt e w2 => rw [hr] at h; simp at h
theorem OpS.of_run {P : Program} {o : Oper} {ρ : Operand → AVal} {rows rows' : List Row} {res : AVal}
    (h : ∀ (X : Nat → Nat → Prop) (m : Nat → Option Nat) (w : World) (a : Act), Rel ⟨rows, m, w, X⟩ → (∀ x ∈ o.op.operands.toList, V ⟨rows, m, w, X⟩ (ρ x) (a.eval x)) →
      ∃ v w' m', (execOp a.eval o).run P w = .ok (.value v) w' ∧ Rel ⟨rows', m', w', X⟩ ∧ V ⟨rows', m', w', X⟩ res v ∧ rows.length ≤ rows'.length ∧ Evo rows.length ⟨rows, m, w, X⟩ ⟨rows', m', w', X⟩) :
    OpS P o ρ rows res rows' := by
  intro X m w a hrel hv K Q hK rd
  obtain ⟨v, w', m', h1, h2, h3, h4, h5⟩ := h X m w a hrel hv
  unfold Oper.wpIn
  refine ⟨fun _ _ => trivial, ?_⟩
  rw [sem_run _ h1 (by simp), Oper.uponIn_value]
  exact hK v m' w' h2 h3 h4 h5
theorem OpS.quiet {P : Program} {o : Oper} {ρ : Operand → AVal} {rows : List Row} {res : AVal}
    (h : ∀ (X : Nat → Nat → Prop) (m : Nat → Option Nat) (w : World) (a : Act), Rel ⟨rows, m, w, X⟩ → (∀ x ∈ o.op.operands.toList, V ⟨rows, m, w, X⟩ (ρ x) (a.eval x)) →
      ∃ v, (execOp a.eval o).run P w = .ok (.value v) w ∧ V ⟨rows, m, w, X⟩ res v) : OpS P o ρ rows res rows :=
  OpS.of_run fun X m w a hrel hv => let ⟨v, h1, h2⟩ := h X m w a hrel hv; ⟨v, w, m, h1, hrel, h2, Nat.le_refl _, Evo.refl _ _⟩
theorem OpS.of_skip {P : Program} {o : Oper} {ρ : Operand → AVal} {rows rows' : List Row}
    (h : ∀ (X : Nat → Nat → Prop) (m : Nat → Option Nat) (w : World) (a : Act), Rel ⟨rows, m, w, X⟩ → (∀ x ∈ o.op.operands.toList, V ⟨rows, m, w, X⟩ (ρ x) (a.eval x)) →
      ∃ w' m', (execOp a.eval o).run P w = .ok .skip w' ∧ Rel ⟨rows', m', w', X⟩ ∧ rows.length ≤ rows'.length ∧ Evo rows.length ⟨rows, m, w, X⟩ ⟨rows', m', w', X⟩) :
    OpS P o ρ rows (.tup []) rows' := by
  intro X m w a hrel hv K Q hK rd
  obtain ⟨w', m', h1, h2, h4, h5⟩ := h X m w a hrel hv
  unfold Oper.wpIn
  refine ⟨fun _ _ => trivial, ?_⟩
  rw [sem_run _ h1 (by simp), Oper.uponIn_skip]
  exact hK _ m' w' h2 (V.undefTup _) h4 h5

/-- What an operation gives: under which condition, the value, the rows behind it. -/
structure Res where
  ok : Prop
  v : AVal
  rows : List Row

/-! ### Numbers, bools, strings -/
def binI (op : BinOp) (k : IntKind) (x y : Int) : Option (Prop × Value) :=
  match op with
  | .add => some (True, .int k (k.wrap (x + y)))
  | .sub => some (True, .int k (k.wrap (x - y)))
  | .mul => some (True, .int k (k.wrap (x * y)))
  | .quo => some (y ≠ 0, .int k (k.wrap (x.tdiv y)))
  | .rem => some (y ≠ 0, .int k (x.tmod y))
  | .and => some (True, .int k (k.wrap (BitVec.ofInt k.bits x &&& BitVec.ofInt k.bits y).toNat))
  | .or => some (True, .int k (k.wrap (BitVec.ofInt k.bits x ||| BitVec.ofInt k.bits y).toNat))
  | .xor => some (True, .int k (k.wrap (BitVec.ofInt k.bits x ^^^ BitVec.ofInt k.bits y).toNat))
  | .andNot => some (True, .int k (k.wrap (BitVec.ofInt k.bits x &&& ~~~ BitVec.ofInt k.bits y).toNat))
  | .eql => some (True, .bool (x == y))
  | .neq => some (True, .bool (x != y))
  | .lss => some (True, .bool (x < y))
  | .leq => some (True, .bool (x ≤ y))
  | .gtr => some (True, .bool (x > y))
  | .geq => some (True, .bool (x ≥ y))
  | _ => none
def binSh (op : BinOp) (k : IntKind) (x y : Int) : Option (Prop × Value) :=
  match op with
  | .shl => some (0 ≤ y, .int k (k.wrap (x * 2 ^ (min y.toNat k.bits))))
  | .shr => some (0 ≤ y, .int k (x.fdiv (2 ^ (min y.toNat k.bits))))
  | _ => none
def binS (op : BinOp) (x y : ByteArray) : Option (Prop × Value) :=
  match op with
  | .add => some (x.size + y.size ≤ 9223372036854775807, .string (x ++ y))
  | .eql => some (True, .bool (x.toList == y.toList))
  | .neq => some (True, .bool (!(x.toList == y.toList)))
  | .lss => some (True, .bool (Op.bytesLess x.toList y.toList))
  | .leq => some (True, .bool (Op.bytesLess x.toList y.toList || x.toList == y.toList))
  | .gtr => some (True, .bool (!(Op.bytesLess x.toList y.toList || x.toList == y.toList)))
  | .geq => some (True, .bool (!Op.bytesLess x.toList y.toList))
  | _ => none
def isSh : BinOp → Bool | .shl | .shr => true | _ => false
def binB (op : BinOp) (x y : Bool) : Option (Prop × Value) :=
  match op with
  | .eql => some (True, .bool (x == y))
  | .neq => some (True, .bool (!(x == y)))
  | _ => none
/-- Two scalars. -/
def binV (P : Program) (op : BinOp) (t : TypeId) (x y : Value) : Option (Prop × Value) :=
  match x, y with
  | .int k a, .int j b => match isSh op with
    | true => binSh op k a b
    | false => if k = j then binI op k a b else none
  | .string a, .string b => binS op a b
  | .bool a, .bool b => match P.underlying t with
    | some .bool => binB op a b
    | _ => none
  | _, _ => none

theorem run_guarded {P : Program} {op : BinOp} {t : TypeId} {px py : Operand} {x y v : Value} {w : World} (hg : (eqGuard op t px py x y).run P w = .ok () w) (hb : (binOp op t x y).run P w = .ok v w) :
    (do eqGuard op t px py x y; binOp op t x y : Sem Value).run P w = .ok v w := by
  simp only [Sem.run_bind, hg, Result.andThen_ok, hb]

theorem binV_spec {P : Program} {op : BinOp} {t : TypeId} {px py : Operand} {x y : Value} {c : Prop} {v : Value} (h : binV P op t x y = some (c, v)) (hc : c) (w : World) :
    (do eqGuard op t px py x y; binOp op t x y : Sem Value).run P w = .ok v w ∧ scOk v = true := by
  unfold binV at h
  split at h
  · rename_i k a j b
    split at h
    · rename_i hs
      cases op <;> simp [isSh] at hs <;> simp only [binSh, Option.some.injEq, Prod.mk.injEq] at h <;> obtain ⟨rfl, rfl⟩ := h <;>
        exact ⟨run_guarded rfl (by simp [binOp, Op.shift, Int.not_lt.2 hc]), rfl⟩
    · rename_i hs
      split at h
      · rename_i hk
        subst hk
        cases op <;> simp [isSh] at hs <;> simp only [binI, Option.some.injEq, Prod.mk.injEq, reduceCtorEq] at h <;> obtain ⟨rfl, rfl⟩ := h <;>
          first
          | (exact ⟨run_guarded rfl (by simp only [binOp, ne_eq, not_true_eq_false, if_false, Op.intDiv]; rw [if_neg hc]; rfl), rfl⟩)
          | (exact ⟨run_guarded rfl (by simp [binOp, Op.intArith, Op.intBits, Op.intCmp]; done), rfl⟩)
      · simp at h
  · rename_i a b
    cases op <;> simp only [binS, Option.some.injEq, Prod.mk.injEq, reduceCtorEq] at h <;> obtain ⟨rfl, rfl⟩ := h <;>
      first
      | (refine ⟨run_guarded rfl ?_, rfl⟩; simp [binOp, Op.stringOp]; done)
      | (refine ⟨run_guarded rfl ?_, rfl⟩
         have : ¬ (((a.size + b.size : Nat) : Int) > IntKind.i64.max) := by
           have : IntKind.i64.max = 9223372036854775807 := by decide
           rw [this]; have := hc; omega
         simp only [binOp, Op.stringOp]
         rw [if_neg this]; rfl)
  · rename_i a b
    split at h
    · rename_i ht
      cases op <;> simp only [binB, Option.some.injEq, Prod.mk.injEq, reduceCtorEq] at h <;> obtain ⟨rfl, rfl⟩ := h <;>
        first
        | exact ⟨run_guarded rfl (run_eql_bool w t a b ht), rfl⟩
        | exact ⟨run_guarded rfl (run_neq_bool w t a b ht), rfl⟩
    · simp at h
  · simp at h

def unV (op : UnOp) (x : Value) : Option Value :=
  match op, x with
  | .neg, .int k n => some (.int k (k.wrap (0 - n)))
  | .xor, .int k n => some (.int k (k.wrap (BitVec.ofInt k.bits (if k.signed then -1 else k.max) ^^^ BitVec.ofInt k.bits n).toNat))
  | .not, .bool b => some (.bool !b)
  | _, _ => none
theorem unV_spec {P : Program} {op : UnOp} {x v : Value} (h : unV op x = some v) (w : World) : (Op.unary op x).run P w = .ok v w ∧ scOk v = true := by
  unfold unV at h
  split at h <;> simp at h <;> subst h <;> exact ⟨by simp [Op.unary, Op.intArith, Op.intBits], rfl⟩

/-! ### Parts of structs and arrays -/
def AVal.cellsA : AVal → Option (List AVal)
  | .agg cs => some cs
  | .tup _ => none
  | .undef => none
  | x => some [x]
def zeroA (P : Program) (t : TypeId) : Option AVal := ((P.info? t).bind (·.zero)).map constA
theorem run_zero {P : Program} {t : TypeId} {z : AVal} (h : zeroA P t = some z) (w : World) : ∃ v, (zeroValue t).run P w = .ok v w ∧ ∀ E, V E z v := by
  unfold zeroA at h
  cases hi : P.info? t with
  | none => simp [hi] at h
  | some i =>
    cases hz : i.zero with
    | none => simp [hi, hz] at h
    | some v =>
      simp [hi, hz] at h
      subst h
      exact ⟨v, by simp [zeroValue, run_typeInfo w hi, hz], fun E => V.constA E v⟩
/-- Cells that stand for a value's cells. -/
def VC (E : Env) (xs : List AVal) (vs : Array Value) : Prop := xs.length = vs.size ∧ ∀ i, i < xs.length → V E (xs.getD i .undef) (vs.getD i Go.undef)

theorem V.cells {E : Env} {x : AVal} {v : Value} {cs : List AVal} (h : V E x v) (hc : x.cellsA = some cs) (hpt : ∀ id off, x = .ptr id off → ∃ r, E.rows[id]? = some r ∧ r.st = .fresh) : VC E cs v.cells := by
  cases h with
  | agg cells vs hl hv => simp [AVal.cellsA] at hc; subst hc; exact ⟨by simpa [Value.cells] using hl, fun i hi => by simpa [Value.cells, List.getD_eq_getElem?_getD, Array.getD_eq_getD_getElem?] using hv i hi⟩
  | undef => simp [AVal.cellsA] at hc
  | tup => simp [AVal.cellsA] at hc
  | ptrLost id off r v hr hs hu => obtain ⟨r2, h1, h2⟩ := hpt id off rfl; rw [hr] at h1; cases h1; exact absurd h2 hs
  | sc v hv =>
    simp [AVal.cellsA] at hc; subst hc
    have : v.cells = #[v] := by cases v <;> simp_all [Value.cells, scOk]
    rw [this]
    exact ⟨rfl, fun i hi => by simp at hi; subst hi; exact .sc v hv⟩
  | slnil k hk => simp [AVal.cellsA] at hc; subst hc; exact ⟨rfl, fun i hi => by simp at hi; subst hi; exact .slnil k hk⟩
  | slz k hk a => simp [AVal.cellsA] at hc; subst hc; exact ⟨rfl, fun i hi => by simp at hi; subst hi; exact .slz k hk a⟩
  | sl cells n k b o cap vs hk hn hd hv hm => simp [AVal.cellsA] at hc; subst hc; exact ⟨rfl, fun i hi => by simp at hi; subst hi; exact .sl cells n k b o cap vs hk hn hd hv hm⟩
  | ptr id off r b hr hs hm => simp [AVal.cellsA] at hc; subst hc; exact ⟨rfl, fun i hi => by simp at hi; subst hi; exact .ptr id off r b hr hs hm⟩
  | dptr cells b o vs hd hv hm => simp [AVal.cellsA] at hc; subst hc; exact ⟨rfl, fun i hi => by simp at hi; subst hi; exact .dptr cells b o vs hd hv hm⟩
  | rowF id off n b cap r hr hs hm hn ho hcc => simp [AVal.cellsA] at hc; subst hc; exact ⟨rfl, fun i hi => by simp at hi; subst hi; exact .rowF id off n b cap r hr hs hm hn ho hcc⟩
  | rowLost id off n r v hr hs h0 hv => simp [AVal.cellsA] at hc; subst hc; have hv0 := hv; rcases hv with ⟨_, _, base, rfl⟩ | ⟨b, o, cap, rfl, _⟩ <;> exact ⟨rfl, fun i hi => by simp at hi; subst hi; exact .rowLost id off n r _ hr hs h0 hv0⟩
  | rowV id r base hr hs => simp [AVal.cellsA] at hc; subst hc; exact ⟨rfl, fun i hi => by simp at hi; subst hi; exact .rowV id r base hr hs⟩
  | rowG id off n b o cap r vs hr hs hn ho hd hv hm he => simp [AVal.cellsA] at hc; subst hc; exact ⟨rfl, fun i hi => by simp at hi; subst hi; exact .rowG id off n b o cap r vs hr hs hn ho hd hv hm he⟩
  | fn f cap vs hl hv => simp [AVal.cellsA] at hc; subst hc; exact ⟨rfl, fun i hi => by simp at hi; subst hi; exact .fn f cap vs hl hv⟩
  | ifc t x v h => simp [AVal.cellsA] at hc; subst hc; exact ⟨rfl, fun i hi => by simp at hi; subst hi; exact .ifc t x v h⟩
  | mp id r b hr hs hm => simp [AVal.cellsA] at hc; subst hc; exact ⟨rfl, fun i hi => by simp at hi; subst hi; exact .mp id r b hr hs hm⟩
end Go.Abs

set_option linter.unusedVariables false
set_option linter.unusedSimpArgs false
namespace Go.Abs
open Go

/-- A function that is given, and gives, data alone, is the same whatever rows the caller has. -/
theorem EvF.lift {P : Program} {f : FuncId} {args : List AVal} {r : AVal} (h : EvF P f args [] r []) (hd : dataAll args = true) (hr : r.data = true) (rows : List Row) : EvF P f args rows r rows := by
  intro X m w vs hrel hvl
  let X2 : Nat → Nat → Prop := fun b o => b < w.heap.size ∧ ¬ Imm ⟨rows, m, w, X⟩ b o
  have hrel2 : Rel ⟨[], m, w, X2⟩ :=
    ⟨fun b o h => h.1, fun i r b hr => by simp at hr, fun i j r s b hr => by simp at hr, fun i r hr => by simp at hr, fun i r hr => by simp at hr, fun i r hr => by simp at hr⟩
  have hvl2 : VL ⟨[], m, w, X2⟩ args vs := by
    refine ⟨hvl.1, fun i hi => ?_⟩
    refine V.mono (N := 0) ?_ (fun id r h _ => absurd h (by omega)) (hvl.2 i hi) (AVal.lt_of_data 0 _ ((dataAll_iff _).1 hd i hi))
    intro b o v hi hc
    exact ⟨⟨hi.1, fun hx => hx.2 hi, fun id r hr => by simp at hr⟩, hc⟩
  refine (h X2 m w vs hrel2 hvl2).mono ?_
  rintro e w' ⟨v, m', rfl, h1, h2, h3, h4⟩
  have hold : ∀ b, b < w.heap.size → w'.heap[b]? = w.heap[b]? := fun b hb => (h4.free b hb (fun id r hr => by simp at hr)).1
  have hsz : w.heap.size ≤ w'.heap.size := h4.size
  have hcell : ∀ b o, b < w.heap.size → w'.cell? ⟨b, o, none⟩ = w.cell? ⟨b, o, none⟩ := fun b o hb => cell_congr (hold b hb)
  have hI : ∀ b o v, Imm ⟨rows, m, w, X⟩ b o → w.cell? ⟨b, o, none⟩ = some v → Imm ⟨rows, m, w', X⟩ b o ∧ w'.cell? ⟨b, o, none⟩ = some v := by
    intro b o v hi hc
    exact ⟨⟨Nat.lt_of_lt_of_le hi.1 hsz, hi.2.1, hi.2.2⟩, by rw [hcell b o hi.1]; exact hc⟩
  have hV : ∀ x v, V ⟨rows, m, w, X⟩ x v → V ⟨rows, m, w', X⟩ x v := fun x v hv => by
    refine V.mono (N := rows.length) hI (fun id s _ hs => ⟨s, hs, RowEvo.keep rfl ?_⟩) hv hv.refLt
    intro hst b o hm hc
    have := hrel.lt hs (by rcases hst with h | h <;> simp [h]) hm
    show (w'.cell? _).isSome = true
    rw [hcell b o this]; exact hc
  refine ⟨v, m, rfl, ⟨fun b o hx => Nat.lt_of_lt_of_le (hrel.xlt b o hx) hsz, hrel.xr, hrel.inj, ?_, hrel.grown, ?_⟩, ?_, Nat.le_refl _, ⟨fun x v hv _ => hV x v hv, hsz, fun b hb hf => ⟨hold b hb, hf⟩, h4.os, h4.tape, h4.output, hI⟩⟩
  · intro i s hs hns hnm
    rcases hrel.own i s hs hns hnm with h | ⟨b, c, e, k1, k2, k3, k4⟩
    · exact .inl h
    · exact .inr ⟨b, c, e, k1, (hold b (lt_of_heap k2)).trans k2, k3, fun j hj => hV _ _ (k4 j hj)⟩
  · intro i s hs hg
    obtain ⟨b, es, k, k1, k2, k3, k4⟩ := hrel.map i s hs hg
    exact ⟨b, es, k, k1, (hold b (lt_of_heap k2)).trans k2, k3, fun j hj => ⟨hV _ _ (k4 j hj).1, hV _ _ (k4 j hj).2⟩⟩
  · refine V.mono (N := 0) ?_ (fun id r h _ => absurd h (by omega)) h2 (AVal.lt_of_data 0 _ hr)
    intro b o u hi hc
    refine ⟨⟨hi.1, ?_, ?_⟩, hc⟩
    · intro hx
      have hb := hrel.xlt b o hx
      exact hi.2.1 ⟨hb, fun hh => hh.2.1 hx⟩
    · intro id s hs hns hm
      have hb := hrel.lt hs hns hm
      have : Imm ⟨rows, m, w, X⟩ b o := Classical.byContradiction fun hn => hi.2.1 ⟨hb, hn⟩
      exact this.2.2 id s hs hns hm

end Go.Abs

set_option linter.unusedVariables false
set_option linter.unusedSimpArgs false
namespace Go.Abs
open Go

/-- A pointer or handle that still stands. -/
def standsB (rows : List Row) (x : AVal) : Bool :=
  match x with
  | .ptr id _ => match rows[id]? with
    | some r => decide (r.st = .fresh)
    | none => false
  | _ => true
theorem stands_spec {rows : List Row} {x : AVal} (h : standsB rows x = true) : ∀ id off, x = .ptr id off → ∃ r, rows[id]? = some r ∧ r.st = .fresh := by
  rintro id off rfl
  simp only [standsB] at h
  split at h
  · rename_i r hr; exact ⟨r, hr, by simpa using h⟩
  · simp at h

def eszOf (P : Program) (e : TypeId) : Option Nat :=
  match P.underlying e with
  | some (.array _ el) => tyS P el
  | some _ => tyS P e
  | none => none

/-- A new variable. -/
theorem newRow_spec {P : Program} {rows : List Row} {X : Nat → Nat → Prop} {m : Nat → Option Nat} {w : World} (hrel : Rel ⟨rows, m, w, X⟩) {cs : List AVal} {c : Array Value} (hc : VC ⟨rows, m, w, X⟩ cs c) (esz : Nat) (e : TypeId) :
    ∃ w' m', (newRow e c).run P w = .ok ⟨w.heap.size, 0, none⟩ w' ∧ Rel ⟨rows ++ [⟨cs, esz, .fresh⟩], m', w', X⟩ ∧ m' rows.length = some w.heap.size ∧
      Evo rows.length ⟨rows, m, w, X⟩ ⟨rows ++ [⟨cs, esz, .fresh⟩], m', w', X⟩ ∧ w' = w.alloc (.cells c e) := by
  obtain ⟨h1, h2⟩ := alloc_step hrel ⟨cs, esz, .fresh⟩ c e rfl (Nat.le_of_eq hc.1) (fun j hj => hc.2 j hj)
  refine ⟨_, _, ?_, h1, ?_, h2, rfl⟩
  · simp [newRow, newObj, Sem.run]
  · simp

/-! ### load -/
def loadA (P : Program) (t : TypeId) (rows : List Row) (x : AVal) : Option (Prop × AVal) :=
  match P.underlying t, tyS P t with
  | some d, some n =>
    match x with
    | .ptr id off => match rows[id]? with
      | some r => if r.st = .fresh then
          (if isAggD d then some (off + n ≤ r.cells.length, .agg ((r.cells.drop off).take n)) else some (off < r.cells.length, r.cells.getD off .undef))
        else none
      | none => none
    | .dptr cs => if isAggD d then some (n ≤ cs.length, .agg (cs.take n)) else some (0 < cs.length, cs.getD 0 .undef)
    | _ => none
  | _, _ => none

theorem load_spec {P : Program} {t : TypeId} {rows : List Row} {x r : AVal} {c : Prop} (h : loadA P t rows x = some (c, r)) (hc : c) {X : Nat → Nat → Prop} {m : Nat → Option Nat} {w : World} {v : Value}
    (hrel : Rel ⟨rows, m, w, X⟩) (hv : V ⟨rows, m, w, X⟩ x v) : ∃ u, (Instr.loadAt t v).run P w = .ok u w ∧ V ⟨rows, m, w, X⟩ r u := by
  unfold loadA at h
  split at h
  · rename_i d n hd hn
    split at h
    · rename_i id off
      split at h
      · rename_i row hrow
        split at h
        · rename_i hs
          obtain ⟨b, rfl, hm⟩ := hv.ptr_inv hrow hs
          obtain ⟨cc, e, hb, hbl, hbv⟩ := hrel.block hrow (.inl hs) hm
          simp only [Instr.loadAt, Instr.sureAddr, Sem.run_bind, Sem.run_pure, Result.andThen_ok]
          split at h
          · rename_i hagg
            simp only [Option.some.injEq, Prod.mk.injEq] at h
            obtain ⟨rfl, rfl⟩ := h
            have hc' : off + n ≤ row.cells.length := hc
            rw [run_loadVar_agg hd hagg hn (f := fun j => cc.getD (off + j) Go.undef) (fun j hj => cell_getD hb (by omega))]
            refine ⟨_, rfl, .agg _ _ (by simp; omega) fun i hi => ?_⟩
            have hi' : i < n := by simp at hi; omega
            have := hbv (off + i) (by omega)
            simpa [List.getD_eq_getElem?_getD, List.getElem?_take, hi'] using this
          · rename_i hagg
            simp only [Option.some.injEq, Prod.mk.injEq] at h
            obtain ⟨rfl, rfl⟩ := h
            have hc' : off < row.cells.length := hc
            rw [run_loadVar_one hd (by simpa using hagg) (cell_getD hb (by omega : off < cc.size))]
            exact ⟨_, rfl, hbv off hc'⟩
        · simp at h
      · simp at h
    · rename_i cs
      obtain ⟨b, o, vs, rfl, hdd, hvv, hmm⟩ := hv.dptr_inv
      simp only [Instr.loadAt, Instr.sureAddr, Sem.run_bind, Sem.run_pure, Result.andThen_ok]
      split at h
      · rename_i hagg
        simp only [Option.some.injEq, Prod.mk.injEq] at h
        obtain ⟨rfl, rfl⟩ := h
        have hc' : n ≤ cs.length := hc
        rw [run_loadVar_agg hd hagg hn (f := vs) (fun j hj => (hmm j (by omega)).1)]
        refine ⟨_, rfl, .agg _ _ (by simp; omega) fun i hi => ?_⟩
        have hi' : i < n := by simp at hi; omega
        have := hvv i (by omega)
        simpa [List.getD_eq_getElem?_getD, List.getElem?_take, hi'] using this
      · rename_i hagg
        simp only [Option.some.injEq, Prod.mk.injEq] at h
        obtain ⟨rfl, rfl⟩ := h
        have hc' : 0 < cs.length := hc
        rw [run_loadVar_one hd (by simpa using hagg) (v := vs 0) (by simpa using (hmm 0 hc').1)]
        exact ⟨_, rfl, hvv 0 hc'⟩
    · simp at h
  · simp at h

/-! ### store -/
def spliceA (l : List AVal) (off : Nat) : List AVal → List AVal
  | [] => l
  | c :: r => spliceA (l.set off c) (off + 1) r
theorem spliceA_length (cs : List AVal) : ∀ (l : List AVal) (off : Nat), (spliceA l off cs).length = l.length := by
  induction cs with
  | nil => intro l off; rfl
  | cons c r ih => intro l off; simp [spliceA, ih]
theorem spliceA_getD (cs : List AVal) : ∀ (l : List AVal) (off j : Nat), off + cs.length ≤ l.length → (spliceA l off cs).getD j .undef = if off ≤ j ∧ j < off + cs.length then cs.getD (j - off) .undef else l.getD j .undef := by
  induction cs with
  | nil => intro l off j h; simp only [spliceA]; rw [if_neg (by simp only [List.length_nil]; omega)]
  | cons c r ih =>
    intro l off j h
    simp only [List.length_cons] at h
    simp only [spliceA]
    rw [ih _ _ _ (by simp; omega)]
    by_cases h1 : off + 1 ≤ j ∧ j < off + 1 + r.length
    · rw [if_pos h1, if_pos (by simp; omega)]
      rw [show j - off = (j - (off + 1)) + 1 by omega]; simp
    · rw [if_neg h1]
      by_cases h2 : j = off
      · subst h2
        rw [if_pos (by simp)]
        simp [List.getD_eq_getElem?_getD, show j < l.length by omega]
      · rw [if_neg (by simp; omega)]
        simp [List.getD_eq_getElem?_getD, List.getElem?_set, Ne.symm h2]

def storeA (P : Program) (t : TypeId) (rows : List Row) (p x : AVal) : Option (Prop × List Row) :=
  match tyS P t, p, x.cellsA with
  | some n, .ptr id off, some cs => match rows[id]? with
    | some r => if r.st = .fresh ∧ cs.length = n ∧ standsB rows x = true ∧ cs.all (fun c => c.one && standsB rows c) = true then
        some (off + n ≤ r.cells.length, rows.set id { r with cells := spliceA r.cells off cs }) else none
    | none => none
  | _, _, _ => none

theorem store_spec {P : Program} {t : TypeId} {rows rows' : List Row} {p x : AVal} {c : Prop} (h : storeA P t rows p x = some (c, rows')) (hc : c) {X : Nat → Nat → Prop} {m : Nat → Option Nat} {w : World} {a v : Value}
    (hrel : Rel ⟨rows, m, w, X⟩) (hp : V ⟨rows, m, w, X⟩ p a) (hv : V ⟨rows, m, w, X⟩ x v) :
    ∃ w' m', (Instr.storeAt t a v).run P w = .ok () w' ∧ Rel ⟨rows', m', w', X⟩ ∧ rows.length ≤ rows'.length ∧ Evo rows.length ⟨rows, m, w, X⟩ ⟨rows', m', w', X⟩ := by
  unfold storeA at h
  split at h
  · rename_i n id off cs hn hcs
    split at h
    · rename_i r hr
      split at h
      · rename_i hcond
        obtain ⟨hs, hlen, hst, hall⟩ := hcond
        simp only [Option.some.injEq, Prod.mk.injEq] at h
        obtain ⟨rfl, rfl⟩ := h
        have hc' : off + n ≤ r.cells.length := hc
        obtain ⟨b, rfl, hm⟩ := hp.ptr_inv hr hs
        obtain ⟨cc, e, hb, hbl, hbv⟩ := hrel.block hr (.inl hs) hm
        have hvc := hv.cells hcs (stands_spec hst)
        have hsz : v.cells.size = n := by rw [← hvc.1, hlen]
        have hone : ∀ y ∈ v.cells.toList, y.oneCell' = true := by
          intro y hy
          obtain ⟨i, hi, rfl⟩ := List.mem_iff_getElem.1 hy
          have hi' : i < cs.length := by rw [hvc.1]; simpa using hi
          have hVi := hvc.2 i hi'
          have hcm := List.all_eq_true.1 hall (cs.getD i .undef) (by rw [List.getD_eq_getElem?_getD, List.getElem?_eq_getElem hi']; exact List.getElem_mem hi')
          simp only [Bool.and_eq_true] at hcm
          have := hVi.oneCell hcm.1 (stands_spec hcm.2)
          have hi2 : i < v.cells.size := by simpa using hi
          simpa [Array.getD, hi2] using this
        have hrun := run_storeVar (P := P) (t := t) (w := w) (b := b) (o := off) (c := cc) (e := e) (v := v) (by rw [hn, hsz]) hb (by omega) hone
        obtain ⟨k1, k2⟩ := row_step (E := ⟨rows, m, w, X⟩) hrel (r' := { r with cells := spliceA r.cells off cs }) hr (.inl hs) hm
          (w' := upd w b (.cells (cc.toList.take off ++ v.cells.toList ++ cc.toList.drop (off + v.cells.size)).toArray e (0, 0))) (b' := b)
          (c' := (cc.toList.take off ++ v.cells.toList ++ cc.toList.drop (off + v.cells.size)).toArray) (e' := e) (.inl ⟨rfl, rfl⟩) (.inl hs)
          (fun _ => ⟨hs, by simp [spliceA_length]⟩) rfl (fun hg => by rw [show ({ r with cells := spliceA r.cells off cs } : Row).st = r.st from rfl, hs] at hg; simp at hg)
          (by simp [spliceA_length]; omega)
          (fun _ c0 e0 h0 => by rw [show (Env.mk rows m w X).w = w from rfl, hb] at h0; cases h0; exact ⟨by simp; omega, fun hg => by rw [show ({ r with cells := spliceA r.cells off cs } : Row).st = r.st from rfl, hs] at hg; simp at hg⟩)
          (fun j hj => by
            simp only [spliceA_length] at hj
            show V _ ((spliceA r.cells off cs).getD j .undef) _
            rw [spliceA_getD cs r.cells off j (by omega)]
            by_cases hj2 : off ≤ j ∧ j < off + cs.length
            · rw [if_pos hj2]
              have := hvc.2 (j - off) (by omega)
              have e1 : (cc.toList.take off ++ v.cells.toList ++ cc.toList.drop (off + v.cells.size)).toArray.getD j Go.undef = v.cells.getD (j - off) Go.undef := by
                have l1 : (cc.toList.take off).length = off := by simp; omega
                simp only [Array.getD_eq_getD_getElem?, List.getElem?_toArray]
                rw [List.getElem?_append_left (by simp; omega), List.getElem?_append_right (by omega), l1]
                simp
              rw [e1]; exact this
            · rw [if_neg hj2]
              have := hbv j (by omega)
              have e1 : (cc.toList.take off ++ v.cells.toList ++ cc.toList.drop (off + v.cells.size)).toArray.getD j Go.undef = cc.getD j Go.undef := by
                have l1 : (cc.toList.take off).length = off := by simp; omega
                simp only [Array.getD_eq_getD_getElem?, List.getElem?_toArray]
                rcases Nat.lt_or_ge j off with hlt | hge
                · rw [List.append_assoc, List.getElem?_append_left (by omega), List.getElem?_take_of_lt hlt]; simp
                · rw [List.getElem?_append_right (by simp; omega)]
                  simp only [List.length_append, l1, Array.length_toList, List.getElem?_drop, Array.getElem?_toList]
                  congr 2; omega
              rw [e1]; exact this)
        refine ⟨_, _, ?_, k1, by simp, k2⟩
        simp only [Instr.storeAt, Instr.sureAddr, Sem.run_bind, Sem.run_pure, Result.andThen_ok]
        exact hrun
      · simp at h
    · simp at h
  · simp at h

/-! ### build -/
def partsA (ρ : Operand → AVal) : List (Nat × Operand) → Option (List (Nat × List AVal))
  | [] => some []
  | (i, x) :: r => match (ρ x).cellsA, partsA ρ r with
    | some cs, some l => some ((i, cs) :: l)
    | _, _ => none
def fillA (place : Nat → Option (Nat × Nat)) (cells : List AVal) : List (Nat × List AVal) → Option (List AVal)
  | [] => some cells
  | (i, cs) :: rest =>
    match place i with
    | none => none
    | some (off, size) => if cs.length = size ∧ off + cs.length ≤ cells.length then fillA place (spliceA cells off cs) rest else none

theorem foldl_splice : ∀ (l : List Value) (cs : Array Value) (off k : Nat), off + k + l.length ≤ cs.size →
    let r := (l.zipIdx k).foldl (fun (cs : Array Value) (p : Value × Nat) => cs.setIfInBounds (off + p.2) p.1) cs
    r.size = cs.size ∧ ∀ j, r.getD j Go.undef = if off + k ≤ j ∧ j < off + k + l.length then l.getD (j - (off + k)) Go.undef else cs.getD j Go.undef
  | [], cs, off, k, h => by
    refine ⟨rfl, fun j => ?_⟩
    rw [if_neg (by simp only [List.length_nil]; omega)]; rfl
  | v :: l, cs, off, k, h => by
    simp only [List.length_cons] at h
    have ih := foldl_splice l (cs.setIfInBounds (off + k) v) off (k + 1) (by simp; omega)
    simp only [List.zipIdx_cons, List.foldl_cons]
    refine ⟨by rw [ih.1]; simp, fun j => ?_⟩
    rw [ih.2 j]
    by_cases h1 : off + (k + 1) ≤ j ∧ j < off + (k + 1) + l.length
    · rw [if_pos h1, if_pos (by simp; omega)]
      rw [show j - (off + k) = (j - (off + (k + 1))) + 1 by omega]; simp
    · rw [if_neg h1]
      by_cases h2 : j = off + k
      · subst h2
        rw [if_pos (by simp)]
        simp [Array.getD, show off + k < cs.size by omega]
      · rw [if_neg (by simp; omega)]
        simp only [Array.getD_eq_getD_getElem?, Array.getElem?_setIfInBounds]
        rw [if_neg (Ne.symm h2)]

theorem fill_spec {E : Env} {place : Nat → Option (Nat × Nat)} : ∀ (ps : List (Nat × List AVal)) (qs : List (Nat × Value)) (cells : List AVal) (c : Array Value) {out : List AVal}, ps.length = qs.length →
    (∀ i, i < ps.length → (ps.getD i (0, [])).1 = (qs.getD i (0, Go.undef)).1 ∧ VC E (ps.getD i (0, [])).2 (qs.getD i (0, Go.undef)).2.cells) → VC E cells c → fillA place cells ps = some out →
    ∃ c', Instr.fill place c qs = some c' ∧ VC E out c'
  | [], [], cells, c, out, _, _, hv, h => by simp [fillA] at h; subst h; exact ⟨c, rfl, hv⟩
  | (i, cs) :: ps, (i', v) :: qs, cells, c, out, hl, hp, hv, h => by
    have h0 := hp 0 (by simp)
    simp only [List.getD_cons_zero] at h0
    obtain ⟨rfl, hcs⟩ := h0
    simp only [fillA] at h
    cases hpl : place i with
    | none => simp [hpl] at h
    | some q =>
      obtain ⟨off, size⟩ := q
      simp only [hpl] at h
      split at h
      · rename_i hc
        have hsz : v.cells.size = size := by rw [← hcs.1, hc.1]
        have hle : off + v.cells.size ≤ c.size := by rw [← hv.1, hsz, ← hc.1]; exact hc.2
        simp only [Instr.fill, hpl]
        rw [if_neg (by simp [hsz]; omega)]
        have hf := foldl_splice v.cells.toList c off 0 (by simp; omega)
        have e : v.cells.zipIdx.foldl (fun cs (p : Value × Nat) => cs.setIfInBounds (off + p.2) p.1) c = (v.cells.toList.zipIdx 0).foldl (fun (cs : Array Value) (p : Value × Nat) => cs.setIfInBounds (off + p.2) p.1) c := by
          rw [← Array.foldl_toList]; simp
        refine fill_spec ps qs (spliceA cells off cs) _ (by simpa using hl) (fun k hk => by have := hp (k + 1) (by simpa using hk); simpa using this) ?_ h
        rw [show (v.cells.zipIdx.foldl (fun cs x => match x with | (c, j) => cs.setIfInBounds (off + j) c) c) = v.cells.zipIdx.foldl (fun cs (p : Value × Nat) => cs.setIfInBounds (off + p.2) p.1) c from rfl, e]
        refine ⟨by rw [spliceA_length, hv.1, hf.1], fun j hj => ?_⟩
        rw [spliceA_length] at hj
        rw [spliceA_getD cs cells off j hc.2, hf.2 j]
        simp only [Nat.add_zero, Array.length_toList, ← hcs.1]
        by_cases hj2 : off ≤ j ∧ j < off + cs.length
        · rw [if_pos hj2, if_pos hj2]
          have := hcs.2 (j - off) (by omega)
          simpa [List.getD_eq_getElem?_getD, Array.getD_eq_getD_getElem?] using this
        · rw [if_neg hj2, if_neg hj2]; exact hv.2 j hj
      · simp at h

theorem parts_spec {E : Env} {ρ : Operand → AVal} {τ : Operand → Value} : ∀ (l : List (Nat × Operand)) {ps : List (Nat × List AVal)}, partsA ρ l = some ps → (∀ x ∈ l.map (·.2), V E (ρ x) (τ x) ∧ standsB E.rows (ρ x) = true) →
    ps.length = (l.map fun p => (p.1, τ p.2)).length ∧ ∀ i, i < ps.length → (ps.getD i (0, [])).1 = ((l.map fun p => (p.1, τ p.2)).getD i (0, Go.undef)).1 ∧ VC E (ps.getD i (0, [])).2 ((l.map fun p => (p.1, τ p.2)).getD i (0, Go.undef)).2.cells
  | [], ps, h, _ => by simp [partsA] at h; subst h; exact ⟨rfl, fun i hi => by simp at hi⟩
  | (i, x) :: l, ps, h, hv => by
    simp only [partsA] at h
    split at h
    · rename_i cs ps' h1 h2
      simp at h; subst h
      obtain ⟨k1, k2⟩ := parts_spec l h2 (fun y hy => hv y (by simp at hy ⊢; exact .inr hy))
      obtain ⟨hx, hst⟩ := hv x (by simp)
      refine ⟨by simp at k1 ⊢; exact k1, fun j hj => ?_⟩
      cases j with
      | zero => exact ⟨rfl, hx.cells h1 (stands_spec hst)⟩
      | succ j => simpa using k2 j (by simpa using hj)
    · simp at h
end Go.Abs

set_option linter.unusedVariables false
set_option linter.unusedSimpArgs false
namespace Go.Abs
open Go

/-- A new block that no row owns. -/
theorem push_step {E : Env} (hE : Rel E) (c : Array Value) (e : TypeId) (f : Nat × Nat) :
    let E' : Env := ⟨E.rows, E.m, { E.w with heap := E.w.heap.push (.cells c e f) }, E.x⟩
    Rel E' ∧ (∀ N, Evo N E E') ∧ (∀ o, Imm E' E.w.heap.size o) ∧ (∀ o, E'.w.cell? ⟨E.w.heap.size, o, none⟩ = c[o]?) := by
  intro E'
  have hheap : ∀ {k : Nat}, k < E.w.heap.size → E'.w.heap[k]? = E.w.heap[k]? := fun h => alloc_old (w := E.w) (o := .cells c e f) h
  have hnew : E'.w.heap[E.w.heap.size]? = some (.cells c e f) := alloc_new E.w _
  have hsz : E'.w.heap.size = E.w.heap.size + 1 := by show (E.w.heap.push _).size = _; simp
  have hI : ∀ b o v, Imm E b o → E.w.cell? ⟨b, o, none⟩ = some v → Imm E' b o ∧ E'.w.cell? ⟨b, o, none⟩ = some v :=
    fun b o v h hc => ⟨⟨by rw [hsz]; have := h.1; omega, h.2.1, h.2.2⟩, by rw [cell_congr (hheap h.1)]; exact hc⟩
  have hV : ∀ x v, V E x v → V E' x v := fun x v h => by
    refine V.mono (N := E.rows.length) hI (fun id s _ hs => ⟨s, hs, RowEvo.keep rfl ?_⟩) h h.refLt
    intro hst b o hm hc
    rw [cell_congr (hheap (hE.lt hs (by rcases hst with h | h <;> simp [h]) hm))]; exact hc
  refine ⟨⟨fun b o h => by rw [hsz]; have := hE.xlt b o h; omega, hE.xr, hE.inj, ?_, hE.grown, ?_⟩, fun N => ⟨fun x v h _ => hV x v h, by rw [hsz]; omega, fun b hb hf => ⟨hheap hb, hf⟩, rfl, rfl, rfl, hI⟩, ?_, ?_⟩
  · intro i s hs hns hnm
    rcases hE.own i s hs hns hnm with h | ⟨b, c', e', h1, h2, h3, h4⟩
    · exact .inl h
    · exact .inr ⟨b, c', e', h1, (hheap (lt_of_heap h2)).trans h2, h3, fun j hj => hV _ _ (h4 j hj)⟩
  · intro i s hs hg
    obtain ⟨b, es, k, h1, h2, h3, h4⟩ := hE.map i s hs hg
    exact ⟨b, es, k, h1, (hheap (lt_of_heap h2)).trans h2, h3, fun j hj => ⟨hV _ _ (h4 j hj).1, hV _ _ (h4 j hj).2⟩⟩
  · intro o
    refine ⟨by rw [hsz]; omega, fun hx => ?_, fun id s hs hns hm => ?_⟩
    · have := hE.xlt _ _ hx; omega
    · have := hE.lt hs hns hm; omega
  · intro o; exact cell_at hnew

/-- A slice of data in a block of its own. -/
theorem newSl {E : Env} (hE : Rel E) (cells : List AVal) (c : Array Value) (e : TypeId) (f : Nat × Nat) (n cap : Nat) (hn : n ≤ cap) (hd : dataAll cells = true) (hl : cells.length ≤ c.size)
    (hv : ∀ i, i < cells.length → V E (cells.getD i .undef) (c.getD i Go.undef)) :
    let E' : Env := ⟨E.rows, E.m, { E.w with heap := E.w.heap.push (.cells c e f) }, E.x⟩
    Rel E' ∧ (∀ N, Evo N E E') ∧ V E' (.sl cells n .nn) (.slice (some ⟨E.w.heap.size, 0, none⟩) n cap) := by
  intro E'
  obtain ⟨h1, h2, h3, h4⟩ := push_step hE c e f
  refine ⟨h1, h2, .sl cells n .nn _ 0 cap (fun i => c.getD i Go.undef) (.inr rfl) hn hd (fun i hi => (h2 E.rows.length).val _ _ (hv i hi) (hv i hi).refLt) (fun i hi => ?_)⟩
  rw [Nat.zero_add]
  exact ⟨by rw [h4, getD_some (by omega)], h3 i⟩

/-! ### buildSlice -/
def repA (z : List AVal) : Nat → List AVal
  | 0 => []
  | n + 1 => z ++ repA z n
theorem repA_length (z : List AVal) (n : Nat) : (repA z n).length = n * z.length := by
  induction n with
  | zero => simp [repA]
  | succ n ih => simp [repA, ih, Nat.succ_mul, Nat.add_comm]
theorem repA_getD (z : List AVal) : ∀ (n i : Nat), i < n * z.length → (repA z n).getD i .undef = z.getD (i % z.length) .undef
  | 0, i, h => by simp at h
  | n + 1, i, h => by
    simp only [repA]
    rw [Nat.succ_mul] at h
    rcases Nat.lt_or_ge i z.length with hlt | hge
    · rw [List.getD_eq_getElem?_getD, List.getElem?_append_left hlt, Nat.mod_eq_of_lt hlt, List.getD_eq_getElem?_getD]
    · rw [List.getD_eq_getElem?_getD, List.getElem?_append_right hge, ← List.getD_eq_getElem?_getD, repA_getD z n (i - z.length) (by omega), Nat.mod_eq_sub_mod hge]

def buildSliceA (P : Program) (t : TypeId) (len : Nat) (ρ : Operand → AVal) (parts : List (Nat × Operand)) (rows : List Row) (keep : Bool := false) : Option (AVal × List Row) :=
  match P.underlying t with
  | some (.slice el) => match tyS P el, partsA ρ parts with
    | some size, some ps =>
      if len * size ≤ 2 ^ 24 ∧ (parts.all fun p => standsB rows (ρ p.2)) = true then
        match len * size with
        | 0 => if ps.length = 0 ∧ len = 0 then some (.sl [] 0 .cap0, rows) else none
        | _ + 1 => match (zeroA P el).bind AVal.cellsA with
          | some z => if z.length = size then match fillA (fun i => some (i * size, size)) (repA z len) ps with
            | some cells => if dataAll cells = true ∧ keep = false then some (.sl cells len .nn, rows) else some (.row rows.length 0 len, rows ++ [⟨cells, size, .fresh⟩])
            | none => none
            else none
          | none => none
      else none
    | _, _ => none
  | _ => none

theorem buildSlice_spec {P : Program} {t : TypeId} {len : Nat} {ρ : Operand → AVal} {τ : Operand → Value} {parts : Array (Nat × Operand)} {rows rows' : List Row} {r : AVal} {keep : Bool} (h : buildSliceA P t len ρ parts.toList rows keep = some (r, rows'))
    {X : Nat → Nat → Prop} {m : Nat → Option Nat} {w : World} (hrel : Rel ⟨rows, m, w, X⟩) (hv : ∀ x ∈ parts.toList.map (·.2), V ⟨rows, m, w, X⟩ (ρ x) (τ x)) :
    ∃ v w' m', (Instr.buildSlice t len (parts.map fun p => (p.1, τ p.2))).run P w = .ok v w' ∧ Rel ⟨rows', m', w', X⟩ ∧ V ⟨rows', m', w', X⟩ r v ∧ rows.length ≤ rows'.length ∧ Evo rows.length ⟨rows, m, w, X⟩ ⟨rows', m', w', X⟩ := by
  unfold buildSliceA at h
  split at h
  · rename_i el hu
    split at h
    · rename_i size ps hs hp
      split at h
      · rename_i hc
        obtain ⟨hc1, hc2⟩ := hc
        have hparts := parts_spec (E := ⟨rows, m, w, X⟩) (τ := τ) parts.toList hp (fun x hx => ⟨hv x hx, by
          obtain ⟨q, hq, rfl⟩ := List.mem_map.1 hx
          exact List.all_eq_true.1 hc2 q hq⟩)
        split at h
        · rename_i h0
          split at h
          · rename_i hps
            simp only [Option.some.injEq, Prod.mk.injEq] at h
            obtain ⟨rfl, rfl⟩ := h
            obtain ⟨hps, hl0⟩ := hps
            have hnil' : parts = #[] := by
              have := hparts.1; simp [hps] at this; exact Array.eq_empty_of_size_eq_zero this.symm
            subst hnil'
            obtain ⟨k1, k2, k3, k4⟩ := push_step hrel #[] el (0, 0)
            refine ⟨.slice (some ⟨w.heap.size, 0, none⟩) 0 0, _, m, ?_, k1, ?_, Nat.le_refl _, k2 _⟩
            · subst hl0
              simp [Instr.buildSlice, run_underlying hu, run_sizeOf' hs, Instr.fill, newRow, newObj, Sem.run]
              have e : (Array.map (fun x => default) (Array.range 0) : Array Value) = #[] := by apply Array.eq_empty_of_size_eq_zero; simp
              rw [e]
            · exact .slz _ (by simp) _
          · simp at h
        · rename_i k hk
          split at h
          · rename_i z hz
            split at h
            · rename_i hzl
              split at h
              · rename_i cells hfill
                cases hzz : zeroA P el with
                | none => simp [hzz] at hz
                | some zz =>
                  simp only [hzz, Option.bind_some] at hz
                  obtain ⟨zv, hzr, hzV⟩ := run_zero hzz w
                  have hzc : VC ⟨rows, m, w, X⟩ z zv.cells := (hzV ⟨rows, m, w, X⟩).cells hz (fun id off he => by
                    exfalso
                    subst he
                    have := (hzV ⟨[], fun _ => none, w, fun _ _ => False⟩)
                    generalize hq : AVal.ptr id off = q at this
                    cases this <;> simp_all)
                  have hrep : VC ⟨rows, m, w, X⟩ (repA z len) ((Array.range (len * size)).map (fun i => zv.cells[i % zv.cells.size]!)) := by
                    refine ⟨by simp [repA_length, hzl], fun i hi => ?_⟩
                    rw [repA_length] at hi
                    rw [repA_getD z len i hi]
                    have hzpos : 0 < z.length := by
                      rcases Nat.eq_zero_or_pos z.length with h0 | h0
                      · rw [h0] at hi; simp at hi
                      · exact h0
                    have hlt : i % z.length < z.length := Nat.mod_lt _ hzpos
                    have := hzc.2 _ hlt
                    have hi' : i < len * size := by rw [← hzl]; exact hi
                    have e1 : (((Array.range (len * size)).map (fun i => zv.cells[i % zv.cells.size]!)).getD i Go.undef) = zv.cells.getD (i % z.length) Go.undef := by
                      rw [hzc.1]
                      have hlt' : i % zv.cells.size < zv.cells.size := by rw [← hzc.1]; exact hlt
                      simp [Array.getD, hi', hlt']
                    rw [e1]; exact this
                  obtain ⟨c', hf1, hf2⟩ := fill_spec ps _ (repA z len) _ hparts.1 hparts.2 hrep hfill
                  have hrun : ∀ g : Addr → Sem Value, True := fun _ => trivial
                  have hne : ¬ (len * size = 0) := by rw [hk]; simp
                  have hpre : (Instr.buildSlice t len (parts.map fun p => (p.1, τ p.2))).run P w = .ok (.slice (some ⟨w.heap.size, 0, none⟩) len len) (w.alloc (.cells c' el)) := by
                    simp only [Instr.buildSlice, Sem.run_bind, run_underlying hu, Result.andThen_ok, run_sizeOf' hs]
                    rw [if_neg (by omega), if_neg hne]
                    simp only [Sem.run_bind, hzr, Result.andThen_ok, Sem.run_pure, Array.toList_map]
                    rw [hf1]
                    simp [newRow, newObj, Sem.run]
                  split at h
                  · rename_i hd
                    simp only [Option.some.injEq, Prod.mk.injEq] at h
                    obtain ⟨rfl, rfl⟩ := h
                    obtain ⟨k1, k2, k3⟩ := newSl hrel cells c' el (0, 0) len len (Nat.le_refl _) hd.1 (Nat.le_of_eq hf2.1) hf2.2
                    exact ⟨_, _, m, hpre, k1, k3, Nat.le_refl _, k2 _⟩
                  · rename_i hd
                    simp only [Option.some.injEq, Prod.mk.injEq] at h
                    obtain ⟨rfl, rfl⟩ := h
                    obtain ⟨w', m', k1, k2, k3, k4, rfl⟩ := newRow_spec (P := P) hrel hf2 size el
                    refine ⟨_, _, m', hpre, k2, ?_, by simp, k4⟩
                    have hcl : cells.length = len * size := by
                      have := hf2.1
                      have h2 : ∀ (ps : List (Nat × List AVal)) (l out : List AVal), fillA (fun i => some (i * size, size)) l ps = some out → out.length = l.length := by
                        intro ps
                        induction ps with
                        | nil => intro l out h; simp [fillA] at h; rw [h]
                        | cons p ps ih =>
                          intro l out h
                          obtain ⟨i, cs⟩ := p
                          simp only [fillA] at h
                          split at h
                          · rw [ih _ _ h, spliceA_length]
                          · simp at h
                      rw [h2 _ _ _ hfill, repA_length, hzl]
                    refine .rowF _ 0 len _ len ⟨cells, size, .fresh⟩ (by simp) rfl k3 (Nat.le_refl _) (by simp [hcl]) (fun i hi => ?_)
                    rw [Nat.zero_add, isSome_cell (alloc_new w _), ← hf2.1, hcl]; exact hi
              · simp at h
            · simp at h
          · simp at h
      · simp at h
    · simp at h
  · simp at h
end Go.Abs

set_option linter.unusedVariables false
set_option linter.unusedSimpArgs false
namespace Go.Abs
open Go

/-! ### handles -/
theorem V.sl_inv {E : Env} {cells : List AVal} {n : Nat} {k : SlK} {u : Value} (h : V E (.sl cells n k) u) :
    (u = .slice none 0 0 ∧ cells = [] ∧ n = 0 ∧ k ≠ .nn) ∨
    (∃ b o cap, ∃ vs : Nat → Value, u = .slice (some ⟨b, o, none⟩) n cap ∧ n ≤ cap ∧ (k = .cap0 → cap = 0) ∧ k ≠ .nil ∧ dataAll cells = true ∧ (∀ i, i < cells.length → V E (cells.getD i .undef) (vs i)) ∧
      ∀ i, i < cells.length → E.w.cell? ⟨b, o + i, none⟩ = some (vs i) ∧ Imm E b (o + i)) ∨
    (∃ a, u = .slice (some a) 0 0 ∧ cells = [] ∧ n = 0 ∧ k ≠ .nil) := by
  generalize hx : AVal.sl cells n k = x at h
  cases h <;> simp at hx
  · obtain ⟨rfl, rfl, rfl⟩ := hx; exact .inl ⟨rfl, rfl, rfl, by assumption⟩
  · rename_i hk a
    obtain ⟨rfl, rfl, rfl⟩ := hx
    exact .inr (.inr ⟨a, rfl, rfl, rfl, by assumption⟩)
  · rename_i b o cap vs hk hn hd hv hm
    obtain ⟨rfl, rfl, rfl⟩ := hx
    exact .inr (.inl ⟨b, o, cap, vs, rfl, hn, fun h => by subst h; simp at hk, by rcases hk with h | h <;> simp [h], hd, hv, hm⟩)

def segA (cells : List AVal) (off n : Nat) : List AVal := (List.range n).map fun j => cells.getD (off + j) .undef
theorem segA_length (cells : List AVal) (off n : Nat) : (segA cells off n).length = n := by simp [segA]
theorem segA_getD (cells : List AVal) (off n i : Nat) (h : i < n) : (segA cells off n).getD i .undef = cells.getD (off + i) .undef := by
  simp [segA, List.getD_eq_getElem?_getD, h]
theorem segA_data {cells : List AVal} {off n : Nat} (h : dataAll cells = true) (hl : off + n ≤ cells.length) : dataAll (segA cells off n) = true := by
  rw [dataAll_iff]
  intro i hi
  rw [segA_length] at hi
  rw [segA_getD _ _ _ _ hi]
  exact (dataAll_iff _).1 h _ (by omega)

/-! ### indexAddr -/
def asIntA : AVal → Option (IntKind × Int)
  | .sc (.int k n) => some (k, n)
  | _ => none
theorem asInt_spec {E : Env} {x : AVal} {v : Value} {k : IntKind} {n : Int} (h : asIntA x = some (k, n)) (hv : V E x v) : v = .int k n := by
  unfold asIntA at h
  split at h
  · simp at h; obtain ⟨rfl, rfl⟩ := h; exact hv.sc_inv
  · simp at h

def indexAddrA (P : Program) (t : TypeId) (x ix : AVal) (rows : List Row) : Option (Prop × AVal) :=
  match asIntA ix, P.underlying t with
  | some (_, i), some (.array len el) => match tyS P el, x with
    | some sz, .ptr id off => match rows[id]? with
      | some r => if r.st = .fresh then some (0 ≤ i ∧ i < len, .ptr id (off + i.toNat * sz)) else none
      | none => none
    | some sz, .dptr cs => some ((0 ≤ i ∧ i < len) ∧ i.toNat * sz + sz ≤ cs.length, .dptr (segA cs (i.toNat * sz) sz))
    | _, _ => none
  | some (_, i), some (.slice el) => match tyS P el, x with
    | some sz, .sl cells n _ => some ((0 ≤ i ∧ i < n) ∧ i.toNat * sz + sz ≤ cells.length, .dptr (segA cells (i.toNat * sz) sz))
    | some sz, .row id off n => match rows[id]? with
      | some r => match r.st with
        | .fresh => some ((0 ≤ i ∧ i < n) ∧ r.esz = sz, .ptr id (off + i.toNat * sz))
        | .grown | .frozen => some ((0 ≤ i ∧ i < n) ∧ r.esz = sz ∧ dataAll r.cells = true, .dptr (segA r.cells (off + i.toNat * sz) sz))
        | .map | .unborn | .dead => none
      | none => none
    | _, _ => none
  | _, _ => none

theorem indexAddr_spec {P : Program} {t : TypeId} {rows : List Row} {x ix r : AVal} {c : Prop} (h : indexAddrA P t x ix rows = some (c, r)) (hc : c) {X : Nat → Nat → Prop} {m : Nat → Option Nat} {w : World} {v u : Value}
    (hrel : Rel ⟨rows, m, w, X⟩) (hv : V ⟨rows, m, w, X⟩ x v) (hu : V ⟨rows, m, w, X⟩ ix u) : ∃ q, (Instr.indexAt t v u).run P w = .ok q w ∧ V ⟨rows, m, w, X⟩ r q := by
  unfold indexAddrA at h
  split at h
  · rename_i k i len el hi ht
    have hue := asInt_spec hi hu
    subst hue
    split at h
    · rename_i sz id off hsz
      split at h
      · rename_i row hrow
        split at h
        · rename_i hs
          simp only [Option.some.injEq, Prod.mk.injEq] at h
          obtain ⟨rfl, rfl⟩ := h
          obtain ⟨b, rfl, hm⟩ := hv.ptr_inv hrow hs
          refine ⟨.pointer (some ⟨b, off + i.toNat * sz, none⟩), ?_, .ptr id _ row b hrow hs hm⟩
          simp only [Instr.indexAt, asIntOf, Instr.sureAddr, Sem.run_bind, Sem.run_pure, Result.andThen_ok, run_underlying ht]
          rw [if_pos hc]
          simp only [Sem.run_bind, run_sizeOf' hsz, Result.andThen_ok, addr_add, Sem.run_pure]
        · simp at h
      · simp at h
    · rename_i sz cs hsz
      simp only [Option.some.injEq, Prod.mk.injEq] at h
      obtain ⟨rfl, rfl⟩ := h
      obtain ⟨hc1, hc2⟩ := hc
      obtain ⟨b, o, vs, rfl, hdd, hvv, hmm⟩ := hv.dptr_inv
      refine ⟨.pointer (some ⟨b, o + i.toNat * sz, none⟩), ?_, .dptr _ b (o + i.toNat * sz) (fun j => vs (i.toNat * sz + j)) (segA_data hdd hc2) (fun j hj => ?_) (fun j hj => ?_)⟩
      · simp only [Instr.indexAt, asIntOf, Instr.sureAddr, Sem.run_bind, Sem.run_pure, Result.andThen_ok, run_underlying ht]
        rw [if_pos hc1]
        simp only [Sem.run_bind, run_sizeOf' hsz, Result.andThen_ok, addr_add, Sem.run_pure]
      · rw [segA_length] at hj; rw [segA_getD _ _ _ _ hj]; exact hvv _ (by omega)
      · rw [segA_length] at hj; have := hmm (i.toNat * sz + j) (by omega); rwa [← Nat.add_assoc] at this
    · simp at h
  · rename_i k i el hi ht
    have hue := asInt_spec hi hu
    subst hue
    split at h
    · rename_i sz cells n k2 hsz
      simp only [Option.some.injEq, Prod.mk.injEq] at h
      obtain ⟨rfl, rfl⟩ := h
      obtain ⟨hc1, hc2⟩ := hc
      rcases hv.sl_inv with ⟨rfl, rfl, rfl, _⟩ | ⟨b, o, cap, vs, rfl, hn, _, _, hdd, hvv, hmm⟩ | ⟨a, rfl, rfl, rfl, _⟩
      rotate_left 2
      · exfalso; have := hc1.2; have := hc1.1; omega
      · exfalso; have := hc1.2; have := hc1.1; omega
      · refine ⟨.pointer (some ⟨b, o + i.toNat * sz, none⟩), ?_, .dptr _ b (o + i.toNat * sz) (fun j => vs (i.toNat * sz + j)) (segA_data hdd hc2) (fun j hj => ?_) (fun j hj => ?_)⟩
        · simp only [Instr.indexAt, asIntOf, Instr.sureAddr, Sem.run_bind, Sem.run_pure, Result.andThen_ok, run_underlying ht]
          rw [if_pos hc1]
          simp only [Sem.run_bind, run_sizeOf' hsz, Result.andThen_ok, addr_add, Sem.run_pure]
        · rw [segA_length] at hj; rw [segA_getD _ _ _ _ hj]; exact hvv _ (by omega)
        · rw [segA_length] at hj; have := hmm (i.toNat * sz + j) (by omega); rwa [← Nat.add_assoc] at this
    · rename_i sz id off n hsz
      split at h
      · rename_i row hrow
        generalize hx : AVal.row id off n = x at hv
        split at h
        · rename_i hst
          simp only [Option.some.injEq, Prod.mk.injEq] at h
          obtain ⟨rfl, rfl⟩ := h
          obtain ⟨hc1, hc2⟩ := hc
          cases hv <;> simp at hx
          · rename_i b cap r2 hr2 hs2 hm2 hn2 ho2 hcc2
            obtain ⟨rfl, rfl, rfl⟩ := hx
            refine ⟨.pointer (some ⟨b, off + i.toNat * sz, none⟩), ?_, .ptr id _ row b hrow hst hm2⟩
            simp only [Instr.indexAt, asIntOf, Instr.sureAddr, Sem.run_bind, Sem.run_pure, Result.andThen_ok, run_underlying ht]
            rw [if_pos hc1]
            simp only [Sem.run_bind, run_sizeOf' hsz, Result.andThen_ok, addr_add, Sem.run_pure]
          · obtain ⟨rfl, rfl, rfl⟩ := hx; exfalso; have := hc1.2; have := hc1.1; omega
          · rename_i b o cap r2 vs hr2 hs2 _ _ _ _ _ _
            obtain ⟨rfl, rfl, rfl⟩ := hx
            rw [hrow] at hr2; cases hr2; simp [hst] at hs2
          · rename_i r2 hr2 hs2 h02 hv2
            obtain ⟨rfl, rfl, rfl⟩ := hx
            rw [hrow] at hr2; cases hr2; simp [hst] at hs2
        all_goals try (simp at h; done)
        all_goals
          rename_i hst
          simp only [Option.some.injEq, Prod.mk.injEq] at h
          obtain ⟨rfl, rfl⟩ := h
          obtain ⟨hc1, hc2, hc3⟩ := hc
          cases hv <;> simp at hx
          · rename_i b cap r2 hr2 hs2 hm2 hn2 ho2 hcc2
            obtain ⟨rfl, rfl, rfl⟩ := hx
            rw [hrow] at hr2; cases hr2; simp [hst] at hs2
          · obtain ⟨rfl, rfl, rfl⟩ := hx; exfalso; have := hc1.2; have := hc1.1; omega
          · rename_i b o cap r2 vs hr2 hs2 hn2 ho2 hd2 hvv hmm he2
            obtain ⟨rfl, rfl, rfl⟩ := hx
            rw [hrow] at hr2; cases hr2
            subst hc2
            have hlt : i.toNat * row.esz + row.esz ≤ n * row.esz := by
              rw [← Nat.succ_mul]; exact Nat.mul_le_mul_right _ (by have := hc1.2; have := hc1.1; omega)
            refine ⟨.pointer (some ⟨b, o + i.toNat * row.esz, none⟩), ?_, .dptr _ b (o + i.toNat * row.esz) (fun j => vs (i.toNat * row.esz + j)) (segA_data hc3 (by omega)) (fun j hj => ?_) (fun j hj => ?_)⟩
            · simp only [Instr.indexAt, asIntOf, Instr.sureAddr, Sem.run_bind, Sem.run_pure, Result.andThen_ok, run_underlying ht]
              rw [if_pos hc1]
              simp only [Sem.run_bind, run_sizeOf' hsz, Result.andThen_ok, addr_add, Sem.run_pure]
            · rw [segA_length] at hj; rw [segA_getD _ _ _ _ hj, Nat.add_assoc]; exact hvv _ (by omega)
            · rw [segA_length] at hj; have := hmm (i.toNat * row.esz + j) (by omega); rwa [← Nat.add_assoc] at this
          · rename_i r2 hr2 hs2 h02 hv2
            obtain ⟨rfl, rfl, rfl⟩ := hx
            rw [hrow] at hr2; cases hr2; simp [hst] at hs2
      · simp at h
    · simp at h
  · simp at h

/-! ### fieldAddr, field, index -/
def fieldAddrA (P : Program) (s : TypeId) (x : AVal) (f : Nat) (rows : List Row) : Option (Prop × AVal) :=
  match P.underlying s with
  | some (.struct fields) => match fields[f]? with
    | some fl => match tyS P fl.type with
      | some (sz + 1) => match x with
        | .ptr id off => match rows[id]? with
          | some r => if r.st = .fresh then some (True, .ptr id (off + fl.offset)) else none
          | none => none
        | .dptr cs => some (fl.offset + (sz + 1) ≤ cs.length, .dptr (segA cs fl.offset (sz + 1)))
        | _ => none
      | _ => none
    | none => none
  | _ => none

theorem fieldAddr_spec {P : Program} {s : TypeId} {f : Nat} {rows : List Row} {x r : AVal} {c : Prop} (h : fieldAddrA P s x f rows = some (c, r)) (hc : c) {X : Nat → Nat → Prop} {m : Nat → Option Nat} {w : World} {v : Value}
    (hrel : Rel ⟨rows, m, w, X⟩) (hv : V ⟨rows, m, w, X⟩ x v) : ∃ q, (Instr.fieldAt s v f).run P w = .ok q w ∧ V ⟨rows, m, w, X⟩ r q := by
  unfold fieldAddrA at h
  split at h
  · rename_i fields hs
    split at h
    · rename_i fl hfl
      split at h
      · rename_i sz hsz
        have hrun : ∀ b o, (Instr.fieldAt s (.pointer (some ⟨b, o, none⟩)) f).run P w = .ok (.pointer (some ⟨b, o + fl.offset, none⟩)) w := by
          intro b o
          simp only [Instr.fieldAt, Sem.run_bind, run_underlying hs, Result.andThen_ok, hfl, Instr.sureAddr, Sem.run_pure, fieldPlace, run_sizeOf' hsz]
          rw [if_neg (by omega)]
          simp [addr_add]
        split at h
        · rename_i id off
          split at h
          · rename_i row hrow
            split at h
            · rename_i hst
              simp only [Option.some.injEq, Prod.mk.injEq] at h
              obtain ⟨rfl, rfl⟩ := h
              obtain ⟨b, rfl, hm⟩ := hv.ptr_inv hrow hst
              exact ⟨_, hrun b off, .ptr id _ row b hrow hst hm⟩
            · simp at h
          · simp at h
        · rename_i cs
          simp only [Option.some.injEq, Prod.mk.injEq] at h
          obtain ⟨rfl, rfl⟩ := h
          have hc' : fl.offset + (sz + 1) ≤ cs.length := hc
          obtain ⟨b, o, vs, rfl, hdd, hvv, hmm⟩ := hv.dptr_inv
          refine ⟨_, hrun b o, .dptr _ b (o + fl.offset) (fun j => vs (fl.offset + j)) (segA_data hdd hc') (fun j hj => ?_) (fun j hj => ?_)⟩
          · rw [segA_length] at hj; rw [segA_getD _ _ _ _ hj]; exact hvv _ (by omega)
          · rw [segA_length] at hj; have := hmm (fl.offset + j) (by omega); rwa [← Nat.add_assoc] at this
        · simp at h
      · simp at h
    · simp at h
  · simp at h

/-- A part of an aggregate. -/
def partA (P : Program) (t : TypeId) (cs : List AVal) (off : Nat) : Option (Prop × AVal) :=
  match P.underlying t, tyS P t with
  | some d, some n => if isAggD d then some (off + n ≤ cs.length, .agg (segA cs off n)) else some (off < cs.length, cs.getD off .undef)
  | _, _ => none
theorem part_spec {P : Program} {t : TypeId} {cs : List AVal} {off : Nat} {r : AVal} {c : Prop} (h : partA P t cs off = some (c, r)) (hc : c) {E : Env} {vs : List Value} (hl : cs.length = vs.length)
    (hv : ∀ i, i < cs.length → V E (cs.getD i .undef) (vs.getD i Go.undef)) (w : World) : ∃ q, (part t vs.toArray off).run P w = .ok q w ∧ V E r q := by
  unfold partA at h
  split at h
  · rename_i d n hd hn
    split at h
    · rename_i hagg
      simp only [Option.some.injEq, Prod.mk.injEq] at h
      obtain ⟨rfl, rfl⟩ := h
      have hc' : off + n ≤ cs.length := hc
      refine ⟨.agg (((vs.drop off).take n)).toArray, ?_, .agg _ _ (by simp [segA_length]; omega) (fun i hi => ?_)⟩
      · simp only [part, Sem.run_bind, run_isAgg' hd, Result.andThen_ok, hagg, if_true, run_sizeOf' hn, Sem.run_pure]
        congr 2
        apply Array.ext'
        simp [List.extract_eq_take_drop]
      · rw [segA_length] at hi
        rw [segA_getD _ _ _ _ hi]
        have := hv (off + i) (by omega)
        simpa [List.getD_eq_getElem?_getD, List.getElem?_take, hi] using this
    · rename_i hagg
      simp only [Option.some.injEq, Prod.mk.injEq] at h
      obtain ⟨rfl, rfl⟩ := h
      have hc' : off < cs.length := hc
      have hlt : off < vs.length := by omega
      refine ⟨vs[off], ?_, ?_⟩
      · simp [part, run_isAgg' hd, hagg, hlt]
      · have := hv off hc'
        simpa [List.getD_eq_getElem?_getD, hlt] using this
  · simp at h
def fieldA (P : Program) (t : TypeId) (x : AVal) (f : Nat) : Option (Prop × AVal) :=
  match P.underlying t, x with
  | some (.struct fields), .agg cs => match fields[f]? with
    | some fl => partA P fl.type cs fl.offset
    | none => none
  | _, _ => none
theorem field_spec {P : Program} {t : TypeId} {f : Nat} {x r : AVal} {c : Prop} (h : fieldA P t x f = some (c, r)) (hc : c) {E : Env} {v : Value} (hv : V E x v) (w : World) : ∃ q, (Instr.field t v f).run P w = .ok q w ∧ V E r q := by
  unfold fieldA at h
  split at h
  · rename_i fields cs ht
    split at h
    · rename_i fl hfl
      obtain ⟨vs, rfl, hl, hvv⟩ := hv.agg_inv
      obtain ⟨q, h1, h2⟩ := part_spec h hc hl hvv w
      refine ⟨q, ?_, h2⟩
      simp only [Instr.field, Sem.run_bind, run_underlying ht, Result.andThen_ok, hfl, asAgg, Sem.run_pure]
      exact h1
    · simp at h
  · simp at h
def indexA (P : Program) (t : TypeId) (x ix : AVal) : Option (Prop × AVal) :=
  match asIntA ix, P.underlying t, x with
  | some (_, i), some (.array len el), .agg cs => match tyS P el with
    | some sz => match partA P el cs (i.toNat * sz) with
      | some (c, r) => some ((0 ≤ i ∧ i < len) ∧ c, r)
      | none => none
    | none => none
  | some (_, i), some .string, .sc (.string s) => some (0 ≤ i ∧ i < s.size, .sc (.int .u8 (s.data.getD i.toNat 0).toNat))
  | _, _, _ => none
theorem index_spec {P : Program} {t : TypeId} {x ix r : AVal} {c : Prop} (h : indexA P t x ix = some (c, r)) (hc : c) {E : Env} {v u : Value} (hv : V E x v) (hu : V E ix u) (w : World) : ∃ q, (Instr.index t v u).run P w = .ok q w ∧ V E r q := by
  unfold indexA at h
  split at h
  · rename_i k i len el cs hi ht
    have hue := asInt_spec hi hu
    subst hue
    split at h
    · rename_i sz hsz
      split at h
      · rename_i c2 r2 hp
        simp only [Option.some.injEq, Prod.mk.injEq] at h
        obtain ⟨rfl, rfl⟩ := h
        obtain ⟨vs, rfl, hl, hvv⟩ := hv.agg_inv
        obtain ⟨q, h1, h2⟩ := part_spec hp hc.2 hl hvv w
        refine ⟨q, ?_, h2⟩
        simp only [Instr.index, asIntOf, Sem.run_bind, Sem.run_pure, Result.andThen_ok, run_underlying ht]
        rw [if_pos hc.1]
        simp only [Sem.run_bind, run_sizeOf' hsz, Result.andThen_ok]
        exact h1
      · simp at h
    · simp at h
  · rename_i k i s hi ht
    have hue := asInt_spec hi hu
    subst hue
    simp only [Option.some.injEq, Prod.mk.injEq] at h
    obtain ⟨rfl, rfl⟩ := h
    have := hv.sc_inv
    subst this
    obtain ⟨h0, h1⟩ := hc
    have hlt : i.toNat < s.size := by omega
    have hget : s[i.toNat]? = some (s.data.getD i.toNat 0) := by
      have hlt' : i.toNat < s.data.size := hlt
      simp [Array.getD, hlt', hlt]
      rfl
    refine ⟨_, ?_, .sc _ rfl⟩
    simp only [Instr.index, asIntOf, Sem.run_bind, Sem.run_pure, Result.andThen_ok, run_underlying ht]
    rw [if_pos h0, hget]
    rfl
  · simp at h
end Go.Abs

set_option linter.unusedVariables false
set_option linter.unusedSimpArgs false
namespace Go.Abs
open Go

/-! ### slices of slices -/
def optInt (ρ : Operand → AVal) : Option Operand → Option (Option Int)
  | none => some none
  | some x => match asIntA (ρ x) with
    | some (_, n) => some (some n)
    | none => none

theorem run_sliceBound {P : Program} {k : IntKind} {n : Int} {y : Nat} {code : BoundsCode} {w : World} (h : 0 ≤ n ∧ n ≤ y) : (Instr.sliceBound (.int k n) y code).run P w = .ok n.toNat w := by
  simp only [Instr.sliceBound, asIntOf, Sem.run_bind, Sem.run_pure, Result.andThen_ok]
  rw [if_pos h]; rfl

/-- The bounds, where they fit. -/
theorem run_sliceBounds {P : Program} {w : World} {b : Bool} {len cap : Nat} {ρ : Operand → AVal} {τ : Operand → Value} {E : Env} {lo hi mx : Option Operand} {l h : Option Int} {mm : Option Int}
    (hl : optInt ρ lo = some l) (hh : optInt ρ hi = some h) (hm : optInt ρ mx = some mm) (hv : ∀ x, (lo = some x ∨ hi = some x ∨ mx = some x) → V E (ρ x) (τ x))
    (hmh : mm.isSome = true → h.isSome = true)
    (hc : 0 ≤ l.getD 0 ∧ l.getD 0 ≤ h.getD len ∧ h.getD len ≤ mm.getD cap ∧ mm.getD cap ≤ cap) (hlen : len ≤ cap) :
    (Instr.sliceBounds b len cap (lo.map τ) (hi.map τ) (mx.map τ)).run P w = .ok ((l.getD 0).toNat, (h.getD len).toNat, (mm.getD cap).toNat) w := by
  have key : ∀ {o : Option Operand} {z : Option Int}, optInt ρ o = some z → (∀ x, o = some x → V E (ρ x) (τ x)) → (∃ k n, o.map τ = some (.int k n) ∧ z = some n) ∨ (o.map τ = none ∧ z = none) := by
    intro o z ho hv
    cases o with
    | none => simp [optInt] at ho; exact .inr ⟨rfl, ho.symm⟩
    | some x =>
      simp only [optInt] at ho
      split at ho
      · rename_i k n hk
        simp at ho
        exact .inl ⟨k, n, by simp [asInt_spec hk (hv x rfl)], ho.symm⟩
      · simp at ho
  obtain ⟨c1, c2, c3, c4⟩ := hc
  rcases key hm (fun x hx => hv x (by simp [hx])) with ⟨km, nm, em, rfl⟩ | ⟨em, rfl⟩ <;>
  rcases key hh (fun x hx => hv x (by simp [hx])) with ⟨kh, nh, eh, rfl⟩ | ⟨eh, rfl⟩ <;>
  rcases key hl (fun x hx => hv x (by simp [hx])) with ⟨kl, nl, el, rfl⟩ | ⟨el, rfl⟩ <;>
  simp only [Option.getD_some, Option.getD_none, Option.isSome_some, Option.isSome_none] at c1 c2 c3 c4 hmh ⊢ <;>
  (try (exfalso; simp at hmh; done)) <;>
  simp only [Instr.sliceBounds, em, eh, el, Sem.run_bind, Sem.run_pure, Result.andThen_ok, Option.isSome_some, Option.isSome_none, if_true]
  · rw [run_sliceBound (by omega)]; simp only [Result.andThen_ok]; rw [run_sliceBound (by omega)]; simp only [Result.andThen_ok]; rw [run_sliceBound (by omega)]; rfl
  · rw [run_sliceBound (by omega)]; simp only [Result.andThen_ok]; rw [run_sliceBound (by omega)]; rfl
  · rw [run_sliceBound (by omega)]; simp only [Result.andThen_ok]; rw [run_sliceBound (by omega)]; simp
  · rw [run_sliceBound (by omega)]; simp
  · rw [run_sliceBound (by omega)]; simp
  · simp

def zeroConst : Option Operand → Bool
  | some (.const (.int _ n)) => n == 0
  | _ => false

def sliceA (P : Program) (t : TypeId) (ρ : Operand → AVal) (x : AVal) (lo hi mx : Option Operand) (rows : List Row) : Option (Prop × AVal) :=
  match optInt ρ lo, optInt ρ hi, optInt ρ mx, P.underlying t with
  | some l, some h, some none, some .string => match x with
    | .sc (.string s) => some (0 ≤ l.getD 0 ∧ l.getD 0 ≤ h.getD s.size ∧ h.getD s.size ≤ s.size, .sc (.string (s.extract (l.getD 0).toNat (h.getD s.size).toNat)))
    | _ => none
  | some l, some h, some mm, some (.slice el) => match tyS P el, x with
    | some sz, .sl cells n k =>
      if mm.isSome = true ∧ h.isSome = false then none
      else if zeroConst mx = true then some (0 ≤ l.getD 0 ∧ l.getD 0 ≤ h.getD n ∧ h.getD n ≤ mm.getD n, .sl [] 0 .cap0)
      else some ((0 ≤ l.getD 0 ∧ l.getD 0 ≤ h.getD n ∧ h.getD n ≤ mm.getD n ∧ mm.getD n ≤ n) ∧ (h.getD n).toNat * sz ≤ cells.length,
        .sl ((cells.drop ((l.getD 0).toNat * sz)).take (((h.getD n).toNat - (l.getD 0).toNat) * sz)) ((h.getD n).toNat - (l.getD 0).toNat) .any)
    | some sz, .row id off n => match rows[id]? with
      | some r => if mm.isSome = true then none
        else if r.st = .fresh then some ((0 ≤ l.getD 0 ∧ l.getD 0 < n ∧ l.getD 0 ≤ h.getD n ∧ h.getD n ≤ n) ∧ r.esz = sz, .row id (off + (l.getD 0).toNat * sz) ((h.getD n).toNat - (l.getD 0).toNat)) else none
      | none => none
    | _, _ => none
  | some l, some h, some none, some (.array len el) => match tyS P el, x with
    | some sz, .ptr id off => match rows[id]? with
      | some r => if r.st = .fresh then some ((0 ≤ l.getD 0 ∧ l.getD 0 < len ∧ l.getD 0 ≤ h.getD len ∧ h.getD len ≤ len) ∧ r.esz = sz ∧ off + len * sz ≤ r.cells.length, .row id (off + (l.getD 0).toNat * sz) ((h.getD len).toNat - (l.getD 0).toNat)) else none
      | none => none
    | _, _ => none
  | _, _, _, _ => none

theorem optInt_none {ρ : Operand → AVal} {o : Option Operand} (h : optInt ρ o = some none) : o = none := by
  cases o with
  | none => rfl
  | some q => simp only [optInt] at h; split at h <;> simp at h

theorem slice_spec {P : Program} {t : TypeId} {ρ : Operand → AVal} {a : Act} {ox : Operand} {lo hi mx : Option Operand} {rows : List Row} {r : AVal} {c : Prop} (h : sliceA P t ρ (ρ ox) lo hi mx rows = some (c, r)) (hc : c)
    {X : Nat → Nat → Prop} {m : Nat → Option Nat} {w : World} (hrel : Rel ⟨rows, m, w, X⟩) (hx : V ⟨rows, m, w, X⟩ (ρ ox) (a.eval ox)) (hv : ∀ x, (lo = some x ∨ hi = some x ∨ mx = some x) → V ⟨rows, m, w, X⟩ (ρ x) (a.eval x)) :
    ∃ q, (Instr.sliceAt t (a.eval ox) (lo.map a.eval) (hi.map a.eval) (mx.map a.eval)).run P w = .ok q w ∧ V ⟨rows, m, w, X⟩ r q := by
  generalize a.eval ox = v at hx
  generalize ρ ox = x at h hx
  unfold sliceA at h
  split at h
  · -- string
    rename_i l hh hl hhh hm ht
    split at h
    · rename_i s
      simp only [Option.some.injEq, Prod.mk.injEq] at h
      obtain ⟨rfl, rfl⟩ := h
      have := hx.sc_inv
      subst this
      have hmn := optInt_none hm
      subst hmn
      refine ⟨_, ?_, .sc _ rfl⟩
      simp only [Instr.sliceAt, Sem.run_bind, run_underlying ht, Result.andThen_ok, Instr.slice, Option.map_none, Option.isSome_none, Bool.false_eq_true, if_false]
      have hb := run_sliceBounds (P := P) (w := w) (b := false) (len := s.size) (cap := s.size) (E := ⟨rows, m, w, X⟩) hl hhh hm hv (by simp) ⟨hc.1, hc.2.1, by simpa using hc.2.2, by simp⟩ (Nat.le_refl _)
      simp only [Option.map_none] at hb
      simp only [Sem.run_pure, Sem.run_bind, Result.andThen_ok, hb]
    · simp at h
  · -- slice
    rename_i l hh mm el hl hhh hm ht
    split at h
    · rename_i sz cells n k hsz
      split at h
      · simp at h
      · rename_i hmh
        have hmh' : mm.isSome = true → hh.isSome = true := fun h1 => by
          cases hhs : hh.isSome with
          | true => rfl
          | false => exact absurd ⟨h1, hhs⟩ hmh
        split at h
        · rename_i hz
          simp only [Option.some.injEq, Prod.mk.injEq] at h
          obtain ⟨rfl, rfl⟩ := h
          have hmm0 : mm = some 0 := by
            cases mx with
            | none => simp [zeroConst] at hz
            | some q =>
              cases q with
              | const u =>
                cases u <;> simp [zeroConst] at hz
                rename_i k0 n0
                subst hz
                have hvq := hv (.const (.int k0 0)) (by simp)
                simp only [optInt] at hm
                split at hm
                · rename_i k2 n2 hk2
                  simp at hm
                  have := asInt_spec hk2 hvq
                  simp [Act.eval] at this
                  rw [← hm, ← this.2]
                · simp at hm
              | _ => simp [zeroConst] at hz
          subst hmm0
          obtain ⟨c1, c2, c3⟩ := hc
          have hhn : ∃ h0, hh = some h0 := Option.isSome_iff_exists.1 (hmh' rfl)
          obtain ⟨h0, rfl⟩ := hhn
          simp only [Option.getD_some] at c2 c3
          have eh : h0 = 0 := by omega
          have el0 : l.getD 0 = 0 := by omega
          subst eh
          have hb : ∀ cap, n ≤ cap → (Instr.sliceBounds true n cap (lo.map a.eval) (hi.map a.eval) (mx.map a.eval)).run P w = .ok (0, 0, 0) w := by
            intro cap hcap
            have := run_sliceBounds (P := P) (w := w) (b := true) (len := n) (cap := cap) (E := ⟨rows, m, w, X⟩) hl hhh hm hv (by simp) (by simp; omega) hcap
            simpa [el0] using this
          rcases hx.sl_inv with ⟨rfl, rfl, rfl, _⟩ | ⟨b, o, cap, vs, rfl, hn, _, _, hdd, hvv, hmm⟩ | ⟨ad, rfl, rfl, rfl, _⟩
          · refine ⟨.slice none 0 0, ?_, .slnil _ (by simp)⟩
            simp only [Instr.sliceAt, Sem.run_bind, run_underlying ht, Result.andThen_ok, Instr.slice, hb 0 (Nat.le_refl _), run_sizeOf' hsz]
            simp
          · refine ⟨.slice (some ⟨b, o, none⟩) 0 0, ?_, .slz _ (by simp) _⟩
            simp only [Instr.sliceAt, Sem.run_bind, run_underlying ht, Result.andThen_ok, Instr.slice, hb cap hn, run_sizeOf' hsz]
            simp
          · refine ⟨.slice (some ad) 0 0, ?_, .slz _ (by simp) _⟩
            simp only [Instr.sliceAt, Sem.run_bind, run_underlying ht, Result.andThen_ok, Instr.slice, hb 0 (Nat.le_refl _), run_sizeOf' hsz]
            simp
        · simp only [Option.some.injEq, Prod.mk.injEq] at h
          obtain ⟨rfl, rfl⟩ := h
          obtain ⟨⟨c1, c2, c3, c4⟩, c5⟩ := hc
          rcases hx.sl_inv with ⟨rfl, rfl, rfl, _⟩ | ⟨b, o, cap, vs, rfl, hn, _, _, hdd, hvv, hmm⟩ | ⟨ad, rfl, rfl, rfl, _⟩
          rotate_left 2
          · have e1 : hh.getD (0 : Nat) = 0 := by omega
            have e2 : l.getD 0 = 0 := by omega
            have e3 : mm.getD (0 : Nat) = 0 := by omega
            refine ⟨.slice (some ad) 0 0, ?_, ?_⟩
            · have := run_sliceBounds (P := P) (w := w) (b := true) (len := 0) (cap := 0) (E := ⟨rows, m, w, X⟩) hl hhh hm hv hmh' (by simp at e1 e3 ⊢; omega) (Nat.le_refl _)
              simp only [e2, Int.toNat_zero] at this
              simp only [Instr.sliceAt, Sem.run_bind, run_underlying ht, Result.andThen_ok, Instr.slice, this, run_sizeOf' hsz]
              simp at e1 e3
              simp [e1, e3]
            · simp at e1
              simp [e1, e2]
              exact .slz _ (by simp) _
          · have e1 : hh.getD (0 : Nat) = 0 := by omega
            have e2 : l.getD 0 = 0 := by omega
            have e3 : mm.getD (0 : Nat) = 0 := by omega
            refine ⟨.slice none 0 0, ?_, ?_⟩
            · have := run_sliceBounds (P := P) (w := w) (b := true) (len := 0) (cap := 0) (E := ⟨rows, m, w, X⟩) hl hhh hm hv hmh' (by simp at e1 e3 ⊢; omega) (Nat.le_refl _)
              simp only [e2, Int.toNat_zero] at this
              simp only [Instr.sliceAt, Sem.run_bind, run_underlying ht, Result.andThen_ok, Instr.slice, this, run_sizeOf' hsz]
              simp at e1 e3
              simp [e1, e3]
            · simp at e1
              simp [e1, e2]
              exact .slnil _ (by simp)
          · have hmb : mm.getD cap ≤ cap ∧ hh.getD n ≤ mm.getD cap := by
              cases mm with
              | none => simp at c3 ⊢; omega
              | some q => simp at c3 c4 ⊢; omega
            have hb := run_sliceBounds (P := P) (w := w) (b := true) (len := n) (cap := cap) (E := ⟨rows, m, w, X⟩) hl hhh hm hv hmh' ⟨c1, c2, hmb.2, hmb.1⟩ hn
            generalize hL : (l.getD 0).toNat = L at *
            generalize hH : (hh.getD (n : Int)).toNat = H at *
            generalize hM : (mm.getD (cap : Int)).toNat = M at *
            have hLH : L ≤ H := by omega
            have hHM : H ≤ M := by omega
            have hHn : H ≤ n := by omega
            have hlen : ((cells.drop (L * sz)).take ((H - L) * sz)).length = (H - L) * sz := by
              have : L * sz + (H - L) * sz = H * sz := by rw [← Nat.add_mul]; congr 1; omega
              simp; omega
            refine ⟨.slice (some (if M = L then ⟨b, o, none⟩ else ⟨b, o + L * sz, none⟩)) (H - L) (M - L), ?_, ?_⟩
            · simp only [Instr.sliceAt, Sem.run_bind, run_underlying ht, Result.andThen_ok, Instr.slice, hb, run_sizeOf' hsz, Sem.run_pure]
              congr 1
              split <;> simp [addr_add]
            · by_cases hML : M = L
              · rw [if_pos hML]
                have h0 : H - L = 0 := by omega
                rw [h0]
                simp only [Nat.zero_mul, List.take_zero]
                exact .sl [] 0 .any b o (M - L) (fun _ => Go.undef) (.inl rfl) (by omega) rfl (fun i hi => by simp at hi) (fun i hi => by simp at hi)
              · rw [if_neg hML]
                have hget : ∀ i, i < (H - L) * sz → ((cells.drop (L * sz)).take ((H - L) * sz)).getD i .undef = cells.getD (L * sz + i) .undef := by
                  intro i hi
                  simp [List.getD_eq_getElem?_getD, List.getElem?_take, hi]
                have hbnd : ∀ i, i < (H - L) * sz → L * sz + i < cells.length := by
                  intro i hi
                  have : L * sz + (H - L) * sz = H * sz := by rw [← Nat.add_mul]; congr 1; omega
                  omega
                refine .sl _ _ .any b (o + L * sz) (M - L) (fun i => vs (L * sz + i)) (.inl rfl) (by omega) ?_ (fun i hi => ?_) (fun i hi => ?_)
                · rw [dataAll_iff]; intro i hi; rw [hlen] at hi; rw [hget i hi]; exact (dataAll_iff _).1 hdd _ (hbnd i hi)
                · rw [hlen] at hi; rw [hget i hi]; exact hvv _ (hbnd i hi)
                · rw [hlen] at hi; have := hmm _ (hbnd i hi); rwa [← Nat.add_assoc] at this
    · rename_i sz id off n hsz
      split at h
      · rename_i row hrow
        split at h
        · simp at h
        · rename_i hmm
          have hmmn : mm = none := by cases mm with | none => rfl | some q => simp at hmm
          subst hmmn
          have hmn := optInt_none hm
          subst hmn
          split at h
          · rename_i hst
            simp only [Option.some.injEq, Prod.mk.injEq] at h
            obtain ⟨rfl, rfl⟩ := h
            obtain ⟨⟨c1, c2, c3, c4⟩, c5⟩ := hc
            subst c5
            generalize hxx : AVal.row id off n = y at hx
            cases hx <;> simp at hxx
            · rename_i b cap r2 hr2 hs2 hm2 hn2 ho2 hcc2
              obtain ⟨rfl, rfl, rfl⟩ := hxx
              rw [hrow] at hr2; cases hr2
              have hb := run_sliceBounds (P := P) (w := w) (b := true) (len := n) (cap := cap) (E := ⟨rows, m, w, X⟩) hl hhh hm hv (by simp) ⟨c1, c3, by simp; omega, by simp⟩ hn2
              simp only [Option.getD_none, Int.toNat_natCast, Option.map_none] at hb
              generalize hL : (l.getD 0).toNat = L at *
              generalize hH : (hh.getD (n : Int)).toNat = H at *
              have hLc : cap ≠ L := by omega
              refine ⟨.slice (some ⟨b, off + L * row.esz, none⟩) (H - L) (cap - L), ?_, .rowF id _ _ b _ row hrow hst hm2 (by omega) ?_ ?_⟩
              · simp only [Instr.sliceAt, Sem.run_bind, run_underlying ht, Result.andThen_ok, Instr.slice, Option.map_none, hb, run_sizeOf' hsz, Sem.run_pure]
                rw [if_neg hLc]
                simp [addr_add]
              · have : L * row.esz + (H - L) * row.esz = H * row.esz := by rw [← Nat.add_mul]; congr 1; omega
                have : H * row.esz ≤ n * row.esz := Nat.mul_le_mul_right _ (by omega)
                omega
              · intro i hi
                have h1 : L * row.esz + (cap - L) * row.esz = cap * row.esz := by rw [← Nat.add_mul]; congr 1; omega
                have := hcc2 (L * row.esz + i) (by omega)
                rwa [← Nat.add_assoc] at this
            · obtain ⟨rfl, rfl, rfl⟩ := hxx; exfalso; omega
            · rename_i b o cap r2 vs hr2 hs2 _ _ _ _ _ _
              obtain ⟨rfl, rfl, rfl⟩ := hxx
              rw [hrow] at hr2; cases hr2; simp [hst] at hs2
            · rename_i r2 hr2 hs2 h02 hv2
              obtain ⟨rfl, rfl, rfl⟩ := hxx
              rw [hrow] at hr2; cases hr2; simp [hst] at hs2
          · simp at h
      · simp at h
    · simp at h
  · -- a pointer to an array
    rename_i l hh len el hl hhh hm ht
    split at h
    · rename_i sz id off hsz
      split at h
      · rename_i row hrow
        split at h
        · rename_i hst
          simp only [Option.some.injEq, Prod.mk.injEq] at h
          obtain ⟨rfl, rfl⟩ := h
          obtain ⟨⟨c1, c2, c3, c4⟩, c5, c6⟩ := hc
          subst c5
          have hmn := optInt_none hm
          subst hmn
          obtain ⟨b, rfl, hm2⟩ := hx.ptr_inv hrow hst
          obtain ⟨cc, e, hb2, hbl, hbv⟩ := hrel.block hrow (.inl hst) hm2
          have hb := run_sliceBounds (P := P) (w := w) (b := false) (len := len) (cap := len) (E := ⟨rows, m, w, X⟩) hl hhh hm hv (by simp) ⟨c1, c3, by simpa using c4, by simp⟩ (Nat.le_refl _)
          simp only [Option.getD_none, Int.toNat_natCast, Option.map_none] at hb
          generalize hL : (l.getD 0).toNat = L at *
          generalize hH : (hh.getD (len : Int)).toNat = H at *
          have hLc : len ≠ L := by omega
          have h1 : L * row.esz + (len - L) * row.esz = len * row.esz := by rw [← Nat.add_mul]; congr 1; omega
          refine ⟨.slice (some ⟨b, off + L * row.esz, none⟩) (H - L) (len - L), ?_, .rowF id _ _ b _ row hrow hst hm2 (by omega) ?_ ?_⟩
          · simp only [Instr.sliceAt, Sem.run_bind, run_underlying ht, Result.andThen_ok, Instr.sureAddr, Option.map_none, hb, run_sizeOf' hsz, Sem.run_pure]
            rw [if_neg hLc]
            simp [addr_add]
          · have : (H - L) * row.esz ≤ (len - L) * row.esz := Nat.mul_le_mul_right _ (by omega)
            omega
          · intro i hi
            rw [isSome_cell hb2]; omega
        · simp at h
      · simp at h
    · simp at h
  · simp at h
end Go.Abs

set_option linter.unusedVariables false
set_option linter.unusedSimpArgs false
namespace Go.Abs
open Go

/-- A row without a block gets one, or is only said to grow. -/
theorem virt_step {E : Env} (hE : Rel E) {id : Nat} {r r' : Row} (hr : E.rows[id]? = some r) (hs : r.st = .fresh ∨ r.st = .grown) (hm : E.m id = none) (hc : r.cells = []) (he : r'.esz = r.esz) (hs' : r'.st = .grown) (hd : dataAll r'.cells = true)
    {w' : World} {mb : Option Nat} {c' : Array Value} {e' : TypeId} (hw : (mb = none ∧ w' = E.w ∧ r'.cells = []) ∨ (mb = some E.w.heap.size ∧ w' = E.w.alloc (.cells c' e') ∧ r'.cells ≠ [] ∧ r'.cells.length ≤ c'.size ∧ ∀ j, j < r'.cells.length → V E (r'.cells.getD j .undef) (c'.getD j Go.undef))) :
    let E' : Env := ⟨E.rows.set id r', fun i => if i = id then mb else E.m i, w', E.x⟩
    Rel E' ∧ Evo E.rows.length E E' := by
  intro E'
  have hnf : r.st ≠ .frozen := by rcases hs with h | h <;> simp [h]
  have hmid : E'.m id = mb := by show (if _ then _ else _) = _; rw [if_pos rfl]
  have hmo : ∀ {i : Nat}, i ≠ id → E'.m i = E.m i := fun h => by show (if _ then _ else _) = _; rw [if_neg h]
  have hsz : E.w.heap.size ≤ E'.w.heap.size := by
    show _ ≤ w'.heap.size
    rcases hw with ⟨_, h, _⟩ | ⟨_, h, _⟩ <;> rw [h] <;> simp
  have hheap : ∀ {k : Nat}, k < E.w.heap.size → E'.w.heap[k]? = E.w.heap[k]? := by
    intro k hk
    show w'.heap[k]? = _
    rcases hw with ⟨_, h, _⟩ | ⟨_, h, _⟩
    · rw [h]
    · rw [h]; exact alloc_old hk
  have hmb : ∀ b, mb = some b → b = E.w.heap.size := by
    intro b hb
    rcases hw with ⟨h, _⟩ | ⟨h, _⟩
    · rw [h] at hb; simp at hb
    · rw [h] at hb; simpa using hb.symm
  have hI : ∀ b o v, Imm E b o → E.w.cell? ⟨b, o, none⟩ = some v → Imm E' b o ∧ E'.w.cell? ⟨b, o, none⟩ = some v := by
    intro b o v h hcc
    refine ⟨⟨Nat.lt_of_lt_of_le h.1 hsz, h.2.1, fun i s hs1 hns hmi => ?_⟩, by rw [cell_congr (hheap h.1)]; exact hcc⟩
    rcases get_set_cases hs1 with ⟨h1, h2, _⟩ | ⟨h1, h2⟩
    · subst h1; rw [hmid] at hmi; have := hmb b hmi; have := h.1; omega
    · rw [hmo h1] at hmi; exact h.2.2 i s h2 hns hmi
  have hV : ∀ x v, V E x v → V E' x v := fun x v h => by
    refine V.mono (N := E.rows.length) hI (fun i s _ hs1 => ?_) h h.refLt
    by_cases hi : i = id
    · subst hi
      rw [hr] at hs1; cases hs1
      refine ⟨r', get_set_same hr, ?_⟩
      have hg : r'.st = .grown → r'.cells.length = r.cells.length → E'.m i = E.m i ∧ ∀ b o, E.m i = some b → (E.w.cell? ⟨b, o, none⟩).isSome = true → (E'.w.cell? ⟨b, o, none⟩).isSome = true := by
        intro _ hlen
        rcases hw with ⟨h1, _⟩ | ⟨h1, _, h3, _⟩
        · exact ⟨by rw [hmid, h1, hm], fun b o hb => by rw [hm] at hb; simp at hb⟩
        · rw [hc] at hlen; exact absurd (List.eq_nil_of_length_eq_zero hlen) h3
      rcases hs with h1 | h1
      · exact .left h1 (.inl hs') he (by rw [hc]; simp) (fun b hb => by rw [hm] at hb; simp at hb) hg
      · exact .grown h1 (.inl hs') he ⟨r'.cells, by simp [hc]⟩ hg
    · refine ⟨s, by rw [get_set_other hi]; exact hs1, RowEvo.keep (hmo hi) ?_⟩
      intro hst b o hb ho
      rw [cell_congr (hheap (hE.lt hs1 (by rcases hst with h | h <;> simp [h]) hb))]; exact ho
  refine ⟨⟨fun b o h => Nat.lt_of_lt_of_le (hE.xlt b o h) hsz, ?_, ?_, ?_, ?_, ?_⟩, ⟨fun x v h _ => hV x v h, hsz, ?_, ?_, ?_, ?_, hI⟩⟩
  · intro i s b h1 hns hmi o hx
    rcases get_set_cases h1 with ⟨a1, a2, _⟩ | ⟨a1, a2⟩
    · rw [a1, hmid] at hmi; have := hmb b hmi; have := hE.xlt b o hx; omega
    · rw [hmo a1] at hmi; exact hE.xr i s b a2 hns hmi o hx
  · intro i j s t b h1 h2 hn1 hn2 hi hj
    rcases get_set_cases h1 with ⟨a1, a2, _⟩ | ⟨a1, a2⟩ <;> rcases get_set_cases h2 with ⟨d1, d2, _⟩ | ⟨d1, d2⟩
    · omega
    · rw [hmo d1] at hj; rw [a1, hmid] at hi; have := hmb b hi; have := hE.lt d2 hn2 hj; omega
    · rw [hmo a1] at hi; rw [d1, hmid] at hj; have := hmb b hj; have := hE.lt a2 hn1 hi; omega
    · rw [hmo a1] at hi; rw [hmo d1] at hj; exact hE.inj i j s t b a2 d2 hn1 hn2 hi hj
  · intro i s h1 hns hnm
    rcases get_set_cases h1 with ⟨a1, a2, _⟩ | ⟨a1, a2⟩
    · subst a1; subst a2
      rcases hw with ⟨h1, _, h3⟩ | ⟨h1, h2, h3, h4, h5⟩
      · exact .inl ⟨hmid.trans h1, h3⟩
      · exact .inr ⟨_, c', e', hmid.trans h1, by show w'.heap[_]? = _; rw [h2]; exact alloc_new _ _, h4, fun j hj => hV _ _ (h5 j hj)⟩
    · rcases hE.own i s a2 hns hnm with h | ⟨b1, c1, e1, h1, h2, h3, h4⟩
      · exact .inl ⟨(hmo a1).trans h.1, h.2⟩
      · exact .inr ⟨b1, c1, e1, (hmo a1).trans h1, (hheap (lt_of_heap h2)).trans h2, h3, fun j hj => hV _ _ (h4 j hj)⟩
  · intro i s h1 hgr
    rcases get_set_cases h1 with ⟨a1, a2, _⟩ | ⟨a1, a2⟩
    · subst a2; exact hd
    · exact hE.grown i s a2 hgr
  · intro i s h1 hmp
    rcases get_set_cases h1 with ⟨a1, a2, _⟩ | ⟨a1, a2⟩
    · subst a2; simp [hs'] at hmp
    · obtain ⟨b1, es, k, h1, h2, h3, h4⟩ := hE.map i s a2 hmp
      exact ⟨b1, es, k, (hmo a1).trans h1, (hheap (lt_of_heap h2)).trans h2, h3, fun j hj => ⟨hV _ _ (h4 j hj).1, hV _ _ (h4 j hj).2⟩⟩
  · intro b1 hb1 hfree
    refine ⟨hheap hb1, fun i s h1 hns hmi => ?_⟩
    rcases get_set_cases h1 with ⟨a1, a2, _⟩ | ⟨a1, a2⟩
    · subst a1; rw [hmid] at hmi; have := hmb b1 hmi; omega
    · rw [hmo a1] at hmi; exact hfree i s a2 hns hmi
  all_goals (show _ = _; rcases hw with ⟨_, h, _⟩ | ⟨_, h, _⟩ <;> (rw [show E'.w = w' from rfl, h]) <;> rfl)

/-! ### append -/
def byteV (b : UInt8) : AVal := .sc (.int .u8 b.toNat)
theorem bytes_getD (d : Array UInt8) (i : Nat) (h : i < d.size) : (d.toList.map byteV).getD i .undef = .sc (.int .u8 (d[i]).toNat) ∧ (d.map (fun b => Value.int .u8 b.toNat)).getD i Go.undef = .int .u8 (d[i]).toNat := by
  simp [List.getD_eq_getElem?_getD, Array.getD, h, byteV]
/-- What is appended: its cells, and how many elements. -/
def srcA (t : TypeId) (P : Program) (sz : Nat) (rows : List Row) (x : AVal) : Option (Prop × List AVal × Nat) :=
  match P.underlying t, x with
  | some (.slice _), .sl cells n _ => some (cells.length = n * sz, cells, n)
  | some (.slice _), .row id off n => match rows[id]? with
    | some r => match r.st with
      | .map | .unborn | .dead => none
      | _ => some (r.esz = sz ∧ off + n * sz ≤ r.cells.length, (r.cells.drop off).take (n * sz), n)
    | none => none
  | some .string, .sc (.string s) => if sz = 1 then some (True, s.data.toList.map byteV, s.size) else none
  | _, _ => none

theorem src_spec {P : Program} {t : TypeId} {sz k : Nat} {rows : List Row} {x : AVal} {xs : List AVal} {c : Prop} (h : srcA t P sz rows x = some (c, xs, k)) (hc : c) {X : Nat → Nat → Prop} {m : Nat → Option Nat} {w : World} {v : Value}
    (hrel : Rel ⟨rows, m, w, X⟩) (hv : V ⟨rows, m, w, X⟩ x v) :
    (∃ d, P.underlying t = some d ∧ (d matches .int _) = false) ∧ (Builtin.lenOf v).run P w = .ok k w ∧ xs.length = k * sz ∧ ∃ cc : Array Value, (Builtin.firstCells sz k v).run P w = .ok cc w ∧ VC ⟨rows, m, w, X⟩ xs cc := by
  have fromCells : ∀ (b o cap n : Nat) (vs : Nat → Value), xs.length = n * sz → (∀ i, i < xs.length → V ⟨rows, m, w, X⟩ (xs.getD i .undef) (vs i)) → (∀ i, i < xs.length → w.cell? ⟨b, o + i, none⟩ = some (vs i)) →
      ∃ cc : Array Value, (Builtin.firstCells sz n (.slice (some ⟨b, o, none⟩) n cap)).run P w = .ok cc w ∧ VC ⟨rows, m, w, X⟩ xs cc := by
    intro b o cap n vs hl hvv hcc
    refine ⟨((List.range (n * sz)).map vs).toArray, ?_, ⟨by simp [hl], fun i hi => ?_⟩⟩
    · simp only [Builtin.firstCells]
      exact run_loadCells w ⟨b, o, none⟩ (n * sz) vs (fun j hj => by rw [addr_add]; exact hcc j (by omega))
    · have : i < n * sz := by omega
      have h2 := hvv i hi
      simpa [Array.getD, this] using h2
  unfold srcA at h
  split at h
  · rename_i el cells n kk ht
    simp only [Option.some.injEq, Prod.mk.injEq] at h
    obtain ⟨rfl, rfl, rfl⟩ := h
    have hl : cells.length = n * sz := hc
    refine ⟨⟨_, ht, rfl⟩, ?_, hl, ?_⟩
    · rcases hv.sl_inv with ⟨rfl, rfl, rfl, _⟩ | ⟨b, o, cap, vs, rfl, _⟩ | ⟨ad, rfl, rfl, rfl, _⟩ <;> rfl
    · rcases hv.sl_inv with ⟨rfl, rfl, rfl, _⟩ | ⟨b, o, cap, vs, rfl, hn, _, _, hdd, hvv, hmm⟩ | ⟨ad, rfl, rfl, rfl, _⟩
      · exact ⟨#[], rfl, ⟨rfl, fun i hi => by simp at hi⟩⟩
      · exact fromCells b o cap n vs hl hvv (fun i hi => (hmm i hi).1)
      · refine ⟨#[], ?_, ⟨rfl, fun i hi => by simp at hi⟩⟩
        simp only [Builtin.firstCells, Nat.zero_mul]
        exact run_loadCells w ad 0 (fun _ => Go.undef) (fun j hj => by omega)
  · rename_i el id off n ht
    split at h
    · rename_i r hr
      generalize hxx : AVal.row id off n = y at hv
      have hnd : r.st ≠ .dead := fun hst => by simp [hst] at h
      have hmain : some (r.esz = sz ∧ off + n * sz ≤ r.cells.length, (r.cells.drop off).take (n * sz), n) = some (c, xs, k) := by
        cases hst : r.st <;> simp only [hst] at h <;> first | exact h | simp at h
      simp only [Option.some.injEq, Prod.mk.injEq] at hmain
      obtain ⟨rfl, rfl, rfl⟩ := hmain
      obtain ⟨c1, c2⟩ := hc
      subst c1
      have hl : ((r.cells.drop off).take (n * r.esz)).length = n * r.esz := by simp; omega
      have hget : ∀ i, i < n * r.esz → ((r.cells.drop off).take (n * r.esz)).getD i .undef = r.cells.getD (off + i) .undef := by
        intro i hi; simp [List.getD_eq_getElem?_getD, List.getElem?_take, hi]
      refine ⟨⟨_, ht, rfl⟩, ?_, hl, ?_⟩
      · cases hv <;> simp at hxx <;> obtain ⟨rfl, rfl, rfl⟩ := hxx <;> first | rfl | (rename_i r2 hs2 h02 hr2 hv2; have e2 := hr.symm.trans hr2; cases e2; exact absurd hs2 hnd) | (rename_i r2 hr2 hs2 h02 hv2; have e2 := hr.symm.trans hr2; cases e2; exact absurd hs2 hnd)
      · cases hv <;> simp at hxx
        · rename_i b cap r2 hr2 hs2 hm2 hn2 ho2 hcc2
          obtain ⟨rfl, rfl, rfl⟩ := hxx
          rw [hr] at hr2; cases hr2
          obtain ⟨cc, e, hb, hbl, hbv⟩ := hrel.block hr (.inl hs2) hm2
          refine fromCells b off cap n (fun i => cc.getD (off + i) Go.undef) hl (fun i hi => ?_) (fun i hi => ?_)
          · rw [hl] at hi; rw [hget i hi]; exact hbv _ (by omega)
          · rw [hl] at hi; exact cell_getD hb (by omega)
        · rename_i r2 base hr2 hs2
          obtain ⟨rfl, rfl, rfl⟩ := hxx
          refine ⟨#[], ?_, ⟨by simp, fun i hi => by simp at hi⟩⟩
          cases base with
          | none => rfl
          | some p =>
            simp only [Option.map_some, Builtin.firstCells, Nat.zero_mul]
            exact run_loadCells w p 0 (fun _ => Go.undef) (fun j hj => by omega)
        · rename_i b o cap r2 vs hr2 hs2 hn2 ho2 hd2 hvv hmm he2
          obtain ⟨rfl, rfl, rfl⟩ := hxx
          rw [hr] at hr2; cases hr2
          refine fromCells b o cap n vs hl (fun i hi => ?_) (fun i hi => ?_)
          · rw [hl] at hi; rw [hget i hi]; exact hvv i hi
          · rw [hl] at hi; exact (hmm i hi).1
        · rename_i r2 hr2 hs2 h02 hv2
          obtain ⟨rfl, rfl, rfl⟩ := hxx
          rw [hr] at hr2; cases hr2; exact absurd hs2 hnd
    · simp at h
  · rename_i s ht
    split at h
    · rename_i hsz
      subst hsz
      simp only [Option.some.injEq, Prod.mk.injEq] at h
      obtain ⟨rfl, rfl, rfl⟩ := h
      have := hv.sc_inv
      subst this
      refine ⟨⟨_, ht, rfl⟩, rfl, by rw [List.length_map, Nat.mul_one]; rfl, s.data.map (fun b => .int .u8 b.toNat), ?_, ⟨by simp, fun i hi => ?_⟩⟩
      · simp only [Builtin.firstCells, Sem.run_pure]
        have : (s.extract 0 s.size).data = s.data := by
          rw [ByteArray.data_extract]; exact Array.extract_size
        rw [this]
      · have hi' : i < s.data.size := by simpa using hi
        obtain ⟨e1, e2⟩ := bytes_getD s.data i hi'
        rw [e1, e2]
        exact .sc _ rfl
    · simp at h
  · simp at h
end Go.Abs

set_option linter.unusedVariables false
set_option linter.unusedSimpArgs false
namespace Go.Abs
open Go

theorem growBy_le (n : Nat) : ∀ (r c : Nat), Builtin.growBy n r c ≤ 4 ^ r * (c + 1024) := by
  intro r
  induction r with
  | zero => intro c; simp [Builtin.growBy]
  | succ r ih =>
    intro c
    simp only [Builtin.growBy]
    split
    · have : 1 ≤ 4 ^ (r + 1) := Nat.one_le_pow _ _ (by omega)
      calc c ≤ 1 * (c + 1024) := by omega
        _ ≤ 4 ^ (r + 1) * (c + 1024) := Nat.mul_le_mul_right _ this
    · refine Nat.le_trans (ih _) ?_
      rw [Nat.pow_succ, Nat.mul_assoc]
      exact Nat.mul_le_mul_left _ (by omega)
theorem growBy_le4 (n c : Nat) : Builtin.growBy n 4 c ≤ 256 * (c + 1024) := by
  have h := growBy_le n 4 c
  have e : (4 : Nat) ^ 4 = 256 := by decide
  rw [e] at h
  exact h
theorem nextslicecap_le {need cap : Nat} (h : cap < need) (hn : need ≤ 1073741824) : Builtin.nextslicecap need cap ≤ 274878169088 := by
  unfold Builtin.nextslicecap
  split
  · omega
  · split
    · omega
    · have h2 : cap + 1024 ≤ 1073742848 := by omega
      exact Nat.le_trans (growBy_le4 need cap) (Nat.mul_le_mul_left 256 h2)

/-- An append of what fits in no room: a new block. -/
theorem run_append_new {P : Program} {st xt el : TypeId} {k sLen sCap : Nat} {w : World} {base : Option Addr} {x zv : Value} {old new : Array Value} {inf : TypeInfo} {ts : Array TypeId} {ty : TypeId} {d : TypeDesc}
    (hs : P.underlying st = some (.slice el)) (hi : P.info? el = some inf) (hz : inf.zero = some zv) (ht0 : ts[0]? = some st) (ht1 : ts[1]? = some xt) (hd : P.underlying xt = some d) (hdi : (∃ e', d = .slice e') ∨ d = .string)
    (hk : (Builtin.lenOf x).run P w = .ok k w) (hneed : sCap < sLen + k) (hbound : sLen + k ≤ 1073741824 ∧ inf.bytes ≤ 1000) (hb0 : inf.bytes ≠ 0)
    (hold : (Builtin.firstCells inf.size sLen (.slice base sLen sCap)).run P { w with drawn := w.drawn + 1 } = .ok old { w with drawn := w.drawn + 1 }) (hnew : (Builtin.firstCells inf.size k x).run P { w with drawn := w.drawn + 1 } = .ok new { w with drawn := w.drawn + 1 }) :
    ∃ cap, ∃ rest : Array Value, sLen + k ≤ cap ∧ (Builtin.append_ ts ty #[.slice base sLen sCap, x]).run P w = .ok (.slice (some ⟨w.heap.size, 0, none⟩) (sLen + k) cap) (({ w with drawn := w.drawn + 1 } : World).alloc (.cells (old ++ new ++ rest) el)) ∧
      rest.size = (cap - (sLen + k)) * zv.cells.size := by
  have hsize : ∀ w' : World, (sizeOf el).run P w' = .ok inf.size w' := fun w' => by rw [run_sizeOf w' hi]; simp [Program.cellsOf, hi]
  have hty : ∀ w' : World, (typeInfo el).run P w' = .ok inf w' := fun w' => run_typeInfo w' hi
  have hzr : ∀ w' : World, (zeroValue el).run P w' = .ok zv w' := fun w' => by simp [zeroValue, hty, hz]
  let cap := (Question.appendCap (sLen + k) sCap el).cut (w.tape w.drawn (.appendCap (sLen + k) sCap el))
  have hcap : sLen + k ≤ cap := by show _ ≤ _ + _; omega
  refine ⟨cap, Builtin.zeroCells zv.cells (cap - (sLen + k)), hcap, ?_, by simp [Builtin.zeroCells]⟩
  have hg := nextslicecap_le hneed hbound.1
  have hg2 : ¬ (Builtin.nextslicecap (sLen + k) sCap * inf.bytes > 2 ^ 48) := by
    have : Builtin.nextslicecap (sLen + k) sCap * inf.bytes ≤ 274878169088 * 1000 := Nat.mul_le_mul hg hbound.2
    have : (2 : Nat) ^ 48 = 281474976710656 := by decide
    omega
  have hg3 : ¬ (((sLen + k : Nat) : Int) > IntKind.i64.max ∧ ((False : Prop) ∨ inf.bytes = 0)) := by
    rintro ⟨_, h | h⟩
    · exact h
    · exact hb0 h
  have hforced : (Question.appendCap (sLen + k) sCap el).forced = false := rfl
  have hfc : ∀ w' : World, (choose (.appendCap (sLen + k) sCap el)).run P w' = .ok ((Question.appendCap (sLen + k) sCap el).cut (w'.tape w'.drawn (.appendCap (sLen + k) sCap el))) { w' with drawn := w'.drawn + 1 } := fun w' => by
    rw [run_choose, hforced]; rfl
  rcases hdi with ⟨e', rfl⟩ | rfl
  all_goals
    simp only [Builtin.append_, List.getElem?_toArray, List.getElem?_cons_zero, List.getElem?_cons_succ, ht0, ht1, Sem.run_bind, run_underlying hs, Result.andThen_ok, hsize, run_underlying hd, Sem.run_pure, hk, Bool.false_eq_true, if_false]
    rw [if_neg (show ¬ (sLen + k ≤ sCap) by omega)]
    simp only [Sem.run_bind, hty, Result.andThen_ok]
    rw [if_neg (show ¬ (((sLen + k : Nat) : Int) > IntKind.i64.max ∧ (False ∨ inf.bytes = 0)) from hg3)]
    simp only [Sem.run_bind, hty, Result.andThen_ok]
    rw [if_neg hg2]
    simp only [Sem.run_bind, hfc, hty, Result.andThen_ok, run_askRoom]
    rw [hold]
    simp only [Sem.run_bind, Result.andThen_ok, Bool.not_false, if_true]
    rw [hnew]
    simp only [Sem.run_bind, Result.andThen_ok, hzr, newRow, run_newObj, Sem.run_pure]
    rfl

/-- An append of what fits. -/
theorem run_append_fits {P : Program} {st xt el : TypeId} {k sLen sCap : Nat} {w w' : World} {base : Option Addr} {x : Value} {new : Array Value} {inf : TypeInfo} {ts : Array TypeId} {ty : TypeId} {d : TypeDesc}
    (hs : P.underlying st = some (.slice el)) (hi : P.info? el = some inf) (ht0 : ts[0]? = some st) (ht1 : ts[1]? = some xt) (hd : P.underlying xt = some d) (hdi : (∃ e', d = .slice e') ∨ d = .string)
    (hk : (Builtin.lenOf x).run P w = .ok k w) (hneed : sLen + k ≤ sCap) (hnew : (Builtin.firstCells inf.size k x).run P w = .ok new w)
    (hst : match base with | some a => (storeCells (a.add (sLen * inf.size)) new.toList).run P w = .ok () w' | none => w' = w) :
    (Builtin.append_ ts ty #[.slice base sLen sCap, x]).run P w = .ok (.slice base (sLen + k) sCap) w' := by
  have hsize : ∀ w' : World, (sizeOf el).run P w' = .ok inf.size w' := fun w' => by rw [run_sizeOf w' hi]; simp [Program.cellsOf, hi]
  rcases hdi with ⟨e', rfl⟩ | rfl
  all_goals
    simp only [Builtin.append_, List.getElem?_toArray, List.getElem?_cons_zero, List.getElem?_cons_succ, ht0, ht1, Sem.run_bind, run_underlying hs, Result.andThen_ok, hsize, run_underlying hd, Sem.run_pure, hk, Bool.false_eq_true, if_false]
    rw [if_pos hneed]
    simp only [Sem.run_bind, Bool.not_false, if_true, hnew, Result.andThen_ok]
    cases base with
    | none => simp only at hst; subst hst; rfl
    | some a => simp only at hst; simp only [Sem.run_bind, hst, Result.andThen_ok]; rfl

theorem srcA_desc {P : Program} {t : TypeId} {sz : Nat} {rows : List Row} {x : AVal} {q : Prop × List AVal × Nat} (h : srcA t P sz rows x = some q) : ∃ d, P.underlying t = some d ∧ ((∃ e', d = .slice e') ∨ d = .string) := by
  unfold srcA at h
  split at h
  · rename_i e _ _ _ ht; exact ⟨_, ht, .inl ⟨e, rfl⟩⟩
  · rename_i e _ _ _ ht; exact ⟨_, ht, .inl ⟨e, rfl⟩⟩
  · rename_i _ ht; exact ⟨_, ht, .inr rfl⟩
  · simp at h

def appendA (P : Program) (ts : Array TypeId) (base src : AVal) (rows : List Row) : Option (Prop × AVal × List Row) :=
  match ts[0]?, ts[1]? with
  | some st, some xt => match P.underlying st with
    | some (.slice el) => match P.info? el with
      | some inf => match inf.size, inf.zero with
        | sz + 1, some zv =>
          if inf.bytes = 0 ∨ 1000 < inf.bytes ∨ zv.cells.size ≠ sz + 1 then none else
          match srcA xt P (sz + 1) rows src with
          | some (c, xs, k) => match base with
            | .sl [] 0 .nil => some (c ∧ k ≤ 1073741824, .row rows.length 0 k, rows ++ [⟨xs, sz + 1, .fresh⟩])
            | .sl [] 0 .cap0 => some (c ∧ k ≤ 1073741824, .row rows.length 0 k, rows ++ [⟨xs, sz + 1, .fresh⟩])
            | .row id 0 n => match rows[id]? with
              | some r => if r.st = .fresh ∨ r.st = .grown then
                  some (c ∧ r.esz = sz + 1 ∧ n * (sz + 1) = r.cells.length ∧ n + k ≤ 1073741824 ∧ dataAll (r.cells ++ xs) = true ∧ ∀ i, i < xs.length → (xs.getD i .undef).one = true, .row id 0 (n + k), rows.set id ⟨r.cells ++ xs, r.esz, .grown⟩)
                else none
              | none => none
            | _ => none
          | none => none
        | _, _ => none
      | none => none
    | _ => none
  | _, _ => none

theorem append_spec {P : Program} {ts : Array TypeId} {ty : TypeId} {base src r : AVal} {rows rows' : List Row} {c : Prop} (h : appendA P ts base src rows = some (c, r, rows')) (hc : c) {X : Nat → Nat → Prop} {m : Nat → Option Nat} {w : World} {v u : Value}
    (hrel : Rel ⟨rows, m, w, X⟩) (hv : V ⟨rows, m, w, X⟩ base v) (hu : V ⟨rows, m, w, X⟩ src u) :
    ∃ q w' m', (Builtin.append_ ts ty #[v, u]).run P w = .ok q w' ∧ Rel ⟨rows', m', w', X⟩ ∧ V ⟨rows', m', w', X⟩ r q ∧ rows.length ≤ rows'.length ∧ Evo rows.length ⟨rows, m, w, X⟩ ⟨rows', m', w', X⟩ := by
  unfold appendA at h
  split at h
  case h_2 => simp at h
  rename_i st xt ht0 ht1
  split at h
  case h_2 => simp at h
  rename_i el hs
  split at h
  case h_2 => simp at h
  rename_i inf hi
  split at h
  case h_2 => simp at h
  rename_i sz zv hsz0 hz
  have hsz : inf.size = sz + 1 := hsz0
  split at h
  · simp at h
  rename_i hby
  have hby1 : inf.bytes ≠ 0 := fun h => hby (.inl h)
  have hby2 : inf.bytes ≤ 1000 := by
    rcases Nat.lt_or_ge 1000 inf.bytes with h | h
    · exact absurd (.inr (.inl h)) hby
    · exact h
  have hzs : zv.cells.size = sz + 1 := Classical.byContradiction fun h => hby (.inr (.inr h))
  split at h
  case h_2 => simp at h
  rename_i cs xs k hsrc
  obtain ⟨d, hd, hdi⟩ := srcA_desc hsrc
  -- the world behind the draw
  let wd : World := { w with drawn := w.drawn + 1 }
  obtain ⟨hreld, hevd⟩ := same_heap (E := ⟨rows, m, w, X⟩) hrel (w' := wd) rfl rfl rfl rfl rows.length
  have hud : V ⟨rows, m, wd, X⟩ src u := hevd.val _ _ hu hu.refLt
  -- nil, or a slice without room
  have empty : ∀ (b : Option Addr), v = .slice b 0 0 → cs → k ≤ 1073741824 → r = .row rows.length 0 k → rows' = rows ++ [⟨xs, sz + 1, .fresh⟩] →
      ∃ q w' m', (Builtin.append_ ts ty #[v, u]).run P w = .ok q w' ∧ Rel ⟨rows', m', w', X⟩ ∧ V ⟨rows', m', w', X⟩ r q ∧ rows.length ≤ rows'.length ∧ Evo rows.length ⟨rows, m, w, X⟩ ⟨rows', m', w', X⟩ := by
    rintro b rfl hcs hk rfl rfl
    obtain ⟨_, hlen, hxl, cc, hfc, hvc⟩ := src_spec hsrc hcs hrel hu
    rcases Nat.eq_zero_or_pos k with rfl | hkp
    · have hx0 : xs = [] := List.eq_nil_of_length_eq_zero (by rw [hxl]; simp)
      subst hx0
      have hcc : cc = #[] := Array.eq_empty_of_size_eq_zero (by have := hvc.1; simp at this; exact this.symm)
      subst hcc
      obtain ⟨k1, k2⟩ := virtual_step hrel (sz + 1)
      refine ⟨.slice b 0 0, w, _, ?_, k1, .rowV _ ⟨[], sz + 1, .fresh⟩ b (by simp) (.inr (.inl ⟨.inl rfl, by simp⟩)), by simp, k2⟩
      refine run_append_fits hs hi ht0 ht1 hd hdi hlen (Nat.le_refl _) (by rw [hsz]; exact hfc) ?_
      cases b with
      | none => rfl
      | some p => rfl
    · obtain ⟨_, hlend, hxl, ccd, hfcd, hvcd⟩ := src_spec hsrc hcs hreld hud
      obtain ⟨cap, rest, hcap, hrun, hrest⟩ := run_append_new (P := P) (w := w) (ty := ty) (base := b) (sLen := 0) (sCap := 0) (old := #[]) hs hi hz ht0 ht1 hd hdi hlen (by omega) ⟨by omega, hby2⟩ hby1
        (by cases b with
          | none => rfl
          | some p => simp only [Option.map_some, Builtin.firstCells, Nat.zero_mul]; exact run_loadCells _ _ 0 (fun _ => Go.undef) (fun j hj => by omega))
        (by rw [hsz]; exact hfcd)
      obtain ⟨k1, k2⟩ := alloc_step hreld ⟨xs, sz + 1, .fresh⟩ (#[] ++ ccd ++ rest) el rfl (by simp; have := hvcd.1; omega) (fun j hj => by
        have h1 := hvcd.2 j hj
        have h2 : j < ccd.size := by rw [← hvcd.1]; exact hj
        have e : (#[] ++ ccd ++ rest).getD j Go.undef = ccd.getD j Go.undef := by
          simp only [Array.empty_append, Array.getD_eq_getD_getElem?]
          rw [Array.getElem?_append_left h2]
        rw [e]; exact h1)
      refine ⟨_, _, _, hrun, k1, ?_, by simp, hevd.trans k2⟩
      rw [Nat.zero_add] at hcap ⊢
      refine V.rowF _ 0 k _ cap ⟨xs, sz + 1, .fresh⟩ (by simp) rfl (if_pos rfl) hcap (by simp [hxl]) (fun i hi2 => ?_)
      rw [Nat.zero_add, isSome_cell (alloc_new _ _)]
      have := hvcd.1
      have h4 : cap * (sz + 1) = k * (sz + 1) + (cap - k) * (sz + 1) := by rw [← Nat.add_mul]; congr 1; omega
      simp only [Array.empty_append, Array.size_append, hrest, hzs, Nat.zero_add]
      rw [← this, hxl, ← h4]; exact hi2
  split at h
  · simp only [Option.some.injEq, Prod.mk.injEq] at h
    obtain ⟨rfl, rfl, rfl⟩ := h
    rcases hv.sl_inv with ⟨rfl, _⟩ | ⟨b, o, cap, vs, rfl, _, _, hk, _⟩ | ⟨ad, rfl, _, _, hk⟩
    · exact empty none rfl hc.1 hc.2 rfl rfl
    · exact absurd rfl hk
    · exact absurd rfl hk
  · simp only [Option.some.injEq, Prod.mk.injEq] at h
    obtain ⟨rfl, rfl, rfl⟩ := h
    rcases hv.sl_inv with ⟨rfl, _⟩ | ⟨b, o, cap, vs, rfl, hn0, hk, _⟩ | ⟨ad, rfl, _, _, hk⟩
    · exact empty none rfl hc.1 hc.2 rfl rfl
    · have := hk rfl; subst this; exact empty (some ⟨b, o, none⟩) rfl hc.1 hc.2 rfl rfl
    · exact empty (some ad) rfl hc.1 hc.2 rfl rfl
  · rename_i id n
    split at h
    case h_2 => simp at h
    rename_i row hrow
    split at h
    case isFalse => simp at h
    rename_i hst
    simp only [Option.some.injEq, Prod.mk.injEq] at h
    obtain ⟨rfl, rfl, rfl⟩ := h
    obtain ⟨hcs, hesz, hnl, hbound, hdata, hone⟩ := hc
    have hn0 : n = 0 → row.cells = [] := fun h0 => List.eq_nil_of_length_eq_zero (by rw [← hnl, h0]; simp)
    obtain ⟨_, hlen, hxl, cc, hfc, hvc⟩ := src_spec hsrc hcs hrel hu
    obtain ⟨_, _, _, ccd, hfcd, hvcd⟩ := src_spec hsrc hcs hreld hud
    have hdx : ∀ j, j < xs.length → (xs.getD j .undef).data = true := by
      intro j hj
      have := (dataAll_iff _).1 hdata (row.cells.length + j) (by simp; omega)
      rw [List.getD_eq_getElem?_getD, List.getElem?_append_right (by omega)] at this
      simpa [List.getD_eq_getElem?_getD] using this
    have honec : ∀ y ∈ cc.toList, y.oneCell' = true := by
      intro y hy
      obtain ⟨j, hj, rfl⟩ := List.mem_iff_getElem.1 hy
      have hj' : j < xs.length := by rw [hvc.1]; simpa using hj
      have := (hvc.2 j hj').oneCell (hone j hj') (fun id off he => by have := hdx j hj'; rw [he] at this; simp [AVal.data] at this)
      have hj2 : j < cc.size := by simpa using hj
      simpa [Array.getD, hj2] using this
    -- a row that has a block
    have block : ∀ (b cap : Nat), v = .slice (some ⟨b, 0, none⟩) n cap → m id = some b → n ≤ cap → (∀ i, i < cap * row.esz → (w.cell? ⟨b, 0 + i, none⟩).isSome = true) →
        ∃ q w' m', (Builtin.append_ ts ty #[v, u]).run P w = .ok q w' ∧ Rel ⟨rows.set id ⟨row.cells ++ xs, row.esz, .grown⟩, m', w', X⟩ ∧ V ⟨rows.set id ⟨row.cells ++ xs, row.esz, .grown⟩, m', w', X⟩ (.row id 0 (n + k)) q ∧ rows.length ≤ (rows.set id ⟨row.cells ++ xs, row.esz, .grown⟩).length ∧ Evo rows.length ⟨rows, m, w, X⟩ ⟨rows.set id ⟨row.cells ++ xs, row.esz, .grown⟩, m', w', X⟩ := by
      rintro b cap rfl hm hncap hcells
      obtain ⟨bc, be, hb, hbl, hbv⟩ := hrel.block hrow hst hm
      have hcapsz : cap * (sz + 1) ≤ bc.size := by
        rcases Nat.eq_zero_or_pos (cap * (sz + 1)) with h0 | h0
        · omega
        · have := hcells (cap * (sz + 1) - 1) (by rw [hesz]; omega)
          rw [isSome_cell hb] at this; omega
      have hvalid : ∀ (E' : Env), E'.rows = rows.set id ⟨row.cells ++ xs, row.esz, .grown⟩ → ∀ (b' cap' : Nat) (c' : Array Value) (e' : TypeId), E'.m id = some b' → E'.w.heap[b']? = some (.cells c' e' (0, 0)) → b' < E'.w.heap.size → n + k ≤ cap' → cap' * (sz + 1) ≤ c'.size →
          (∀ o, ¬ E'.x b' o) → (∀ i r, E'.rows[i]? = some r → r.st ≠ .frozen → E'.m i = some b' → i = id) → (∀ j, j < (row.cells ++ xs).length → V E' ((row.cells ++ xs).getD j .undef) (c'.getD j Go.undef)) → V E' (.row id 0 (n + k)) (.slice (some ⟨b', 0, none⟩) (n + k) cap') := by
        intro E' hr' b' cap' c' e' hm' hb' hlt' hcap' hc' hx' hinj' hv'
        have hl' : (row.cells ++ xs).length = (n + k) * (sz + 1) := by rw [List.length_append, ← hnl, hxl, Nat.add_mul]
        have hcm : (n + k) * (sz + 1) ≤ cap' * (sz + 1) := Nat.mul_le_mul_right _ hcap'
        refine V.rowG id 0 (n + k) b' 0 cap' ⟨row.cells ++ xs, row.esz, .grown⟩ (fun i => c'.getD i Go.undef) (by rw [hr']; exact get_set_same hrow) (.inl rfl) hcap' (by simp only [hesz]; omega) (fun i hi => ?_) (fun i hi => ?_) (fun i hi => ?_) (fun _ _ => ⟨hm', rfl, fun i hi => ?_⟩)
        · simp only [hesz] at hi; rw [Nat.zero_add]; exact (dataAll_iff _).1 hdata i (by omega)
        · simp only [hesz] at hi; rw [Nat.zero_add]; exact hv' i (by omega)
        · simp only [hesz] at hi; rw [Nat.zero_add]
          refine ⟨cell_getD hb' (by omega), hlt', hx' _, fun i2 r2 h1 h2 h3 => ?_⟩
          have := hinj' i2 r2 h1 h2 h3
          subst this
          rw [hr', get_set_same hrow] at h1; cases h1
          exact ⟨rfl, by simp only []; omega⟩
        · simp only [hesz] at hi; rw [Nat.zero_add, isSome_cell hb']; omega
      rcases Nat.lt_or_ge cap (n + k) with hgrow | hfits
      · -- a new block
        have hmd : (fun i => m i) id = some b := hm
        have hbd : wd.heap[b]? = some (.cells bc be (0, 0)) := hb
        obtain ⟨cap', rest, hcap', hrun, hrest⟩ := run_append_new (P := P) (w := w) (ty := ty) (base := some ⟨b, 0, none⟩) (sLen := n) (sCap := cap) (old := ((List.range (n * inf.size)).map fun i => bc.getD i Go.undef).toArray) hs hi hz ht0 ht1 hd hdi hlen hgrow ⟨hbound, hby2⟩ hby1
          (by simp only [Builtin.firstCells]; exact run_loadCells _ ⟨b, 0, none⟩ _ _ (fun j hj => by rw [addr_add, Nat.zero_add]; exact cell_getD hbd (by rw [hsz] at hj; omega)))
          (by rw [hsz]; exact hfcd)
        have hk0 : xs ≠ [] := by
          intro h0
          have h1 : k * (sz + 1) = 0 := by rw [← hxl, h0]; rfl
          have : k = 0 := by rcases Nat.mul_eq_zero.1 h1 with h | h <;> omega
          omega
        have hget : ∀ j, j < (row.cells ++ xs).length → V ⟨rows, m, wd, X⟩ ((row.cells ++ xs).getD j .undef) ((((List.range (n * inf.size)).map fun i => bc.getD i Go.undef).toArray ++ ccd ++ rest).getD j Go.undef) := by
          intro j hj
          have hos : ((List.range (n * inf.size)).map fun i => bc.getD i Go.undef).toArray.size = row.cells.length := by simp [hsz, hnl]
          simp only [List.length_append] at hj
          simp only [Array.getD_eq_getD_getElem?, List.getD_eq_getElem?_getD] at hos ⊢
          rw [Array.append_assoc]
          rcases Nat.lt_or_ge j row.cells.length with hlt | hge
          · rw [List.getElem?_append_left hlt, Array.getElem?_append_left (by omega)]
            have hjn : j < n * inf.size := by rw [hsz, hnl]; exact hlt
            have := hevd.val _ _ (hbv j hlt) (hbv j hlt).refLt
            simpa [List.getD_eq_getElem?_getD, hjn, Array.getD_eq_getD_getElem?] using this
          · rw [List.getElem?_append_right hge, Array.getElem?_append_right (by omega), hos]
            have hjx : j - row.cells.length < xs.length := by omega
            rw [Array.getElem?_append_left (by rw [← hvcd.1]; exact hjx)]
            have := hvcd.2 _ hjx
            simpa [List.getD_eq_getElem?_getD, Array.getD_eq_getD_getElem?] using this
        have hsize : (row.cells ++ xs).length ≤ (((List.range (n * inf.size)).map fun i => bc.getD i Go.undef).toArray ++ ccd ++ rest).size := by
          have := hvcd.1
          simp [hsz, hnl]; omega
        obtain ⟨k1, k2⟩ := row_step (E := ⟨rows, m, wd, X⟩) hreld (r' := ⟨row.cells ++ xs, row.esz, .grown⟩) hrow hst hm (b' := wd.heap.size)
          (w' := wd.alloc (.cells (((List.range (n * inf.size)).map fun i => bc.getD i Go.undef).toArray ++ ccd ++ rest) el)) (.inr ⟨rfl, rfl, rfl⟩) (.inr rfl) (fun h => by simp at h) rfl
          (fun _ => ⟨⟨xs, rfl, .inr hk0⟩, hdata⟩) hsize (fun h => by have := lt_of_heap hbd; exact absurd h (by show ¬ wd.heap.size = b; omega)) hget
        refine ⟨_, _, _, hrun, k1, hvalid _ rfl _ cap' _ el (if_pos rfl) (alloc_new _ _) (lt_of_heap (alloc_new wd _)) hcap' ?_ ?_ ?_ (fun j hj => (k2.val _ _ (hget j hj) (hget j hj).refLt)), by simp, hevd.trans k2⟩
        · have := hvcd.1
          have h4 : cap' * (sz + 1) = (n + k) * (sz + 1) + (cap' - (n + k)) * (sz + 1) := by rw [← Nat.add_mul]; congr 1; omega
          have h5 : (n + k) * (sz + 1) = n * (sz + 1) + k * (sz + 1) := Nat.add_mul _ _ _
          simp [hsz, hrest, hzs]; omega
        · intro o hx
          have := hreld.xlt _ o hx
          exact absurd this (by show ¬ wd.heap.size < wd.heap.size; omega)
        · intro i r2 h1 h2 h3
          exact k1.inj i id r2 ⟨row.cells ++ xs, row.esz, .grown⟩ wd.heap.size h1 (get_set_same hrow) h2 (by simp) h3 (by simp)
      · -- in place
        have hput := run_storeCells_at (P := P) b (n * inf.size) be cc.toList 0 bc w hb (by
          have h1 : (n + k) * (sz + 1) ≤ cap * (sz + 1) := Nat.mul_le_mul_right _ hfits
          have h2 : (n + k) * (sz + 1) = n * (sz + 1) + k * (sz + 1) := Nat.add_mul _ _ _
          have := hvc.1
          simp [hsz]; omega) honec
        rw [setRow_upd hb] at hput
        have hrun := run_append_fits (P := P) (w := w) (ty := ty) (base := some ⟨b, 0, none⟩) (sLen := n) (sCap := cap) hs hi ht0 ht1 hd hdi hlen hfits (by rw [hsz]; exact hfc) (by
          simp only [addr_add, Nat.zero_add]
          exact hput)
        have hget : ∀ j, j < (row.cells ++ xs).length → V ⟨rows, m, w, X⟩ ((row.cells ++ xs).getD j .undef) ((bc.toList.take (n * inf.size + 0) ++ cc.toList ++ bc.toList.drop (n * inf.size + 0 + cc.toList.length)).toArray.getD j Go.undef) := by
          intro j hj
          simp only [List.length_append] at hj
          have ht : (bc.toList.take (n * inf.size + 0)).length = row.cells.length := by simp [hsz, hnl]; omega
          simp only [Array.getD_eq_getD_getElem?, List.getElem?_toArray, List.getD_eq_getElem?_getD]
          rw [List.append_assoc]
          rcases Nat.lt_or_ge j row.cells.length with hlt | hge
          · rw [List.getElem?_append_left hlt, List.getElem?_append_left (by omega), List.getElem?_take_of_lt (by simp [hsz, hnl]; exact hlt)]
            have := hbv j hlt
            simpa [List.getD_eq_getElem?_getD, Array.getD_eq_getD_getElem?] using this
          · rw [List.getElem?_append_right hge, List.getElem?_append_right (by omega), ht]
            have hjx : j - row.cells.length < xs.length := by omega
            rw [List.getElem?_append_left (by have := hvc.1; simp; omega)]
            have := hvc.2 _ hjx
            simpa [List.getD_eq_getElem?_getD, Array.getD_eq_getD_getElem?] using this
        have hcsz : (bc.toList.take (n * inf.size + 0) ++ cc.toList ++ bc.toList.drop (n * inf.size + 0 + cc.toList.length)).toArray.size = bc.size := by
          have h1 : (n + k) * (sz + 1) ≤ cap * (sz + 1) := Nat.mul_le_mul_right _ hfits
          have h2 : (n + k) * (sz + 1) = n * (sz + 1) + k * (sz + 1) := Nat.add_mul _ _ _
          have := hvc.1
          simp [hsz]; omega
        have hold : ∀ j, j < row.cells.length → (bc.toList.take (n * inf.size + 0) ++ cc.toList ++ bc.toList.drop (n * inf.size + 0 + cc.toList.length)).toArray.getD j Go.undef = bc.getD j Go.undef := by
          intro j hlt
          have ht : (bc.toList.take (n * inf.size + 0)).length = row.cells.length := by simp [hsz, hnl]; omega
          simp only [Array.getD_eq_getD_getElem?, List.getElem?_toArray]
          rw [List.append_assoc, List.getElem?_append_left (by omega), List.getElem?_take_of_lt (by simp [hsz, hnl]; exact hlt)]
          simp
        have hlsz : (row.cells ++ xs).length ≤ bc.size := by
          have h1 : (n + k) * (sz + 1) ≤ cap * (sz + 1) := Nat.mul_le_mul_right _ hfits
          have h2 : (n + k) * (sz + 1) = n * (sz + 1) + k * (sz + 1) := Nat.add_mul _ _ _
          simp; omega
        obtain ⟨k1, k2⟩ := row_step (E := ⟨rows, m, w, X⟩) hrel (r' := ⟨row.cells ++ xs, row.esz, .grown⟩) hrow hst hm (b' := b)
          (w' := upd w b (.cells (bc.toList.take (n * inf.size + 0) ++ cc.toList ++ bc.toList.drop (n * inf.size + 0 + cc.toList.length)).toArray be (0, 0))) (.inl ⟨rfl, rfl⟩) (.inr rfl) (fun h => by simp at h) rfl
          (fun _ => ⟨⟨xs, rfl, .inl rfl⟩, hdata⟩) (by rw [hcsz]; exact hlsz) (fun _ c0 e0 h0 => by rw [show (Env.mk rows m w X).w = w from rfl, hb] at h0; cases h0; exact ⟨hcsz, fun _ => hold⟩) hget
        refine ⟨_, _, _, hrun, k1, hvalid _ rfl b cap _ be (by simp) (upd_same (lt_of_heap hb)) (by rw [show (Env.mk _ _ (upd w b _) X).w = upd w b _ from rfl, upd_size]; exact lt_of_heap hb) hfits (by rw [hcsz]; exact hcapsz) ?_ ?_ (fun j hj => (k2.val _ _ (hget j hj) (hget j hj).refLt)), by simp, k2⟩
        · intro o hx; exact hrel.xr id row b hrow (by rcases hst with h | h <;> simp [h]) hm o hx
        · intro i r2 h1 h2 h3
          exact k1.inj i id r2 ⟨row.cells ++ xs, row.esz, .grown⟩ b h1 (get_set_same hrow) h2 (by simp) h3 (by simp)
    generalize hxx : AVal.row id 0 n = y at hv
    cases hv <;> simp at hxx
    · rename_i b cap r2 hr2 hs2 hm2 hn2 ho2 hcc2
      obtain ⟨rfl, rfl, rfl⟩ := hxx
      rw [hrow] at hr2; cases hr2
      exact block b cap rfl hm2 hn2 hcc2
    · rename_i r2 bs hr2 hs2
      obtain ⟨rfl, rfl⟩ := hxx
      rw [hrow] at hr2; cases hr2
      have hc0 := hn0 rfl
      rcases hs2 with hs2 | ⟨hs2, hm2⟩ | ⟨_, hs2⟩
      · rcases hst with h | h <;> simp [hs2] at h
      · -- a row without a block
        rcases Nat.eq_zero_or_pos k with rfl | hkp
        · have hx0 : xs = [] := List.eq_nil_of_length_eq_zero (by rw [hxl]; simp)
          subst hx0
          have hcc : cc = #[] := Array.eq_empty_of_size_eq_zero (by have := hvc.1; simp at this; exact this.symm)
          subst hcc
          obtain ⟨k1, k2⟩ := virt_step (E := ⟨rows, m, w, X⟩) hrel (r' := ⟨row.cells ++ [], row.esz, .grown⟩) hrow hst hm2 hc0 rfl rfl hdata (w' := w) (mb := none) (c' := #[]) (e' := 0) (.inl ⟨rfl, rfl, by simp [hc0]⟩)
          refine ⟨.slice bs 0 0, w, _, ?_, k1, .rowV _ ⟨row.cells ++ [], row.esz, .grown⟩ bs (get_set_same hrow) (.inr (.inl ⟨.inr rfl, by simp⟩)), by simp, k2⟩
          refine run_append_fits hs hi ht0 ht1 hd hdi hlen (Nat.le_refl _) (by rw [hsz]; exact hfc) ?_
          cases bs with
          | none => rfl
          | some p => rfl
        · obtain ⟨cap, rest, hcap, hrun, hrest⟩ := run_append_new (P := P) (w := w) (ty := ty) (base := bs) (sLen := 0) (sCap := 0) (old := #[]) hs hi hz ht0 ht1 hd hdi hlen (by omega) ⟨by omega, hby2⟩ hby1
            (by cases bs with
              | none => rfl
              | some p => simp only [Option.map_some, Builtin.firstCells, Nat.zero_mul]; exact run_loadCells _ _ 0 (fun _ => Go.undef) (fun j hj => by omega))
            (by rw [hsz]; exact hfcd)
          have hget : ∀ j, j < (row.cells ++ xs).length → V ⟨rows, m, wd, X⟩ ((row.cells ++ xs).getD j .undef) ((#[] ++ ccd ++ rest).getD j Go.undef) := by
            intro j hj
            rw [hc0] at hj ⊢
            simp only [List.nil_append] at hj ⊢
            have h1 := hvcd.2 j hj
            have h2 : j < ccd.size := by rw [← hvcd.1]; exact hj
            have e : (#[] ++ ccd ++ rest).getD j Go.undef = ccd.getD j Go.undef := by
              simp only [Array.empty_append, Array.getD_eq_getD_getElem?]
              rw [Array.getElem?_append_left h2]
            rw [e]; exact h1
          have hxne : row.cells ++ xs ≠ [] := by
            rw [hc0]; intro h0; simp at h0
            have h1 : k * (sz + 1) = 0 := by rw [← hxl, h0]; rfl
            rcases Nat.mul_eq_zero.1 h1 with h | h <;> omega
          obtain ⟨k1, k2⟩ := virt_step (E := ⟨rows, m, wd, X⟩) hreld (r' := ⟨row.cells ++ xs, row.esz, .grown⟩) hrow hst hm2 hc0 rfl rfl hdata (w' := wd.alloc (.cells (#[] ++ ccd ++ rest) el)) (mb := some wd.heap.size) (c' := #[] ++ ccd ++ rest) (e' := el)
            (.inr ⟨rfl, rfl, hxne, by have := hvcd.1; simp [hc0]; omega, hget⟩)
          have hl' : (row.cells ++ xs).length = k * (sz + 1) := by rw [hc0]; simpa using hxl
          have h4 : cap * (sz + 1) = k * (sz + 1) + (cap - k) * (sz + 1) := by rw [← Nat.add_mul]; congr 1; omega
          have hbk : (wd.alloc (.cells (#[] ++ ccd ++ rest) el)).heap[wd.heap.size]? = some (.cells (#[] ++ ccd ++ rest) el (0, 0)) := alloc_new _ _
          have hcsz : (#[] ++ ccd ++ rest).size = cap * (sz + 1) := by
            have := hvcd.1
            simp only [Array.empty_append, Array.size_append, hrest, hzs, Nat.zero_add]; omega
          refine ⟨_, _, _, hrun, k1, V.rowG id 0 (0 + k) _ 0 cap ⟨row.cells ++ xs, row.esz, .grown⟩ (fun i => (#[] ++ ccd ++ rest).getD i Go.undef) (get_set_same hrow) (.inl rfl) hcap (by simp only [hesz, Nat.zero_add]; omega) (fun i hi => ?_) (fun i hi => ?_) (fun i hi => ?_) (fun _ _ => ⟨if_pos rfl, rfl, fun i hi => ?_⟩), by simp, hevd.trans k2⟩
          · have hi' := hi; simp only [hesz, Nat.zero_add] at hi'; rw [Nat.zero_add]; exact (dataAll_iff _).1 hdata i (by omega)
          · have hi' := hi; simp only [hesz, Nat.zero_add] at hi'; rw [Nat.zero_add]
            have := hget i (by omega)
            exact k2.val _ _ this this.refLt
          · have hi' := hi; simp only [hesz, Nat.zero_add] at hi'; rw [Nat.zero_add]
            refine ⟨cell_getD hbk (by omega), lt_of_heap hbk, fun hx => ?_, fun i2 r2 h1 h2 h3 => ?_⟩
            · have := hreld.xlt _ _ hx; exact absurd this (by show ¬ wd.heap.size < wd.heap.size; omega)
            · have := k1.inj i2 id r2 ⟨row.cells ++ xs, row.esz, .grown⟩ wd.heap.size h1 (get_set_same hrow) h2 (by simp) h3 (by simp)
              subst this
              rw [get_set_same hrow] at h1; cases h1
              exact ⟨rfl, by simp only []; omega⟩
          · simp only [hesz] at hi; rw [Nat.zero_add, isSome_cell hbk, hcsz]; exact hi
      · exact absurd hc0 hs2
    · rename_i b o cap r2 vs hr2 hs2 hn2 ho2 hd2 hvv hmm he2
      obtain ⟨rfl, rfl, rfl⟩ := hxx
      rw [hrow] at hr2; cases hr2
      have hg : row.st = .grown := by
        rcases hst with h | h
        · rcases hs2 with h2 | h2 <;> simp [h] at h2
        · exact h
      obtain ⟨q1, q2, q3⟩ := he2 hg (by rw [hesz]; omega)
      subst q2
      exact block b cap rfl q1 hn2 q3
    · rename_i r2 hr2 hs2 h02 hv2
      obtain ⟨rfl, rfl, rfl⟩ := hxx
      rw [hrow] at hr2; cases hr2
      rcases hst with h | h <;> simp [hs2] at h
  · simp at h
end Go.Abs
