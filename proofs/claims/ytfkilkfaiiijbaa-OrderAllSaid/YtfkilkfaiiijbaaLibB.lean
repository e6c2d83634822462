/- Library: an abstract machine over the model, part B. -/
import Derived.Below
import Derived.ChangeArms
import Derived.ChangeBears
import Derived.ChangeKeysEq
import Derived.ChangeOld
import Derived.Handed
import Derived.IntWalk
import Derived.Laws.BytesString
import Derived.Laws.IdiomStrings
import Derived.MapKept
import Derived.OpenShut
import Derived.ProofKit
import Derived.Scope
import Derived.ShutString
import Derived.Test.YtfkilkfaiiijbaaLibA
import Derived.WalkKit
set_option linter.unusedVariables false
set_option linter.unusedSimpArgs false
namespace Go.Abs
open Go

/-! ### against nil -/
def outB (op : BinOp) (b : Bool) : Option AVal := match op with | .eql => some (.sc (.bool b)) | .neq => some (.sc (.bool (!b))) | _ => none

theorem run_eq_of {P : Program} {op : BinOp} {t : TypeId} {ox oy : Operand} {v u : Value} {b : Bool} {w : World} {r : AVal}
    (hg' : (eqGuard op t ox oy v u).run P w = .ok () w) (he : (Op.equal t v u).run P w = .ok b w)
    (h1 : binOp .eql t v u = (do pure (.bool (← Op.equal t v u)))) (h2 : binOp .neq t v u = (do pure (.bool (!(← Op.equal t v u)))))
    (hr : outB op b = some r) (E : Env) :
    ∃ q, (do eqGuard op t ox oy v u; binOp op t v u : Sem Value).run P w = .ok q w ∧ V E r q := by
  unfold outB at hr
  split at hr
  · simp at hr; subst hr
    exact ⟨_, run_guarded hg' (by rw [h1]; simp only [Sem.run_bind, he, Result.andThen_ok, Sem.run_pure]), .sc _ rfl⟩
  · simp at hr; subst hr
    exact ⟨_, run_guarded hg' (by rw [h2]; simp only [Sem.run_bind, he, Result.andThen_ok, Sem.run_pure]), .sc _ rfl⟩
  · simp at hr

section
variable {P : Program} {t : TypeId} {w : World}
theorem equal_slice_nil {e : TypeId} (h : P.underlying t = some (.slice e)) (a : Option Addr) (n c n' c' : Nat) : (Op.equal t (.slice a n c) (.slice none n' c')).run P w = .ok a.isNone w := by
  have : ∀ d, (Op.equalIn (d + 1) t (.slice a n c) (.slice none n' c')).run P w = .ok a.isNone w := fun d => by cases a <;> simp [Op.equalIn, run_underlying h]
  exact this 9999
theorem equal_ptr_nil {e : TypeId} (h : P.underlying t = some (.pointer e)) (a : Option Addr) : (Op.equal t (.pointer a) (.pointer none)).run P w = .ok a.isNone w := by
  have : ∀ d, (Op.equalIn (d + 1) t (.pointer a) (.pointer none)).run P w = .ok a.isNone w := fun d => by cases a <;> simp [Op.equalIn, run_underlying h]
  exact this 9999
theorem equal_map_nil {k e : TypeId} (h : P.underlying t = some (.map k e)) (a : Option Nat) : (Op.equal t (.map a) (.map none)).run P w = .ok a.isNone w := by
  have : ∀ d, (Op.equalIn (d + 1) t (.map a) (.map none)).run P w = .ok a.isNone w := fun d => by cases a <;> simp [Op.equalIn, run_underlying h]
  exact this 9999
theorem equal_func_nil {ps rs : Array TypeId} {vv : Bool} (h : P.underlying t = some (.func ps rs vv)) (f : Fn) (x y : Array Value) : (Op.equal t (.func f x y) .nilFunc).run P w = .ok false w := by
  have : ∀ d, (Op.equalIn (d + 1) t (.func f x y) .nilFunc).run P w = .ok false w := fun d => by simp [Op.equalIn, run_underlying h]
  exact this 9999
theorem equal_nilfunc_nil {ps rs : Array TypeId} {vv : Bool} (h : P.underlying t = some (.func ps rs vv)) : (Op.equal t .nilFunc .nilFunc).run P w = .ok true w := by
  have : ∀ d, (Op.equalIn (d + 1) t .nilFunc .nilFunc).run P w = .ok true w := fun d => by simp [Op.equalIn, run_underlying h]
  exact this 9999
theorem equal_ifc_nil {ms : Array (String × TypeId)} (h : P.underlying t = some (.interface ms)) (d : TypeId) (x : Value) : (Op.equal t (.iface d x) .nilIface).run P w = .ok false w := by
  have : ∀ n, (Op.equalIn (n + 1) t (.iface d x) .nilIface).run P w = .ok false w := fun n => by simp [Op.equalIn, run_underlying h]
  exact this 9999
theorem equal_nilifc_nil {ms : Array (String × TypeId)} (h : P.underlying t = some (.interface ms)) : (Op.equal t .nilIface .nilIface).run P w = .ok true w := by
  have : ∀ n, (Op.equalIn (n + 1) t .nilIface .nilIface).run P w = .ok true w := fun n => by simp [Op.equalIn, run_underlying h]
  exact this 9999
end

def nilA (P : Program) (op : BinOp) (t : TypeId) (rows : List Row) (oy : Operand) (x y : AVal) : Option (Prop × AVal) :=
  match P.underlying t with
  | some (.interface _) => match oy, x, y with
    | .const _, .ifc _ _, .sc .nilIface => (outB op false).map fun v => (True, v)
    | .const _, .sc .nilIface, .sc .nilIface => (outB op true).map fun v => (True, v)
    | _, _, _ => none
  | some (.slice _) => match x, y with
    | .sl _ n k, .sl [] 0 .nil => match k with
      | .nil => (outB op true).map fun v => (True, v)
      | .nn => (outB op false).map fun v => (True, v)
      | _ => (outB op false).map fun v => (0 < n, v)
    | _, _ => none
  | some (.pointer _) => match x, y with
    | .ptr id off, .sc (.pointer none) => if standsB rows (.ptr id off) then (outB op false).map fun v => (True, v) else none
    | .dptr _, .sc (.pointer none) => (outB op false).map fun v => (True, v)
    | .sc (.pointer none), .sc (.pointer none) => (outB op true).map fun v => (True, v)
    | _, _ => none
  | some (.func _ _ _) => match x, y with
    | .fn _ _, .sc .nilFunc => (outB op false).map fun v => (True, v)
    | .sc .nilFunc, .sc .nilFunc => (outB op true).map fun v => (True, v)
    | _, _ => none
  | some (.map _ _) => match x, y with
    | .mp _, .sc (.map none) => (outB op false).map fun v => (True, v)
    | .sc (.map none), .sc (.map none) => (outB op true).map fun v => (True, v)
    | _, _ => none
  | _ => none

theorem out_map {op : BinOp} {b : Bool} {c2 c : Prop} {r : AVal} (h : (outB op b).map (fun v => (c2, v)) = some (c, r)) : c2 = c ∧ outB op b = some r := by
  cases hq : outB op b with
  | none => simp [hq] at h
  | some z =>
    rw [hq] at h
    simp only [Option.map_some, Option.some.injEq, Prod.mk.injEq] at h
    exact ⟨h.1, by rw [h.2]⟩

theorem nil_spec {P : Program} {op : BinOp} {t : TypeId} {rows : List Row} {ox oy : Operand} {x y r : AVal} {c : Prop} (h : nilA P op t rows oy x y = some (c, r)) (hc : c) {X : Nat → Nat → Prop} {m : Nat → Option Nat} {w : World} {v u : Value}
    (hv : V ⟨rows, m, w, X⟩ x v) (hu : V ⟨rows, m, w, X⟩ y u) :
    ∃ q, (do eqGuard op t ox oy v u; binOp op t v u : Sem Value).run P w = .ok q w ∧ V ⟨rows, m, w, X⟩ r q := by
  unfold nilA at h
  split at h
  · rename_i ms ht
    split at h
    · rename_i cv d x'
      obtain ⟨rfl, ho⟩ := out_map h
      obtain ⟨v', rfl, _⟩ := hv.ifc_inv
      have := hu.sc_inv; subst this
      exact run_eq_of (by cases op <;> simp [eqGuard]) (equal_ifc_nil ht _ _) rfl rfl ho _
    · rename_i cv
      obtain ⟨rfl, ho⟩ := out_map h
      have := hv.sc_inv; subst this
      have := hu.sc_inv; subst this
      refine run_eq_of ?_ (equal_nilifc_nil ht) rfl rfl ho _
      cases op <;> simp [eqGuard]
    · simp at h
  · rename_i e ht
    split at h
    · rename_i cells n k
      have hu' : ∃ c', u = .slice none 0 c' := by
        rcases hu.sl_inv with ⟨rfl, _⟩ | ⟨b, o, cap, vs, rfl, _, _, hk, _⟩ | ⟨ad, rfl, _, _, hk⟩
        · exact ⟨0, rfl⟩
        · exact absurd rfl hk
        · exact absurd rfl hk
      obtain ⟨c', rfl⟩ := hu'
      have go : ∀ (a : Option Addr) (n' c'' : Nat) (b : Bool), v = .slice a n' c'' → a.isNone = b → outB op b = some r → ∃ q, (do eqGuard op t ox oy v (.slice none 0 c'); binOp op t v (.slice none 0 c') : Sem Value).run P w = .ok q w ∧ V ⟨rows, m, w, X⟩ r q := by
        rintro a n' c'' b rfl rfl ho
        exact run_eq_of (by cases op <;> rfl) (equal_slice_nil ht _ _ _ _ _) rfl rfl ho _
      split at h
      · obtain ⟨rfl, ho⟩ := out_map h
        rcases hv.sl_inv with ⟨rfl, _⟩ | ⟨b, o, cap, vs, rfl, _, _, hk, _⟩ | ⟨ad, rfl, _, _, hk⟩
        · exact go none _ _ _ rfl rfl ho
        · exact absurd rfl hk
        · exact absurd rfl hk
      · obtain ⟨rfl, ho⟩ := out_map h
        rcases hv.sl_inv with ⟨rfl, _, _, hk⟩ | ⟨b, o, cap, vs, rfl, _⟩ | ⟨ad, rfl, _⟩
        · exact absurd rfl hk
        · exact go _ _ _ _ rfl rfl ho
        · exact go _ _ _ _ rfl rfl ho
      · obtain ⟨rfl, ho⟩ := out_map h
        rcases hv.sl_inv with ⟨rfl, _, rfl, hk⟩ | ⟨b, o, cap, vs, rfl, _⟩ | ⟨ad, rfl, _⟩
        · exact absurd hc (Nat.lt_irrefl 0)
        · exact go _ _ _ _ rfl rfl ho
        · exact go _ _ _ _ rfl rfl ho
    · simp at h
  · rename_i e ht
    split at h
    · rename_i id off
      split at h
      · rename_i hst
        obtain ⟨rfl, ho⟩ := out_map h
        obtain ⟨r2, h1, h2⟩ := stands_spec hst id off rfl
        obtain ⟨b, rfl, _⟩ := hv.ptr_inv h1 h2
        have := hu.sc_inv; subst this
        exact run_eq_of (by cases op <;> rfl) (equal_ptr_nil ht _) rfl rfl ho _
      · simp at h
    · obtain ⟨rfl, ho⟩ := out_map h
      obtain ⟨b, o, vs, rfl, _⟩ := hv.dptr_inv
      have := hu.sc_inv; subst this
      exact run_eq_of (by cases op <;> rfl) (equal_ptr_nil ht _) rfl rfl ho _
    · obtain ⟨rfl, ho⟩ := out_map h
      have := hv.sc_inv; subst this
      have := hu.sc_inv; subst this
      exact run_eq_of (by cases op <;> rfl) (equal_ptr_nil ht _) rfl rfl ho _
    · simp at h
  · rename_i ps rs vv ht
    split at h
    · obtain ⟨rfl, ho⟩ := out_map h
      obtain ⟨vs, rfl, _⟩ := hv.fn_inv
      have := hu.sc_inv; subst this
      exact run_eq_of (by cases op <;> rfl) (equal_func_nil ht _ _ _) rfl rfl ho _
    · obtain ⟨rfl, ho⟩ := out_map h
      have := hv.sc_inv; subst this
      have := hu.sc_inv; subst this
      exact run_eq_of (by cases op <;> rfl) (equal_nilfunc_nil ht) rfl rfl ho _
    · simp at h
  · rename_i k e ht
    split at h
    · rename_i id
      obtain ⟨rfl, ho⟩ := out_map h
      have hb : ∃ b, v = .map (some b) := by
        generalize hx : AVal.mp id = z at hv
        cases hv <;> simp at hx
        exact ⟨_, rfl⟩
      obtain ⟨b, rfl⟩ := hb
      have := hu.sc_inv; subst this
      exact run_eq_of (by cases op <;> rfl) (equal_map_nil ht _) rfl rfl ho _
    · obtain ⟨rfl, ho⟩ := out_map h
      have := hv.sc_inv; subst this
      have := hu.sc_inv; subst this
      exact run_eq_of (by cases op <;> rfl) (equal_map_nil ht _) rfl rfl ho _
    · simp at h
  · simp at h

/-! ### convert -/
def isByteA : AVal → Bool
  | .sc (.int .u8 _) => true
  | _ => false
def byteOf1 : AVal → UInt8
  | .sc (.int .u8 n) => UInt8.ofNat n.toNat
  | _ => 0
def strOf (cells : List AVal) : ByteArray := ⟨(cells.map byteOf1).toArray⟩

def convertA (P : Program) (s d : TypeId) (x : AVal) (rows : List Row) : Option (Prop × AVal) :=
  match P.underlying s, P.underlying d, x with
  | some (.int _), some (.int k), .sc (.int _ n) => some (True, .sc (.int k (k.wrap n)))
  | some .string, some .string, .sc (.string b) => some (True, .sc (.string b))
  | some .string, some (.slice e), .sc (.string b) => match P.underlying e with
    | some (.int .u8) => some (True, .sl (b.data.toList.map byteV) b.size .nn)
    | _ => none
  | some (.slice e), some .string, .sl cells n _ => match P.underlying e with
    | some (.int .u8) => some (n = cells.length ∧ ∀ i, i < cells.length → isByteA (cells.getD i .undef) = true, .sc (.string (strOf cells)))
    | _ => none
  | some (.slice e), some .string, .row id off n => match P.underlying e, rows[id]? with
    | some (.int .u8), some r => match r.st with
      | .map | .unborn | .dead => none
      | _ => some (r.esz = 1 ∧ off + n ≤ r.cells.length ∧ ∀ i, i < r.cells.length → isByteA (r.cells.getD i .undef) = true, .sc (.string (strOf ((r.cells.drop off).take n))))
    | _, _ => none
  | _, _, _ => none

theorem foldl_push_ints : ∀ (l : List Int) (r : ByteArray), l.foldl (fun r n => r.push (UInt8.ofNat n.toNat)) r = ⟨r.data ++ (l.map fun n => UInt8.ofNat n.toNat).toArray⟩
  | [], r => by simp
  | b :: l, r => by
    simp only [List.foldl_cons]
    rw [foldl_push_ints l]
    simp [ByteArray.push]

def intOf1 : AVal → Int
  | .sc (.int .u8 n) => n
  | _ => 0
/-- Cells that are bytes, as a text. -/
theorem bytes_run {P : Program} {E : Env} {cells : List AVal} {b o cap : Nat} {vs : Nat → Value} (hb : ∀ i, i < cells.length → isByteA (cells.getD i .undef) = true) (hv : ∀ i, i < cells.length → V E (cells.getD i .undef) (vs i))
    (hc : ∀ i, i < cells.length → E.w.cell? ⟨b, o + i, none⟩ = some (vs i)) : (Conv.bytesToString (.slice (some ⟨b, o, none⟩) cells.length cap)).run P E.w = .ok (.string (strOf cells)) E.w := by
  have hvi : ∀ i, i < cells.length → vs i = .int .u8 (intOf1 (cells.getD i .undef)) := by
    intro i hi
    have h1 := hb i hi
    have h2 := hv i hi
    revert h1 h2
    generalize cells.getD i .undef = x
    intro h1 h2
    unfold isByteA at h1
    split at h1
    · exact h2.sc_inv
    · simp at h1
  have hl : (loadCells ⟨b, o, none⟩ cells.length).run P E.w = .ok ((cells.map intOf1).map (Value.int .u8)).toArray E.w := by
    rw [run_loadCells E.w ⟨b, o, none⟩ cells.length vs (fun j hj => by rw [addr_add]; exact hc j hj)]
    congr 2
    apply List.ext_getElem
    · simp
    · intro i h1 h2
      have hi : i < cells.length := by simpa using h1
      have := hvi i hi
      simpa [List.getD_eq_getElem?_getD, hi] using this
  rw [run_bytesToString E.w _ _ cap _ hl, foldl_push_ints]
  have hmap : (cells.map intOf1).map (fun n => UInt8.ofNat n.toNat) = cells.map byteOf1 := by
    rw [List.map_map]
    apply List.map_congr_left
    intro x hx
    obtain ⟨i, hi, rfl⟩ := List.mem_iff_getElem.1 hx
    have h1 := hb i hi
    rw [List.getD_eq_getElem?_getD, List.getElem?_eq_getElem hi] at h1
    simp only [Option.getD_some] at h1
    revert h1
    generalize cells[i] = y
    intro h1
    unfold isByteA at h1
    split at h1
    · rfl
    · simp at h1
  rw [hmap]
  have : (ByteArray.empty.data ++ (cells.map byteOf1).toArray) = (cells.map byteOf1).toArray := by
    show (#[] ++ _) = _
    simp
  rw [this]
  rfl

theorem convert_spec {P : Program} {s d : TypeId} {x r : AVal} {rows : List Row} {c : Prop} (h : convertA P s d x rows = some (c, r)) (hc : c) {X : Nat → Nat → Prop} {m : Nat → Option Nat} {w : World} {v : Value} (hrel : Rel ⟨rows, m, w, X⟩) (hv : V ⟨rows, m, w, X⟩ x v) :
    ∃ q w', (convert s d v).run P w = .ok q w' ∧ Rel ⟨rows, m, w', X⟩ ∧ V ⟨rows, m, w', X⟩ r q ∧ Evo rows.length ⟨rows, m, w, X⟩ ⟨rows, m, w', X⟩ := by
  unfold convertA at h
  split at h
  · rename_i k0 k k1 n hs hd
    simp only [Option.some.injEq, Prod.mk.injEq] at h
    obtain ⟨rfl, rfl⟩ := h
    have := hv.sc_inv; subst this
    exact ⟨_, w, by simp [convert, run_underlying hs, run_underlying hd, Conv.intToInt], hrel, .sc _ rfl, Evo.refl _ _⟩
  · rename_i b hs hd
    simp only [Option.some.injEq, Prod.mk.injEq] at h
    obtain ⟨rfl, rfl⟩ := h
    have := hv.sc_inv; subst this
    exact ⟨_, w, by simp [convert, run_underlying hs, run_underlying hd], hrel, .sc _ rfl, Evo.refl _ _⟩
  · rename_i e b hs hd
    split at h
    · rename_i he
      simp only [Option.some.injEq, Prod.mk.injEq] at h
      obtain ⟨rfl, rfl⟩ := h
      have := hv.sc_inv; subst this
      obtain ⟨hreld, hevd⟩ := same_heap (E := ⟨rows, m, w, X⟩) hrel (w' := w.drew) rfl rfl rfl rfl rows.length
      have hcap : b.size ≤ grownCap w b.size 0 e := by unfold grownCap; show _ ≤ _ + _; omega
      have hbs : (b.data.toList.map byteV).length = b.data.size := by simp
      have hrow : bytesRow b (grownCap w b.size 0 e) = b.data.map (fun (x : UInt8) => Value.int .u8 x.toNat) ++ Array.replicate (grownCap w b.size 0 e - b.size) (.int .u8 0) := rfl
      obtain ⟨k1, k2, k3⟩ := newSl hreld (b.data.toList.map byteV) (bytesRow b (grownCap w b.size 0 e)) e ((bytesRow b (grownCap w b.size 0 e)).size, (bytesRow b (grownCap w b.size 0 e)).size + 1) b.size _ hcap
        (by rw [dataAll_iff]; intro i hi; rw [hbs] at hi; rw [(bytes_getD b.data i hi).1]; rfl)
        (by rw [hbs, hrow]; simp)
        (fun i hi => by
          rw [hbs] at hi
          rw [(bytes_getD b.data i hi).1]
          have e1 : (bytesRow b (grownCap w b.size 0 e)).getD i Go.undef = .int .u8 (b.data[i]).toNat := by
            rw [hrow, Array.getD_eq_getD_getElem?, Array.getElem?_append_left (by simpa using hi)]
            rw [← Array.getD_eq_getD_getElem?]; exact (bytes_getD b.data i hi).2
          rw [e1]; exact .sc _ rfl)
      exact ⟨_, _, run_bytes_of_string w s d e b hs hd he, k1, k3, hevd.trans (k2 _)⟩
    · simp at h
  · rename_i e cells n k hs hd
    split at h
    · rename_i he
      simp only [Option.some.injEq, Prod.mk.injEq] at h
      obtain ⟨rfl, rfl⟩ := h
      obtain ⟨h1, h2⟩ := hc
      subst h1
      rcases hv.sl_inv with ⟨rfl, h0, _⟩ | ⟨b, o, cap, vs, rfl, hn, _, _, hdd, hvv, hmm⟩ | ⟨ad, rfl, h0, _⟩
      rotate_left 2
      · subst h0
        exact ⟨.string .empty, w, by rw [run_convert_bytes_string w s d e (some ad) 0 0 hs he hd]; rfl, hrel, .sc _ rfl, Evo.refl _ _⟩
      · subst h0
        exact ⟨.string .empty, w, by rw [run_convert_bytes_string w s d e none 0 0 hs he hd]; rfl, hrel, .sc _ rfl, Evo.refl _ _⟩
      · refine ⟨_, w, ?_, hrel, .sc _ rfl, Evo.refl _ _⟩
        rw [run_convert_bytes_string w s d e _ _ _ hs he hd]
        exact bytes_run (E := ⟨rows, m, w, X⟩) h2 hvv (fun i hi => (hmm i hi).1)
    · simp at h
  · rename_i e id off n hs hd
    split at h
    · rename_i row he hrow
      have hmain : some (row.esz = 1 ∧ off + n ≤ row.cells.length ∧ ∀ i, i < row.cells.length → isByteA (row.cells.getD i .undef) = true, AVal.sc (.string (strOf ((row.cells.drop off).take n)))) = some (c, r) := by
        cases hst : row.st <;> simp only [hst] at h <;> first | exact h | simp at h
      simp only [Option.some.injEq, Prod.mk.injEq] at hmain
      obtain ⟨rfl, rfl⟩ := hmain
      obtain ⟨c1, c2, c3⟩ := hc
      have hl : ((row.cells.drop off).take n).length = n := by simp; omega
      have hget : ∀ i, i < n → ((row.cells.drop off).take n).getD i .undef = row.cells.getD (off + i) .undef := by
        intro i hi; simp [List.getD_eq_getElem?_getD, List.getElem?_take, hi]
      have fin : ∀ (b o cap : Nat) (vs : Nat → Value), v = .slice (some ⟨b, o, none⟩) n cap → (∀ i, i < n → V ⟨rows, m, w, X⟩ (row.cells.getD (off + i) .undef) (vs i)) → (∀ i, i < n → w.cell? ⟨b, o + i, none⟩ = some (vs i)) →
          ∃ q w', (convert s d v).run P w = .ok q w' ∧ Rel ⟨rows, m, w', X⟩ ∧ V ⟨rows, m, w', X⟩ (.sc (.string (strOf ((row.cells.drop off).take n)))) q ∧ Evo rows.length ⟨rows, m, w, X⟩ ⟨rows, m, w', X⟩ := by
        rintro b o cap vs rfl h1 h2
        refine ⟨_, w, ?_, hrel, .sc _ rfl, Evo.refl _ _⟩
        rw [run_convert_bytes_string w s d e _ _ _ hs he hd]
        have := bytes_run (P := P) (E := ⟨rows, m, w, X⟩) (cells := (row.cells.drop off).take n) (b := b) (o := o) (cap := cap) (vs := vs) (fun i hi => by rw [hl] at hi; rw [hget i hi]; exact c3 _ (by omega)) (fun i hi => by rw [hl] at hi; rw [hget i hi]; exact h1 i hi) (fun i hi => by rw [hl] at hi; exact h2 i hi)
        rw [hl] at this; exact this
      generalize hxx : AVal.row id off n = y at hv
      cases hv <;> simp at hxx
      · rename_i b cap r2 hr2 hs2 hm2 hn2 ho2 hcc2
        obtain ⟨rfl, rfl, rfl⟩ := hxx
        rw [hrow] at hr2; cases hr2
        obtain ⟨cc, e', hb, hbl, hbv⟩ := hrel.block hrow (.inl hs2) hm2
        exact fin b off cap (fun i => cc.getD (off + i) Go.undef) rfl (fun i hi => hbv _ (by omega)) (fun i hi => cell_getD hb (by omega))
      · rename_i r2 bs hr2 hs2
        obtain ⟨rfl, rfl, rfl⟩ := hxx
        refine ⟨.string (strOf []), w, ?_, hrel, .sc _ rfl, Evo.refl _ _⟩
        rw [run_convert_bytes_string w s d e _ _ _ hs he hd]
        cases bs with
        | none => rfl
        | some p =>
          have := bytes_run (P := P) (E := ⟨rows, m, w, X⟩) (cells := []) (b := p.1) (o := p.2) (cap := 0) (vs := fun _ => Go.undef) (fun i hi => by simp at hi) (fun i hi => by simp at hi) (fun i hi => by simp at hi)
          exact this
      · rename_i b o cap r2 vs hr2 hs2 hn2 ho2 hd2 hvv hmm he2
        obtain ⟨rfl, rfl, rfl⟩ := hxx
        rw [hrow] at hr2; cases hr2
        rw [c1] at hvv hmm
        exact fin b o cap vs rfl (fun i hi => hvv i (by omega)) (fun i hi => (hmm i (by omega)).1)
      · rename_i r2 hr2 hs2 h02 hv2
        obtain ⟨rfl, rfl, rfl⟩ := hxx
        rw [hrow] at hr2; cases hr2; simp [hs2] at h
    · simp at h
  · simp at h
end Go.Abs

set_option linter.unusedVariables false
set_option linter.unusedSimpArgs false
namespace Go.Abs
open Go

/-! ### Structs and arrays that are compared -/
def andB : Bool → Bool → Bool := fun a b => a && b
/-- fields, one by one -/
def eqFs (P : Program) (E : TypeId → AVal → AVal → Option (Prop × Bool)) (xs ys : List AVal) : List Field → Option (Prop × Bool)
  | [] => some (True, true)
  | f :: l => if f.name = "_" then eqFs P E xs ys l else
    match partA P f.type xs f.offset, partA P f.type ys f.offset with
    | some (c1, a), some (c2, b) => match E f.type a b, l with
      | some (c3, p), [] => some (c1 ∧ c2 ∧ c3, p)
      | some (c3, p), g :: l' => match eqFs P E xs ys (g :: l') with
        | some (c4, q) => some ((c1 ∧ c2 ∧ c3) ∧ c4, p && q)
        | none => none
      | none, _ => none
    | _, _ => none
def eqIs (P : Program) (E : TypeId → AVal → AVal → Option (Prop × Bool)) (e : TypeId) (n : Nat) (xs ys : List AVal) : List Nat → Option (Prop × Bool)
  | [] => some (True, true)
  | i :: l => match partA P e xs (i * n), partA P e ys (i * n) with
    | some (c1, a), some (c2, b) => match E e a b, l with
      | some (c3, p), [] => some (c1 ∧ c2 ∧ c3, p)
      | some (c3, p), j :: l' => match eqIs P E e n xs ys (j :: l') with
        | some (c4, q) => some ((c1 ∧ c2 ∧ c3) ∧ c4, p && q)
        | none => none
      | none, _ => none
    | _, _ => none
def eqA (P : Program) : Nat → TypeId → AVal → AVal → Option (Prop × Bool)
  | 0, _, _, _ => none
  | d + 1, t, x, y => match P.underlying t, x, y with
    | some .bool, .sc (.bool a), .sc (.bool b) => some (True, a == b)
    | some (.int _), .sc (.int k a), .sc (.int k' b) => if k = k' then some (True, a == b) else none
    | some .string, .sc (.string a), .sc (.string b) => some (True, a.toList == b.toList)
    | some (.struct fs), .agg xs, .agg ys => if P.stoodInHeld t = false then eqFs P (eqA P d) xs ys fs.toList else none
    | some (.array n e), .agg xs, .agg ys => match P.info? e with
      | some i => eqIs P (eqA P d) e i.size xs ys (List.range n)
      | none => none
    | _, _, _ => none

theorem eqFs_spec {P : Program} {d : Nat} {E : TypeId → AVal → AVal → Option (Prop × Bool)} {V0 : Env} (w : World)
    (hE : ∀ t x y c b v u, E t x y = some (c, b) → c → V V0 x v → V V0 y u → (Op.equalIn d t v u).run P w = .ok b w)
    {xs ys : List AVal} {vs us : List Value} (hl1 : xs.length = vs.length) (hl2 : ys.length = us.length)
    (hv1 : ∀ i, i < xs.length → V V0 (xs.getD i .undef) (vs.getD i Go.undef)) (hv2 : ∀ i, i < ys.length → V V0 (ys.getD i .undef) (us.getD i Go.undef)) :
    ∀ (fs : List Field) (c : Prop) (b : Bool), eqFs P E xs ys fs = some (c, b) → c → (Op.eqFields d vs.toArray us.toArray fs).run P w = .ok b w := by
  intro fs
  induction fs with
  | nil => intro c b h hc; simp [eqFs] at h; obtain ⟨_, rfl⟩ := h; simp [Op.eqFields]
  | cons f l ih =>
    intro c b h hc
    rw [eqFs] at h
    split at h
    · rename_i hn
      have := ih c b h hc
      simpa [Op.eqFields, hn] using this
    rename_i hn
    split at h
    · rename_i c1 a c2 a2 e1 e2
      have step : ∀ c3 p, E f.type a a2 = some (c3, p) → c1 → c2 → c3 → ∃ v u, (part f.type vs.toArray f.offset).run P w = .ok v w ∧ (part f.type us.toArray f.offset).run P w = .ok u w ∧ (Op.equalIn d f.type v u).run P w = .ok p w := by
        intro c3 p h3 k1 k2 k3
        obtain ⟨v, r1, r2⟩ := part_spec e1 k1 hl1 hv1 w
        obtain ⟨u, q1, q2⟩ := part_spec e2 k2 hl2 hv2 w
        exact ⟨v, u, r1, q1, hE _ _ _ _ _ _ _ h3 k3 r2 q2⟩
      split at h
      · rename_i c3 p h3
        simp only [Option.some.injEq, Prod.mk.injEq] at h
        obtain ⟨rfl, rfl⟩ := h
        obtain ⟨v, u, r1, r2, r3⟩ := step _ _ h3 hc.1 hc.2.1 hc.2.2
        simp only [Op.eqFields, ne_eq, hn, not_false_eq_true, if_true, Sem.run_bind, r1, r2, r3, Result.andThen_ok]
        cases p <;> simp
      · rename_i c3 p g l' h3
        split at h
        · rename_i c4 q h4
          simp only [Option.some.injEq, Prod.mk.injEq] at h
          obtain ⟨rfl, rfl⟩ := h
          obtain ⟨v, u, r1, r2, r3⟩ := step _ _ h3 hc.1.1 hc.1.2.1 hc.1.2.2
          have r4 := ih c4 q h4 hc.2
          rw [Op.eqFields]
          simp only [ne_eq, hn, not_false_eq_true, if_true, Sem.run_bind, r1, r2, r3, Result.andThen_ok]
          cases p
          · simp
          · simpa using r4
        · simp at h
      · simp at h
    · simp at h

theorem eqIs_spec {P : Program} {d n : Nat} {e : TypeId} {E : TypeId → AVal → AVal → Option (Prop × Bool)} {V0 : Env} (w : World)
    (hE : ∀ t x y c b v u, E t x y = some (c, b) → c → V V0 x v → V V0 y u → (Op.equalIn d t v u).run P w = .ok b w)
    {xs ys : List AVal} {vs us : List Value} (hl1 : xs.length = vs.length) (hl2 : ys.length = us.length)
    (hv1 : ∀ i, i < xs.length → V V0 (xs.getD i .undef) (vs.getD i Go.undef)) (hv2 : ∀ i, i < ys.length → V V0 (ys.getD i .undef) (us.getD i Go.undef)) :
    ∀ (is : List Nat) (c : Prop) (b : Bool), eqIs P E e n xs ys is = some (c, b) → c → (Op.eqItems d e n vs.toArray us.toArray is).run P w = .ok b w := by
  intro is
  induction is with
  | nil => intro c b h hc; simp [eqIs] at h; obtain ⟨_, rfl⟩ := h; simp [Op.eqItems]
  | cons i l ih =>
    intro c b h hc
    rw [eqIs] at h
    split at h
    · rename_i c1 a c2 a2 e1 e2
      have step : ∀ c3 p, E e a a2 = some (c3, p) → c1 → c2 → c3 → ∃ v u, (part e vs.toArray (i * n)).run P w = .ok v w ∧ (part e us.toArray (i * n)).run P w = .ok u w ∧ (Op.equalIn d e v u).run P w = .ok p w := by
        intro c3 p h3 k1 k2 k3
        obtain ⟨v, r1, r2⟩ := part_spec e1 k1 hl1 hv1 w
        obtain ⟨u, q1, q2⟩ := part_spec e2 k2 hl2 hv2 w
        exact ⟨v, u, r1, q1, hE _ _ _ _ _ _ _ h3 k3 r2 q2⟩
      split at h
      · rename_i c3 p h3
        simp only [Option.some.injEq, Prod.mk.injEq] at h
        obtain ⟨rfl, rfl⟩ := h
        obtain ⟨v, u, r1, r2, r3⟩ := step _ _ h3 hc.1 hc.2.1 hc.2.2
        simp only [Op.eqItems, Sem.run_bind, r1, r2, r3, Result.andThen_ok]
        cases p <;> simp
      · rename_i c3 p g l' h3
        split at h
        · rename_i c4 q h4
          simp only [Option.some.injEq, Prod.mk.injEq] at h
          obtain ⟨rfl, rfl⟩ := h
          obtain ⟨v, u, r1, r2, r3⟩ := step _ _ h3 hc.1.1 hc.1.2.1 hc.1.2.2
          have r4 := ih c4 q h4 hc.2
          rw [Op.eqItems]
          simp only [Sem.run_bind, r1, r2, r3, Result.andThen_ok]
          cases p
          · simp
          · simpa using r4
        · simp at h
      · simp at h
    · simp at h

theorem eqA_spec {P : Program} {V0 : Env} (w : World) (n : Nat) : ∀ (d : Nat) (t : TypeId) (x y : AVal) (c : Prop) (b : Bool) (v u : Value), eqA P d t x y = some (c, b) → c → V V0 x v → V V0 y u → (Op.equalIn (n + d) t v u).run P w = .ok b w := by
  intro d
  induction d with
  | zero => intro t x y c b v u h; simp [eqA] at h
  | succ d ih =>
    intro t x y c b v u h hc hx hy
    unfold eqA at h
    split at h
    · rename_i a b' ht
      simp only [Option.some.injEq, Prod.mk.injEq] at h
      obtain ⟨_, rfl⟩ := h
      have := hx.sc_inv; subst this
      have := hy.sc_inv; subst this
      exact run_equalIn_bool' w (n + d) t a b' ht
    · rename_i k' k a k2 b' ht
      split at h
      · rename_i hk
        subst hk
        simp only [Option.some.injEq, Prod.mk.injEq] at h
        obtain ⟨_, rfl⟩ := h
        have := hx.sc_inv; subst this
        have := hy.sc_inv; subst this
        exact run_equalIn_int w (n + d) t _ _ a b' ht
      · simp at h
    · rename_i a b' ht
      simp only [Option.some.injEq, Prod.mk.injEq] at h
      obtain ⟨_, rfl⟩ := h
      have := hx.sc_inv; subst this
      have := hy.sc_inv; subst this
      exact run_equalIn_string w (n + d) t a b' ht
    · rename_i fs xs ys ht
      split at h
      · rename_i hp
        obtain ⟨vs, rfl, hl1, hv1⟩ := hx.agg_inv
        obtain ⟨us, rfl, hl2, hv2⟩ := hy.agg_inv
        have hf : P.fieldsOf t = fs := by simp [Program.fieldsOf, ht]
        have ht' : P.underlying t = some (.struct (P.fieldsOf t)) := by rw [hf]; exact ht
        rw [show n + (d + 1) = (n + d) + 1 by omega, run_equalIn_struct w (n + d) t _ _ ht' hp, hf]
        exact eqFs_spec w (fun t x y c b v u => ih t x y c b v u) hl1 hl2 hv1 hv2 _ c b h hc
      · simp at h
    · rename_i m e xs ys ht
      split at h
      · rename_i i hi
        obtain ⟨vs, rfl, hl1, hv1⟩ := hx.agg_inv
        obtain ⟨us, rfl, hl2, hv2⟩ := hy.agg_inv
        have hce : P.cellsOf e = i.size := by simp [Program.cellsOf, hi]
        rw [show n + (d + 1) = (n + d) + 1 by omega, run_equalIn_array w (n + d) _ _ ht hi, hce]
        exact eqIs_spec w (fun t x y c b v u => ih t x y c b v u) hl1 hl2 hv1 hv2 _ c b h hc
      · simp at h
    · simp at h
def aggB : AVal → AVal → Bool
  | .agg _, .agg _ => true
  | _, _ => false
def eqAggA (P : Program) (op : BinOp) (t : TypeId) (x y : AVal) : Option (Prop × AVal) :=
  if P.eqGuardType P.depth t = false ∧ aggB x y = true then
    match eqA P 12 t x y with
    | some (c, b) => (outB op b).map fun v => (c, v)
    | none => none
  else none
theorem eqAgg_spec {P : Program} {op : BinOp} {t : TypeId} {x y : AVal} {c : Prop} {r : AVal} (h : eqAggA P op t x y = some (c, r)) (hc : c) {E : Env} {v u : Value} (hx : V E x v) (hy : V E y u) (ox oy : Operand) (w : World) :
    ∃ q, (do eqGuard op t ox oy v u; binOp op t v u : Sem Value).run P w = .ok q w ∧ V E r q := by
  unfold eqAggA at h
  split at h
  · rename_i hg
    split at h
    · rename_i c' b he
      simp only [Option.map_eq_some_iff, Prod.mk.injEq] at h
      obtain ⟨a, ha, rfl, rfl⟩ := h
      have he2 := eqA_spec (V0 := E) w 9988 12 t x y _ _ v u he hc hx hy
      obtain ⟨hg1, hg2⟩ := hg
      unfold aggB at hg2
      split at hg2
      · obtain ⟨vs, rfl, _, _⟩ := hx.agg_inv
        obtain ⟨us, rfl, _, _⟩ := hy.agg_inv
        refine run_eq_of (run_eqGuard_agg w op t ox oy _ _ hg1) he2 rfl rfl ha E
      · simp at hg2
    · simp at h
  · simp at h
end Go.Abs

set_option linter.unusedVariables false
set_option linter.unusedSimpArgs false
namespace Go.Abs
open Go
/-! make of a slice, an append of what is made, cap of what has no room, copy -/
theorem run_asInt (P : Program) (k : IntKind) (n : Int) (w : World) : (asInt (.int k n)).run P w = .ok n w := by
  simp [asInt, asIntOf]
def makeSliceA (P : Program) (t : TypeId) (x y : AVal) (rows : List Row) : Option (Prop × AVal × List Row) :=
  match P.underlying t with
  | some (.slice el) => match P.info? el with
    | some inf => match inf.size, (zeroA P el).bind AVal.cellsA with
      | sz + 1, some z => if z.length = sz + 1 ∧ inf.bytes ≤ 1000 then match x, y with
          | .sc (.int _ n), .sc (.int _ m) => some ((0 ≤ n ∧ n ≤ 1073741824) ∧ m = n, .row rows.length 0 n.toNat, rows ++ [⟨repA z n.toNat, sz + 1, .fresh⟩])
          | _, _ => none
        else none
      | _, _ => none
    | _ => none
  | _ => none
theorem zero_cells {P : Program} {el : TypeId} {z : List AVal} {w : World} (hz : (zeroA P el).bind AVal.cellsA = some z) : ∃ zv, (zeroValue el).run P w = .ok zv w ∧ ∀ E : Env, VC E z zv.cells := by
  cases hzz : zeroA P el with
  | none => simp [hzz] at hz
  | some zz =>
    simp only [hzz, Option.bind_some] at hz
    obtain ⟨zv, hzr, hzV⟩ := run_zero hzz w
    refine ⟨zv, hzr, fun E => (hzV E).cells hz (fun id off he => by
      exfalso
      subst he
      have := (hzV ⟨[], fun _ => none, w, fun _ _ => False⟩)
      generalize hq : AVal.ptr id off = q at this
      cases this <;> simp_all)⟩
theorem rep_VC {E : Env} {z : List AVal} {zc : Array Value} (h : VC E z zc) (hp : 0 < z.length) (n : Nat) : VC E (repA z n) ((Array.range (n * z.length)).map (fun i => zc[i % zc.size]!)) := by
  refine ⟨by simp [repA_length], fun i hi => ?_⟩
  rw [repA_length] at hi
  rw [repA_getD z n i hi]
  have hlt : i % z.length < z.length := Nat.mod_lt _ hp
  have := h.2 _ hlt
  have e1 : (((Array.range (n * z.length)).map (fun i => zc[i % zc.size]!)).getD i Go.undef) = zc.getD (i % z.length) Go.undef := by
    have hl := h.1
    have hlt' : i % zc.size < zc.size := by rw [← hl]; exact hlt
    rw [hl]
    have hi2 : i < n * zc.size := by rw [← hl]; exact hi
    simp [Array.getD, hi2, hlt']
  rw [e1]; exact this
theorem makeSlice_spec {P : Program} {t : TypeId} {x y r : AVal} {rows rows' : List Row} {c : Prop} (h : makeSliceA P t x y rows = some (c, r, rows')) (hc : c) {X : Nat → Nat → Prop} {m : Nat → Option Nat} {w : World} {v u : Value}
    (hrel : Rel ⟨rows, m, w, X⟩) (hv : V ⟨rows, m, w, X⟩ x v) (hu : V ⟨rows, m, w, X⟩ y u) :
    ∃ q w' m', (Instr.makeSlice t v u).run P w = .ok q w' ∧ Rel ⟨rows', m', w', X⟩ ∧ V ⟨rows', m', w', X⟩ r q ∧ rows.length ≤ rows'.length ∧ Evo rows.length ⟨rows, m, w, X⟩ ⟨rows', m', w', X⟩ := by
  unfold makeSliceA at h
  split at h
  case h_2 => simp at h
  rename_i el hs
  split at h
  case h_2 => simp at h
  rename_i inf hi
  split at h
  case h_2 => simp at h
  rename_i sz z hsz hz
  split at h
  case isFalse => simp at h
  rename_i hzl
  split at h
  case h_2 => simp at h
  rename_i k1 n k2 mm
  simp only [Option.some.injEq, Prod.mk.injEq] at h
  obtain ⟨rfl, rfl, rfl⟩ := h
  obtain ⟨⟨h0, h1⟩, rfl⟩ := hc
  rw [hv.sc_inv, hu.sc_inv]
  obtain ⟨zv, hzr, hzV⟩ := zero_cells (w := w) hz
  have hsize : ∀ w' : World, (sizeOf el).run P w' = .ok (sz + 1) w' := fun w' => by rw [run_sizeOf w' hi]; simp [Program.cellsOf, hi, hsz]
  have hty : ∀ w' : World, (typeInfo el).run P w' = .ok inf w' := fun w' => run_typeInfo w' hi
  obtain ⟨w', m', q1, q2, q3, q4, rfl⟩ := newRow_spec (P := P) hrel (rep_VC (hzV _) (by omega) mm.toNat) (sz + 1) el
  refine ⟨.slice (some ⟨w.heap.size, 0, none⟩) mm.toNat mm.toNat, _, m', ?_, q2, ?_, by simp, q4⟩
  · have hw : IntKind.i64.wrap mm = mm := IntWalk.i64_in _ (by omega)
    have hb : ¬ ((inf.bytes : Int) * mm > 2 ^ 48) := by
      have hm : (inf.bytes : Int) * mm ≤ 1000 * 1073741824 := Int.mul_le_mul (by omega) h1 h0 (by omega)
      omega
    have hno : ¬ ((decide (mm < 0) || decide ((inf.bytes : Int) * mm > 2 ^ 48) || decide (mm < 0) || decide (mm > mm)) = true) := by
      intro h
      simp only [Bool.or_eq_true, decide_eq_true_eq] at h
      omega
    simp only [Instr.makeSlice, Sem.run_bind, run_underlying hs, Result.andThen_ok, run_asInt, hty, hw]
    rw [if_neg hno]
    simp only [Sem.run_bind, run_askRoom, hsize, Result.andThen_ok]
    rw [hzl.1] at q1 ⊢
    split
    · rename_i e
      rw [e] at q1 ⊢
      simp only [Sem.run_bind, Sem.run_pure, Result.andThen_ok]
      have e0 : ∀ f : Nat → Value, (Array.map f (Array.range 0) : Array Value) = #[] := fun f => by apply Array.eq_empty_of_size_eq_zero; simp
      rw [e0] at q1 ⊢
      rw [q1]
      simp [e0]
    · simp only [Sem.run_bind, Sem.run_pure, Result.andThen_ok, hzr]
      rw [q1]; simp
  · refine .rowF _ 0 _ _ _ ⟨repA z mm.toNat, sz + 1, .fresh⟩ (by simp) rfl q3 (Nat.le_refl _) (by simp [repA_length, hzl.1]) (fun i hi => ?_)
    rw [Nat.zero_add, isSome_cell (alloc_new w _)]
    simp only at hi
    simpa [hzl.1] using hi
/-- a slice of what has no room -/
def sliceZ (P : Program) (t : TypeId) (ρ : Operand → AVal) (x : AVal) (lo hi mx : Option Operand) : Option (Prop × AVal) :=
  match optInt ρ lo, optInt ρ hi, mx, P.underlying t with
  | some l, some h, none, some (.slice el) => match tyS P el, x with
    | some _, .sl _ _ .nil => some (l.getD 0 = 0 ∧ h.getD 0 = 0, .sl [] 0 .cap0)
    | some _, .sl _ _ .cap0 => some (l.getD 0 = 0 ∧ h.getD 0 = 0, .sl [] 0 .cap0)
    | _, _ => none
  | _, _, _, _ => none
theorem cap0_inv {E : Env} {v : Value} {cs : List AVal} {z : Nat} {k : SlK} (h : V E (.sl cs z k) v) (hk : k = .nil ∨ k = .cap0) : v = .slice none 0 0 ∨ ∃ a, v = .slice (some a) 0 0 := by
  generalize hx : AVal.sl cs z k = x at h
  cases h with
  | slnil k' _ => exact .inl rfl
  | slz k' _ a => exact .inr ⟨a, rfl⟩
  | sl cells n k' b o cap vs hk' =>
    simp only [AVal.sl.injEq] at hx
    obtain ⟨_, _, rfl⟩ := hx
    rcases hk with rfl | rfl <;> rcases hk' with h | h <;> cases h
  | _ => cases hx
theorem cap0_inv' {E : Env} {v : Value} {k : SlK} (h : V E (.sl [] 0 k) v) (hk : k = .nil ∨ k = .cap0) : ∃ b, v = .slice b 0 0 := by
  rcases cap0_inv h hk with rfl | ⟨a, rfl⟩
  · exact ⟨none, rfl⟩
  · exact ⟨some a, rfl⟩
theorem sliceZ_spec {P : Program} {t : TypeId} {ρ : Operand → AVal} {a : Act} {ox : Operand} {lo hi mx : Option Operand} {rows : List Row} {r : AVal} {c : Prop} (h : sliceZ P t ρ (ρ ox) lo hi mx = some (c, r)) (hc : c)
    {X : Nat → Nat → Prop} {m : Nat → Option Nat} {w : World} (hx : V ⟨rows, m, w, X⟩ (ρ ox) (a.eval ox)) (hv : ∀ x, (lo = some x ∨ hi = some x ∨ mx = some x) → V ⟨rows, m, w, X⟩ (ρ x) (a.eval x)) :
    ∃ q, (Instr.sliceAt t (a.eval ox) (lo.map a.eval) (hi.map a.eval) (mx.map a.eval)).run P w = .ok q w ∧ V ⟨rows, m, w, X⟩ r q := by
  generalize a.eval ox = v at hx
  generalize ρ ox = x at h hx
  unfold sliceZ at h
  split at h
  case h_2 => simp at h
  rename_i l hh el hl hhh ht
  have core : ∀ {sz : Nat}, tyS P el = some sz → (c, r) = ((l.getD 0 = 0 ∧ hh.getD 0 = 0, .sl [] 0 .cap0) : Prop × AVal) → (v = .slice none 0 0 ∨ ∃ a, v = .slice (some a) 0 0) →
      ∃ q, (Instr.sliceAt t v (lo.map a.eval) (hi.map a.eval) (none.map a.eval)).run P w = .ok q w ∧ V ⟨rows, m, w, X⟩ r q := by
    intro sz hsz e hvv
    simp only [Prod.mk.injEq] at e
    obtain ⟨rfl, rfl⟩ := e
    have hb : (Instr.sliceBounds true 0 0 (lo.map a.eval) (hi.map a.eval) (none.map a.eval)).run P w = .ok (0, 0, 0) w := by
      have hcc : (0 : Int) ≤ l.getD 0 ∧ l.getD 0 ≤ hh.getD (0 : Nat) ∧ hh.getD (0 : Nat) ≤ (none : Option Int).getD (0 : Nat) ∧ (none : Option Int).getD (0 : Nat) ≤ (0 : Nat) := by
        have := hc.1; have := hc.2
        simp only [Option.getD_none]
        have e0 : hh.getD ((0 : Nat) : Int) = hh.getD 0 := rfl
        omega
      have := run_sliceBounds (P := P) (w := w) (b := true) (len := 0) (cap := 0) (E := ⟨rows, m, w, X⟩) (mx := none) (mm := none) hl hhh rfl hv (by simp) hcc (Nat.le_refl _)
      rw [this]
      have e1 : (l.getD 0).toNat = 0 := by rw [hc.1]; rfl
      have e2 : (hh.getD ((0 : Nat) : Int)).toNat = 0 := by rw [show hh.getD ((0 : Nat) : Int) = hh.getD 0 from rfl, hc.2]; rfl
      rw [e1, e2]; rfl
    rcases hvv with rfl | ⟨ad, rfl⟩
    · refine ⟨.slice none 0 0, ?_, .slnil _ (by simp)⟩
      simp only [Option.map_none] at hb ⊢
      simp only [Instr.sliceAt, Sem.run_bind, run_underlying ht, Result.andThen_ok, Instr.slice, hb, run_sizeOf' hsz]
      simp
    · refine ⟨.slice (some ad) 0 0, ?_, .slz _ (by simp) _⟩
      simp only [Option.map_none] at hb ⊢
      simp only [Instr.sliceAt, Sem.run_bind, run_underlying ht, Result.andThen_ok, Instr.slice, hb, run_sizeOf' hsz]
      simp
  split at h
  · rename_i sz hsz
    simp only [Option.some.injEq] at h
    exact core hsz h.symm (cap0_inv hx (.inl rfl))
  · rename_i sz hsz
    simp only [Option.some.injEq] at h
    exact core hsz h.symm (cap0_inv hx (.inr rfl))
  · simp at h
/-- an append of what is made, behind nil or a slice without room -/
def appendZ (P : Program) (ts : Array TypeId) (base src : AVal) (rows : List Row) : Option (Prop × AVal × List Row) :=
  match ts[0]?, ts[1]? with
  | some st, some xt => match P.underlying st, P.underlying xt with
    | some (.slice el), some (.int _) => match P.info? el with
      | some inf => match inf.size, (zeroA P el).bind AVal.cellsA with
        | sz + 1, some z => if z.length = sz + 1 ∧ inf.bytes ≤ 1000 then match base, src with
            | .sl [] 0 .nil, .sc (.int _ n) => some (0 < n ∧ n ≤ 1073741824, .row rows.length 0 n.toNat, rows ++ [⟨repA z n.toNat, sz + 1, .fresh⟩])
            | .sl [] 0 .cap0, .sc (.int _ n) => some (0 < n ∧ n ≤ 1073741824, .row rows.length 0 n.toNat, rows ++ [⟨repA z n.toNat, sz + 1, .fresh⟩])
            | _, _ => none
          else none
        | _, _ => none
      | _ => none
    | _, _ => none
  | _, _ => none
theorem run_append_zeros {P : Program} {st xt el : TypeId} {sz : Nat} {n : Int} {w : World} {base : Option Addr} {k : IntKind} {zv : Value} {inf : TypeInfo} {ts : Array TypeId} {ty : TypeId} {ki : IntKind}
    (hs : P.underlying st = some (.slice el)) (hi : P.info? el = some inf) (hsz : inf.size = sz + 1) (ht0 : ts[0]? = some st) (ht1 : ts[1]? = some xt) (hd : P.underlying xt = some (.int ki)) (h0 : 0 < n) (h1 : n ≤ 1073741824) (hb : inf.bytes ≤ 1000)
    (hzr : ∀ w' : World, (zeroValue el).run P w' = .ok zv w') :
    ∃ cap, ∃ rest : Array Value, n.toNat ≤ cap ∧ (Builtin.append_ ts ty #[.slice base 0 0, .int k n]).run P w = .ok (.slice (some ⟨w.heap.size, 0, none⟩) n.toNat cap) (({ w with drawn := w.drawn + 1 } : World).alloc (.cells (Builtin.zeroCells zv.cells n.toNat ++ rest) el)) ∧
      rest.size = (cap - n.toNat) * zv.cells.size := by
  have hsize : ∀ w' : World, (sizeOf el).run P w' = .ok (sz + 1) w' := fun w' => by rw [run_sizeOf w' hi]; simp [Program.cellsOf, hi, hsz]
  have hty : ∀ w' : World, (typeInfo el).run P w' = .ok inf w' := fun w' => run_typeInfo w' hi
  let cap := (Question.appendCap (0 + n.toNat) 0 el).cut (w.tape w.drawn (.appendCap (0 + n.toNat) 0 el))
  have hcap : n.toNat ≤ cap := by have : 0 + n.toNat ≤ cap := by show _ ≤ _ + _; omega
                                  omega
  refine ⟨cap, Builtin.zeroCells zv.cells (cap - n.toNat), hcap, ?_, by simp [Builtin.zeroCells]⟩
  have hw : IntKind.i64.wrap n = n := IntWalk.i64_in _ (by omega)
  have hg := nextslicecap_le (need := 0 + n.toNat) (cap := 0) (by omega) (by omega)
  have hg2 : ¬ (Builtin.nextslicecap (0 + n.toNat) 0 * inf.bytes > 2 ^ 48) := by
    have : Builtin.nextslicecap (0 + n.toNat) 0 * inf.bytes ≤ 274878169088 * 1000 := Nat.mul_le_mul hg hb
    have : (2 : Nat) ^ 48 = 281474976710656 := by decide
    omega
  have hb2 : ¬ (n * (inf.bytes : Int) > 2 ^ 48) := by
    have hm : n * (inf.bytes : Int) ≤ 1073741824 * 1000 := Int.mul_le_mul h1 (by omega) (by omega) (by omega)
    omega
  have hfc : ∀ w' : World, (choose (.appendCap (0 + n.toNat) 0 el)).run P w' = .ok ((Question.appendCap (0 + n.toNat) 0 el).cut (w'.tape w'.drawn (.appendCap (0 + n.toNat) 0 el))) { w' with drawn := w'.drawn + 1 } := fun w' => by
    rw [run_choose, show (Question.appendCap (0 + n.toNat) 0 el).forced = false from rfl]; rfl
  have hmax : ¬ ((((0 + n.toNat : Nat)) : Int) > IntKind.i64.max ∧ (True ∨ inf.bytes = 0)) := by
    rintro ⟨h, _⟩
    have : IntKind.i64.max = 9223372036854775807 := by decide
    omega
  have hne : ¬ (n.toNat * (sz + 1) = 0) := by
    intro h
    rcases Nat.mul_eq_zero.1 h with h | h <;> omega
  simp only [Builtin.append_, List.getElem?_toArray, List.getElem?_cons_zero, List.getElem?_cons_succ, ht0, ht1, Sem.run_bind, run_underlying hs, Result.andThen_ok, hsize, run_underlying hd, Sem.run_pure, run_asInt, hw, if_true]
  rw [if_neg (show ¬ (n < 0) by omega)]
  simp only [Sem.run_bind, hty, Result.andThen_ok]
  rw [if_neg hb2]
  simp only [Sem.run_bind, Sem.run_pure, Result.andThen_ok]
  rw [if_neg (show ¬ (0 + n.toNat ≤ 0) by omega)]
  simp only [Sem.run_bind, hty, Result.andThen_ok]
  rw [if_neg hmax]
  simp only [Sem.run_bind, hty, Result.andThen_ok]
  rw [if_neg hg2]
  simp only [Sem.run_bind, hfc, hty, Result.andThen_ok, run_askRoom]
  have hold : ∀ w' : World, (Builtin.firstCells (sz + 1) 0 (.slice base 0 0)).run P w' = .ok #[] w' := fun w' => by
    cases base with
    | none => rfl
    | some p => simp only [Option.map_some, Builtin.firstCells, Nat.zero_mul]; exact run_loadCells _ _ 0 (fun _ => Go.undef) (fun j hj => by omega)
  rw [hold]
  simp only [Sem.run_bind, Result.andThen_ok, Bool.not_true, Bool.false_eq_true, if_false]
  rw [if_neg hne]
  simp only [Sem.run_bind, Result.andThen_ok, hzr, Sem.run_pure, newRow, run_newObj, Nat.zero_add]
  have e1 : (#[] ++ Builtin.zeroCells zv.cells n.toNat ++ Builtin.zeroCells zv.cells (cap - n.toNat) : Array Value) = Builtin.zeroCells zv.cells n.toNat ++ Builtin.zeroCells zv.cells (cap - n.toNat) := by simp
  rw [← e1]
  simp only [cap, Nat.zero_add]
  rfl
theorem appendZ_spec {P : Program} {ts : Array TypeId} {ty : TypeId} {base src r : AVal} {rows rows' : List Row} {c : Prop} (h : appendZ P ts base src rows = some (c, r, rows')) (hc : c) {X : Nat → Nat → Prop} {m : Nat → Option Nat} {w : World} {v u : Value}
    (hrel : Rel ⟨rows, m, w, X⟩) (hv : V ⟨rows, m, w, X⟩ base v) (hu : V ⟨rows, m, w, X⟩ src u) :
    ∃ q w' m', (Builtin.append_ ts ty #[v, u]).run P w = .ok q w' ∧ Rel ⟨rows', m', w', X⟩ ∧ V ⟨rows', m', w', X⟩ r q ∧ rows.length ≤ rows'.length ∧ Evo rows.length ⟨rows, m, w, X⟩ ⟨rows', m', w', X⟩ := by
  unfold appendZ at h
  split at h
  case h_2 => simp at h
  rename_i st xt ht0 ht1
  split at h
  case h_2 => simp at h
  rename_i el ki hs hd
  split at h
  case h_2 => simp at h
  rename_i inf hi
  split at h
  case h_2 => simp at h
  rename_i sz z hsz hz
  split at h
  case isFalse => simp at h
  rename_i hzl
  have core : ∀ (b : Option Addr) (k : IntKind) (n : Int), v = .slice b 0 0 → u = .int k n → 0 < n ∧ n ≤ 1073741824 → r = .row rows.length 0 n.toNat → rows' = rows ++ [⟨repA z n.toNat, sz + 1, .fresh⟩] →
      ∃ q w' m', (Builtin.append_ ts ty #[v, u]).run P w = .ok q w' ∧ Rel ⟨rows', m', w', X⟩ ∧ V ⟨rows', m', w', X⟩ r q ∧ rows.length ≤ rows'.length ∧ Evo rows.length ⟨rows, m, w, X⟩ ⟨rows', m', w', X⟩ := by
    rintro b k n rfl rfl ⟨h0, h1⟩ rfl rfl
    obtain ⟨zv, hzr, hzV⟩ := zero_cells (w := w) hz
    have hzr' : ∀ w' : World, (zeroValue el).run P w' = .ok zv w' := fun w' => by
      cases hzz : inf.zero with
      | none =>
        have hty : ∀ w' : World, (typeInfo el).run P w' = .ok inf w' := fun w' => run_typeInfo w' hi
        simp [zeroValue, hty, hzz] at hzr
      | some q =>
        have hty : ∀ w' : World, (typeInfo el).run P w' = .ok inf w' := fun w' => run_typeInfo w' hi
        simp [zeroValue, hty, hzz] at hzr ⊢
        exact hzr
    obtain ⟨cap, rest, hcap, hrun, hrest⟩ := run_append_zeros (P := P) (w := w) (ty := ty) (base := b) (k := k) hs hi hsz ht0 ht1 hd h0 h1 hzl.2 hzr'
    obtain ⟨hreld, hevd⟩ := same_heap (E := ⟨rows, m, w, X⟩) hrel (w' := { w with drawn := w.drawn + 1 }) rfl rfl rfl rfl rows.length
    have hvc := rep_VC (hzV ⟨rows, m, { w with drawn := w.drawn + 1 }, X⟩) (by omega) n.toNat
    have hzs : zv.cells.size = z.length := (hzV ⟨rows, m, w, X⟩).1.symm
    have hzc : Builtin.zeroCells zv.cells n.toNat = (Array.range (n.toNat * z.length)).map (fun i => zv.cells[i % zv.cells.size]!) := by rw [Builtin.zeroCells, hzs]
    rw [← hzc] at hvc
    have hcs : (Builtin.zeroCells zv.cells n.toNat).size = n.toNat * z.length := by simp [Builtin.zeroCells, hzs]
    obtain ⟨k1, k2⟩ := alloc_step hreld ⟨repA z n.toNat, sz + 1, .fresh⟩ (Builtin.zeroCells zv.cells n.toNat ++ rest) el rfl (by simp [repA_length, hcs]) (fun j hj => by
      have h1 := hvc.2 j hj
      have h2 : j < (Builtin.zeroCells zv.cells n.toNat).size := by rw [← hvc.1]; exact hj
      have e : (Builtin.zeroCells zv.cells n.toNat ++ rest).getD j Go.undef = (Builtin.zeroCells zv.cells n.toNat).getD j Go.undef := by
        simp [Array.getD_eq_getD_getElem?, Array.getElem?_append_left h2]
      rw [e]; exact h1)
    refine ⟨_, _, _, hrun, k1, ?_, by simp, hevd.trans k2⟩
    refine .rowF _ 0 _ _ cap ⟨repA z n.toNat, sz + 1, .fresh⟩ (by simp) rfl (by simp) hcap (by simp [repA_length, hzl.1]) (fun i hi => ?_)
    rw [Nat.zero_add, isSome_cell (alloc_new _ _)]
    simp only at hi
    simp only [Array.size_append, hcs, hrest, hzs, hzl.1]
    rw [← Nat.add_mul]
    have : n.toNat + (cap - n.toNat) = cap := by omega
    rw [this]; exact hi
  split at h
  · rename_i k n
    simp only [Option.some.injEq, Prod.mk.injEq] at h
    obtain ⟨rfl, rfl, rfl⟩ := h
    obtain ⟨b, hb⟩ := cap0_inv' hv (.inl rfl)
    exact core b k n hb hu.sc_inv hc rfl rfl
  · rename_i k n
    simp only [Option.some.injEq, Prod.mk.injEq] at h
    obtain ⟨rfl, rfl, rfl⟩ := h
    obtain ⟨b, hb⟩ := cap0_inv' hv (.inr rfl)
    exact core b k n hb hu.sc_inv hc rfl rfl
  · simp at h
/-- cap of what has no room -/
def capA (P : Program) (t : TypeId) (x : AVal) : Option AVal :=
  match P.underlying t, x with
  | some (.slice _), .sl [] 0 .nil => some (.sc (.int .i64 0))
  | some (.slice _), .sl [] 0 .cap0 => some (.sc (.int .i64 0))
  | _, _ => none
theorem cap_spec {P : Program} {ts : Array TypeId} {t ty : TypeId} {x r : AVal} (ht : ts[0]? = some t) (h : capA P t x = some r) {E : Env} {v : Value} (hv : V E x v) (w : World) : ∃ q, (Builtin.cap_ ts ty #[v]).run P w = .ok q w ∧ V E r q := by
  unfold capA at h
  split at h
  · rename_i e hd
    obtain ⟨b, rfl⟩ := cap0_inv' hv (.inl rfl)
    simp only [Option.some.injEq] at h; subst h
    refine ⟨.int .i64 0, ?_, .sc _ rfl⟩
    simp [Builtin.cap_, ht, run_underlying hd, goInt]
  · rename_i e hd
    obtain ⟨b, rfl⟩ := cap0_inv' hv (.inr rfl)
    simp only [Option.some.injEq] at h; subst h
    refine ⟨.int .i64 0, ?_, .sc _ rfl⟩
    simp [Builtin.cap_, ht, run_underlying hd, goInt]
  · simp at h
end Go.Abs

/-! maps of whole numbers -/
set_option linter.unusedVariables false
set_option linter.unusedSimpArgs false
namespace Go.Abs
open Go
def mpc (l : List (Int × Int)) : List AVal := l.flatMap fun p => [.sc (.int .i64 p.1), .sc (.int .i64 p.2)]
def findI : List AVal → Int → Option Int
  | .sc (.int _ k) :: .sc (.int _ v) :: r, x => if x = k then some v else findI r x
  | _, _ => none
def findL : List (Int × Int) → Int → Option Int
  | [], _ => none
  | p :: l, x => if x = p.1 then some p.2 else findL l x
theorem findI_mpc : ∀ (l : List (Int × Int)) (x : Int), findI (mpc l) x = findL l x
  | [], x => rfl
  | p :: l, x => by
    show (if x = p.1 then some p.2 else findI (mpc l) x) = _
    rw [findI_mpc l x]; rfl
theorem mpc_len (l : List (Int × Int)) : (mpc l).length = 2 * l.length := by
  induction l with
  | nil => rfl
  | cons p l ih => show (mpc l).length + 1 + 1 = _; rw [ih, List.length_cons]; omega
theorem mpc_k : ∀ (l : List (Int × Int)) (j : Nat) (h : j < l.length), (mpc l).getD (2 * j) .undef = .sc (.int .i64 l[j].1) ∧ (mpc l).getD (2 * j + 1) .undef = .sc (.int .i64 l[j].2)
  | p :: l, 0, h => ⟨rfl, rfl⟩
  | p :: l, j + 1, h => by
    have := mpc_k l j (by simpa using h)
    exact this
/-- The entries are those. -/
def EsOf (l : List (Int × Int)) (es : List MapEntry) : Prop := es.map (fun e => (e.key, e.val)) = l.map fun p => (Value.int .i64 p.1, Value.int .i64 p.2)
theorem find_now {l : List (Int × Int)} {x : Int} : ∀ {es : List MapEntry} (i : Nat), EsOf l es → ∃ r, Instr.findNow (.int .i64) (.int .i64 x) es i = some r ∧ r.map (·.2) = (findL l x).map fun v => Value.int .i64 v := by
  induction l with
  | nil =>
    intro es i h
    have : es = [] := by simpa [EsOf] using h
    subst this
    exact ⟨none, rfl, rfl⟩
  | cons p l ih =>
    intro es i h
    cases es with
    | nil => simp [EsOf] at h
    | cons e es =>
      simp only [EsOf, List.map_cons, List.cons.injEq, Prod.mk.injEq] at h
      obtain ⟨⟨h1, h2⟩, h3⟩ := h
      by_cases hx : x = p.1
      · refine ⟨some (i, e.val), ?_, ?_⟩
        · simp [Instr.findNow, Instr.sameNow, h1, hx]
        · simp [findL, hx, h2]
      · obtain ⟨r, r1, r2⟩ := ih (es := es) (i + 1) h3
        refine ⟨r, ?_, ?_⟩
        · simp only [Instr.findNow, Instr.sameNow, h1, if_true]
          have : (x == p.1) = false := by simpa using hx
          rw [this]; exact r1
        · simp only [findL]; rw [if_neg hx]; exact r2
theorem V.int_eq {E : Env} {n : Int} {v : Value} (h : V E (.sc (.int .i64 n)) v) : v = .int .i64 n := h.sc_inv
theorem esOf_rel {E : Env} {l : List (Int × Int)} {es : Array MapEntry} (hl : (mpc l).length = 2 * es.size) (h : ∀ j (h : j < es.size), V E ((mpc l).getD (2 * j) .undef) es[j].key ∧ V E ((mpc l).getD (2 * j + 1) .undef) es[j].val) : EsOf l es.toList := by
  rw [mpc_len] at hl
  apply List.ext_getElem
  · simp; omega
  · intro j h1 h2
    have h1' : j < es.size := by simpa using h1
    have h2' : j < l.length := by simpa using h2
    obtain ⟨k1, k2⟩ := mpc_k l j h2'
    obtain ⟨e1, e2⟩ := h j h1'
    rw [k1] at e1; rw [k2] at e2
    simp [e1.int_eq, e2.int_eq]
theorem run_check_int {P : Program} {w : World} {kt : TypeId} {b : Bool} (hk : P.underlying kt = some (.int .i64)) (x : Int) : (Instr.checkKey b 10000 kt (.int .i64 x)).run P w = .ok () w :=
  MapKept.run_checkKey (k := .int .i64 x) hk (by simp [MapKept.IsKey]) b 9999
theorem run_lookup_int {P : Program} {w : World} {t kt et : TypeId} {r k : Nat} {es : Array MapEntry} {l : List (Int × Int)} {x : Int} (ht : P.underlying t = some (.map kt et)) (hk : P.underlying kt = some (.int .i64)) (hb : w.heap[r]? = some (.map es k)) (he : EsOf l es.toList)
    (hz : ∀ w, (zeroValue et).run P w = .ok (.int .i64 0) w) (ok : Bool) :
    (Instr.lookup t (.map (some r)) (.int .i64 x) ok).run P w = .ok (if ok then .tuple #[.int .i64 ((findL l x).getD 0), .bool (findL l x).isSome] else .int .i64 ((findL l x).getD 0)) w := by
  obtain ⟨q, q1, q2⟩ := find_now (l := l) (x := x) 0 he
  have hf := MapKept.run_findKey (P := P) (w := w) hk q1
  simp only [Instr.lookup, Sem.run_bind, run_underlying ht, Result.andThen_ok, MapKept.run_getObj_map hb, Sem.run_pure, run_check_int hk, hf]
  cases q with
  | none =>
    have : findL l x = none := by simpa using q2.symm
    rw [this]
    simp only [Sem.run_bind, hz, Result.andThen_ok, Sem.run_pure]
    cases ok <;> rfl
  | some p =>
    cases hfl : findL l x with
    | none => rw [hfl] at q2; simp at q2
    | some v =>
      rw [hfl] at q2
      simp at q2
      simp only [Sem.run_bind, Result.andThen_ok, Sem.run_pure, q2]
      cases ok <;> rfl
theorem run_update_int {P : Program} {w : World} {t kt et : TypeId} {r k : Nat} {es : Array MapEntry} {l : List (Int × Int)} {x : Int} {v : Value} (ht : P.underlying t = some (.map kt et)) (hk : P.underlying kt = some (.int .i64)) (hb : w.heap[r]? = some (.map es k)) (he : EsOf l es.toList) (hn : findL l x = none) :
    (Instr.mapUpdate t (.map (some r)) (.int .i64 x) v).run P w = .ok () { w with heap := w.heap.setIfInBounds r (.map (es.push { key := .int .i64 x, val := v, born := k }) (k + 1)) } := by
  obtain ⟨q, q1, q2⟩ := find_now (l := l) (x := x) 0 he
  have hf := MapKept.run_findKey (P := P) (w := w) hk q1
  rw [hn] at q2
  have : q = none := by simpa using q2
  subst this
  simp only [Instr.mapUpdate, Sem.run_bind, run_underlying ht, Result.andThen_ok, MapKept.run_getObj_map hb, run_check_int hk, hf, MapKept.run_setObj_map _ hb]
/-- A map comes into being. -/
theorem map_new {E : Env} (hE : Rel E) (k : Nat) :
    let E' : Env := ⟨E.rows ++ [⟨[], 0, .map⟩], fun i => if i = E.rows.length then some E.w.heap.size else E.m i, E.w.alloc (.map #[] k), E.x⟩
    Rel E' ∧ Evo E.rows.length E E' := by
  intro E'
  have hold : ∀ {i : Nat}, i < E.rows.length → E'.m i = E.m i := fun h => by show (if _ then _ else _) = _; rw [if_neg (by omega)]
  have hnew : E'.m E.rows.length = some E.w.heap.size := by show (if _ then _ else _) = _; rw [if_pos rfl]
  have hheap : ∀ {k : Nat}, k < E.w.heap.size → E'.w.heap[k]? = E.w.heap[k]? := fun h => alloc_old h
  have hI : ∀ b o v, Imm E b o → E.w.cell? ⟨b, o, none⟩ = some v → Imm E' b o ∧ E'.w.cell? ⟨b, o, none⟩ = some v := by
    intro b o v h hc
    refine ⟨⟨by show b < (E.w.alloc _).heap.size; simp; have := h.1; omega, h.2.1, ?_⟩, by rw [cell_congr (hheap h.1)]; exact hc⟩
    intro id s hs hns hm
    rcases get_append_cases hs with ⟨hlt, hs⟩ | ⟨he, _⟩
    · rw [hold hlt] at hm; exact h.2.2 id s hs hns hm
    · subst he; rw [hnew] at hm; have := h.1; simp at hm; omega
  have hV : ∀ x v, V E x v → V E' x v := fun x v h => by
    refine V.mono (N := E.rows.length) hI (fun id s _ hs => ⟨s, get_append_old hs, RowEvo.keep (hold (lt_of_get hs)) ?_⟩) h h.refLt
    intro hst b o hm hc
    rw [cell_congr (hheap (hE.lt hs (by rcases hst with h | h <;> simp [h]) hm))]; exact hc
  refine ⟨⟨?_, ?_, ?_, ?_, ?_, ?_⟩, ⟨fun x v h _ => hV x v h, by show _ ≤ (E.w.alloc _).heap.size; simp, ?_, rfl, rfl, rfl, hI⟩⟩
  · intro b o h; show b < (E.w.alloc _).heap.size; have := hE.xlt b o h; simp; omega
  · intro i s b hs hns hi o hx
    rcases get_append_cases hs with ⟨hlt, hs⟩ | ⟨he, he2⟩
    · rw [hold hlt] at hi; exact hE.xr i s b hs hns hi o hx
    · rw [he, hnew] at hi; simp at hi; have := hE.xlt b o hx; omega
  · intro i j s t b hs ht hns hnt hi hj
    rcases get_append_cases hs with ⟨hlt, hs⟩ | ⟨he, he2⟩ <;> rcases get_append_cases ht with ⟨hlt', ht⟩ | ⟨he', he2'⟩
    · rw [hold hlt] at hi; rw [hold hlt'] at hj; exact hE.inj i j s t b hs ht hns hnt hi hj
    · rw [hold hlt] at hi; rw [he', hnew] at hj; have := hE.lt hs hns hi; simp at hj; omega
    · rw [hold hlt'] at hj; rw [he, hnew] at hi; have := hE.lt ht hnt hj; simp at hi; omega
    · omega
  · intro i s hs hns hnm
    rcases get_append_cases hs with ⟨hlt, hs⟩ | ⟨he, he2⟩
    · rcases hE.own i s hs hns hnm with h | ⟨b, c', e', h1, h2, h3, h4⟩
      · exact .inl ⟨(hold hlt).trans h.1, h.2⟩
      · exact .inr ⟨b, c', e', (hold hlt).trans h1, (hheap (lt_of_heap h2)).trans h2, h3, fun j hj => hV _ _ (h4 j hj)⟩
    · subst he2; simp at hnm
  · intro i s hs hg
    rcases get_append_cases hs with ⟨hlt, hs⟩ | ⟨he, he2⟩
    · exact hE.grown i s hs hg
    · subst he2; simp at hg
  · intro i s hs hg
    rcases get_append_cases hs with ⟨hlt, hs⟩ | ⟨he, he2⟩
    · obtain ⟨b, es, k, h1, h2, h3, h4⟩ := hE.map i s hs hg
      exact ⟨b, es, k, (hold hlt).trans h1, (hheap (lt_of_heap h2)).trans h2, h3, fun j hj => ⟨hV _ _ (h4 j hj).1, hV _ _ (h4 j hj).2⟩⟩
    · subst he; subst he2
      exact ⟨_, #[], k, hnew, alloc_new _ _, rfl, fun j hj => by simp at hj⟩
  · intro b hb hfree
    refine ⟨hheap hb, fun id s hs hns hm => ?_⟩
    rcases get_append_cases hs with ⟨hlt, hs⟩ | ⟨he, _⟩
    · rw [hold hlt] at hm; exact hfree id s hs hns hm
    · subst he; rw [hnew] at hm; simp at hm; omega
/-- A map has one more. -/
theorem map_more {E : Env} (hE : Rel E) {id : Nat} {r : Row} (hr : E.rows[id]? = some r) (hs : r.st = .map) {b k : Nat} {es : Array MapEntry} (hm : E.m id = some b) (hb : E.w.heap[b]? = some (.map es k)) (hl : r.cells.length = 2 * es.size)
    (hv : ∀ j (h : j < es.size), V E (r.cells.getD (2 * j) .undef) es[j].key ∧ V E (r.cells.getD (2 * j + 1) .undef) es[j].val) (x y : AVal) (u v : Value) (hu : V E x u) (hvv : V E y v) (k' : Nat) :
    let E' : Env := ⟨E.rows.set id ⟨r.cells ++ [x, y], r.esz, .map⟩, E.m, { E.w with heap := E.w.heap.setIfInBounds b (.map (es.push { key := u, val := v, born := k }) k') }, E.x⟩
    Rel E' ∧ Evo E.rows.length E E' := by
  intro E'
  have hlt := lt_of_heap hb
  have hoth : ∀ b2, b2 ≠ b → E'.w.heap[b2]? = E.w.heap[b2]? := fun b2 h => by
    show (E.w.heap.setIfInBounds b _)[b2]? = _
    rw [Array.getElem?_setIfInBounds_ne (fun h2 => h h2.symm)]
  have hsame : E'.w.heap[b]? = some (.map (es.push { key := u, val := v, born := k }) k') := by
    show (E.w.heap.setIfInBounds b _)[b]? = _
    rw [Array.getElem?_setIfInBounds_self_of_lt hlt]
  have hsz : E'.w.heap.size = E.w.heap.size := by show (E.w.heap.setIfInBounds b _).size = _; simp
  have hnb : ∀ b2 o u2, E.w.cell? ⟨b2, o, none⟩ = some u2 → b2 ≠ b := fun b2 o u2 h e => by subst e; simp [World.cell?, hb] at h
  have hI : ∀ b o v, Imm E b o → E.w.cell? ⟨b, o, none⟩ = some v → Imm E' b o ∧ E'.w.cell? ⟨b, o, none⟩ = some v := by
    intro b2 o u2 h hc
    refine ⟨⟨by rw [hsz]; exact h.1, h.2.1, fun i s h1 h2 h3 => ?_⟩, by rw [cell_congr (hoth b2 (hnb b2 o u2 hc))]; exact hc⟩
    rcases get_set_cases h1 with ⟨rfl, rfl, _⟩ | ⟨_, h1'⟩
    · have := (h.2.2 i r hr (by simp [hs]) h3).1
      simp [hs] at this
    · exact h.2.2 i s h1' h2 h3
  have hV : ∀ x v, V E x v → V E' x v := fun x v h => by
    refine V.mono (N := E.rows.length) hI (fun i s _ h1 => ?_) h h.refLt
    by_cases e : i = id
    · subst e
      rw [hr] at h1; cases h1
      exact ⟨_, get_set_same hr, .map hs rfl rfl⟩
    · refine ⟨s, by show (E.rows.set id _)[i]? = _; rw [get_set_other e]; exact h1, RowEvo.keep rfl (fun hst b2 o h2 h3 => ?_)⟩
      obtain ⟨u2, h4⟩ := Option.isSome_iff_exists.1 h3
      rw [cell_congr (hoth b2 (hnb b2 o u2 h4))]; exact h3
  refine ⟨⟨fun b2 o hx => by rw [hsz]; exact hE.xlt b2 o hx, ?_, ?_, ?_, ?_, ?_⟩, ⟨fun x v h _ => hV x v h, Nat.le_of_eq hsz.symm, ?_, rfl, rfl, rfl, hI⟩⟩
  · intro i s b2 h1 h2 h3 o
    rcases get_set_cases h1 with ⟨rfl, rfl, _⟩ | ⟨_, h1'⟩
    · exact hE.xr i r b2 hr (by simp [hs]) h3 o
    · exact hE.xr i s b2 h1' h2 h3 o
  · intro i j s t b2 h1 h2 n1 n2 m1 m2
    have key : ∀ (i : Nat) (s : Row), (E.rows.set id ⟨r.cells ++ [x, y], r.esz, .map⟩)[i]? = some s → s.st ≠ .frozen → ∃ s', E.rows[i]? = some s' ∧ s'.st ≠ .frozen := fun i s h n => by
      rcases get_set_cases h with ⟨rfl, rfl, _⟩ | ⟨_, h'⟩
      · exact ⟨r, hr, by simp [hs]⟩
      · exact ⟨s, h', n⟩
    obtain ⟨s', p1, p2⟩ := key i s h1 n1
    obtain ⟨t', q1, q2⟩ := key j t h2 n2
    exact hE.inj i j s' t' b2 p1 q1 p2 q2 m1 m2
  · intro i s h1 n1 n2
    rcases get_set_cases h1 with ⟨rfl, rfl, _⟩ | ⟨hne, h1'⟩
    · simp at n2
    · rcases hE.own i s h1' n1 n2 with h | ⟨b2, c, e, k1, k2, k3, k4⟩
      · exact .inl h
      · have : b2 ≠ b := fun e0 => by subst e0; rw [hb] at k2; cases k2
        exact .inr ⟨b2, c, e, k1, (hoth b2 this).trans k2, k3, fun j hj => hV _ _ (k4 j hj)⟩
  · intro i s h1 hg
    rcases get_set_cases h1 with ⟨rfl, rfl, _⟩ | ⟨_, h1'⟩
    · simp at hg
    · exact hE.grown i s h1' hg
  · intro i s h1 hg
    rcases get_set_cases h1 with ⟨rfl, rfl, _⟩ | ⟨hne, h1'⟩
    · refine ⟨b, _, k', hm, hsame, by simp [hl]; omega, fun j hj => ?_⟩
      rw [Array.size_push] at hj
      rw [Array.getElem_push]
      split
      · rename_i h2
        have e1 : (r.cells ++ [x, y]).getD (2 * j) .undef = r.cells.getD (2 * j) .undef := by rw [List.getD_eq_getElem?_getD, List.getElem?_append_left (by omega), ← List.getD_eq_getElem?_getD]
        have e2 : (r.cells ++ [x, y]).getD (2 * j + 1) .undef = r.cells.getD (2 * j + 1) .undef := by rw [List.getD_eq_getElem?_getD, List.getElem?_append_left (by omega), ← List.getD_eq_getElem?_getD]
        show V E' ((r.cells ++ [x, y]).getD (2 * j) .undef) _ ∧ V E' ((r.cells ++ [x, y]).getD (2 * j + 1) .undef) _
        rw [e1, e2]
        exact ⟨hV _ _ (hv j h2).1, hV _ _ (hv j h2).2⟩
      · have ej : j = es.size := by omega
        subst ej
        have e1 : (r.cells ++ [x, y]).getD (2 * es.size) .undef = x := by rw [List.getD_eq_getElem?_getD, List.getElem?_append_right (by omega), hl]; simp
        have e2 : (r.cells ++ [x, y]).getD (2 * es.size + 1) .undef = y := by rw [List.getD_eq_getElem?_getD, List.getElem?_append_right (by omega), hl]; simp [show 2 * es.size + 1 - 2 * es.size = 1 by omega]
        show V E' ((r.cells ++ [x, y]).getD (2 * es.size) .undef) _ ∧ V E' ((r.cells ++ [x, y]).getD (2 * es.size + 1) .undef) _
        rw [e1, e2]
        exact ⟨hV _ _ hu, hV _ _ hvv⟩
    · obtain ⟨b2, es2, k2, h1, h2, h3, h4⟩ := hE.map i s h1' hg
      have : b2 ≠ b := fun e0 => hne (hE.inj i id s r b h1' hr (by simp [hg]) (by simp [hs]) (by rw [← e0]; exact h1) hm)
      exact ⟨b2, es2, k2, h1, (hoth b2 this).trans h2, h3, fun j hj => ⟨hV _ _ (h4 j hj).1, hV _ _ (h4 j hj).2⟩⟩
  · intro b2 h1 h2
    have hne : b2 ≠ b := fun e0 => h2 id r hr (by simp [hs]) (by rw [e0]; exact hm)
    refine ⟨hoth b2 hne, fun i s h3 h4 h5 => ?_⟩
    rcases get_set_cases h3 with ⟨rfl, rfl, _⟩ | ⟨_, h3'⟩
    · exact h2 i r hr (by simp [hs]) h5
    · exact h2 i s h3' h4 h5
/-- No rows. -/
def env00 (w : World) : Env := ⟨[], fun _ => none, w, fun _ _ => False⟩
theorem V.mp_inv {E : Env} {id : Nat} {v : Value} {r : Row} (h : V E (.mp id) v) (hr : E.rows[id]? = some r) : ∃ b, v = .map (some b) ∧ E.m id = some b := by
  generalize hx : AVal.mp id = x at h
  cases h <;> simp at hx
  subst hx
  rename_i b hm hr2 hs
  exact ⟨_, rfl, by assumption⟩
def lookV (cells : List AVal) (x : Int) : Int := (findI cells x).getD 0
def lookB (cells : List AVal) (x : Int) : Bool := (findI cells x).isSome
def lookupA (P : Program) (t : TypeId) (x ix : AVal) (ok : Bool) (rows : List Row) : Option (Prop × AVal) :=
  match P.underlying t, x, ix with
  | some (.map kt et), .mp id, .sc (.int .i64 k) => match P.underlying kt, zeroA P et, rows[id]? with
    | some (.int .i64), some (.sc (.int .i64 z)), some r => if r.st = .map ∧ z = 0 then some ((∃ l, r.cells = mpc l), match ok with
        | true => .tup [.sc (.int .i64 (lookV r.cells k)), .sc (.bool (lookB r.cells k))]
        | false => .sc (.int .i64 (lookV r.cells k))) else none
    | _, _, _ => none
  | _, _, _ => none
theorem lookup_spec {P : Program} {t : TypeId} {x ix r : AVal} {ok : Bool} {rows : List Row} {c : Prop} (h : lookupA P t x ix ok rows = some (c, r)) (hc : c) {X : Nat → Nat → Prop} {m : Nat → Option Nat} {w : World} {v u : Value} (hrel : Rel ⟨rows, m, w, X⟩)
    (hv : V ⟨rows, m, w, X⟩ x v) (hu : V ⟨rows, m, w, X⟩ ix u) : ∃ q, (Instr.lookup t v u ok).run P w = .ok q w ∧ V ⟨rows, m, w, X⟩ r q := by
  unfold lookupA at h
  split at h
  · rename_i kt et id k ht
    split at h
    · rename_i z row hk hz hr
      split at h
      · rename_i hst
        obtain ⟨hst, hz0⟩ := hst
        subst hz0
        simp only [Option.some.injEq, Prod.mk.injEq] at h
        obtain ⟨rfl, rfl⟩ := h
        obtain ⟨l, hl⟩ := hc
        obtain ⟨b, rfl, hm⟩ := hv.mp_inv hr
        have := hu.int_eq
        subst this
        obtain ⟨b2, es, kk, h1, h2, h3, h4⟩ := hrel.map id row hr hst
        rw [hm] at h1; cases h1
        rw [hl] at h3 h4
        have hzr : ∀ w, (zeroValue et).run P w = .ok (.int .i64 0) w := fun w => by
          obtain ⟨zv, z1, z2⟩ := run_zero hz w
          have := (z2 (env00 w)).int_eq
          rw [z1, this]
        refine ⟨_, run_lookup_int ht hk h2 (esOf_rel (E := ⟨rows, m, w, X⟩) h3 h4) hzr ok, ?_⟩
        simp only [lookV, lookB]
        rw [hl, findI_mpc]
        cases ok with
        | false => exact .sc _ rfl
        | true =>
          refine .tup _ [_, _] rfl (fun i hi => ?_)
          rcases i with _ | _ | i
          · exact .sc _ rfl
          · exact .sc _ rfl
          · exact absurd hi (by simp only [List.length_cons, List.length_nil]; omega)
      · simp at h
    · simp at h
  · simp at h
def updateA (P : Program) (t : TypeId) (x ix y : AVal) (rows : List Row) : Option (Prop × List Row) :=
  match P.underlying t, x, ix, y with
  | some (.map kt et), .mp id, .sc (.int .i64 a), .sc (.int .i64 b) => match P.underlying kt, rows[id]? with
    | some (.int .i64), some r => if r.st = .map then some ((∃ l, r.cells = mpc l) ∧ findI r.cells a = none, rows.set id ⟨r.cells ++ [.sc (.int .i64 a), .sc (.int .i64 b)], r.esz, .map⟩) else none
    | _, _ => none
  | _, _, _, _ => none
theorem update_spec {P : Program} {t : TypeId} {x ix y : AVal} {rows rows' : List Row} {c : Prop} (h : updateA P t x ix y rows = some (c, rows')) (hc : c) {X : Nat → Nat → Prop} {m : Nat → Option Nat} {w : World} {v u z : Value} (hrel : Rel ⟨rows, m, w, X⟩)
    (hv : V ⟨rows, m, w, X⟩ x v) (hu : V ⟨rows, m, w, X⟩ ix u) (hz : V ⟨rows, m, w, X⟩ y z) : ∃ w' m', (Instr.mapUpdate t v u z).run P w = .ok () w' ∧ Rel ⟨rows', m', w', X⟩ ∧ rows.length ≤ rows'.length ∧ Evo rows.length ⟨rows, m, w, X⟩ ⟨rows', m', w', X⟩ := by
  unfold updateA at h
  split at h
  · rename_i kt et id a b ht
    split at h
    · rename_i row hk hr
      split at h
      · rename_i hst
        simp only [Option.some.injEq, Prod.mk.injEq] at h
        obtain ⟨rfl, rfl⟩ := h
        obtain ⟨⟨l, hl⟩, hn⟩ := hc
        obtain ⟨b0, rfl, hm⟩ := hv.mp_inv hr
        have e1 := hu.int_eq
        have e2 := hz.int_eq
        subst e1; subst e2
        obtain ⟨b2, es, kk, h1, h2, h3, h4⟩ := hrel.map id row hr hst
        rw [hm] at h1; cases h1
        have h3' := h3; have h4' := h4
        rw [hl] at h3' h4' hn
        rw [findI_mpc] at hn
        obtain ⟨k1, k2⟩ := map_more (E := ⟨rows, m, w, X⟩) hrel hr hst hm h2 h3 h4 (.sc (.int .i64 a)) (.sc (.int .i64 b)) _ _ hu hz (kk + 1)
        exact ⟨_, _, run_update_int ht hk h2 (esOf_rel (E := ⟨rows, m, w, X⟩) h3' h4') hn, k1, by simp, k2⟩
      · simp at h
    · simp at h
  · simp at h
end Go.Abs

set_option linter.unusedVariables false
set_option linter.unusedSimpArgs false
namespace Go.Abs
open Go

/-! ### whole structs and arrays, cell by cell -/
/-- The kinds of the cells of a type that is made of numbers, bools and texts. -/
def flatT (P : Program) : Nat → TypeId → Option (List TypeDesc)
  | 0, _ => none
  | d + 1, t => match P.underlying t with
    | some .bool => some [.bool]
    | some (.int k) => some [.int k]
    | some .string => some [.string]
    | some (.struct fs) => fs.toList.foldl (fun acc f => match acc, flatT P d f.type with
      | some l, some l2 => if f.offset = l.length ∧ tyS P f.type = some l2.length ∧ f.name ≠ "_" then some (l ++ l2) else none
      | _, _ => none) (some [])
    | some (.array n e) => match flatT P d e with
      | some l => if tyS P e = some l.length then some ((List.replicate n l).flatten) else none
      | none => none
    | _ => none

/-! ### makeSlice, min, max, len -/
def lenA (P : Program) (t : TypeId) (x : AVal) : Option AVal :=
  match P.underlying t, x with
  | some .string, .sc (.string s) => some (.sc (.int .i64 s.size))
  | some (.array n _), _ => some (.sc (.int .i64 n))
  | some (.slice _), .sl _ n _ => some (.sc (.int .i64 n))
  | some (.slice _), .row _ _ n => some (.sc (.int .i64 n))
  | some (.pointer a), _ => match P.underlying a with
    | some (.array n _) => some (.sc (.int .i64 n))
    | _ => none
  | _, _ => none
theorem len_spec {P : Program} {ts : Array TypeId} {t ty : TypeId} {x r : AVal} (ht : ts[0]? = some t) (h : lenA P t x = some r) {E : Env} {v : Value} (hv : V E x v) (w : World) : ∃ q, (Builtin.len_ ts ty #[v]).run P w = .ok q w ∧ V E r q := by
  unfold lenA at h
  split at h
  · rename_i s hu
    simp at h; subst h
    have := hv.sc_inv; subst this
    exact ⟨_, by simp [Builtin.len_, ht, run_underlying hu]; rfl, .sc _ rfl⟩
  · rename_i n e hu
    simp at h; subst h
    exact ⟨_, by simp [Builtin.len_, ht, run_underlying hu]; rfl, .sc _ rfl⟩
  · rename_i e cells n k hu
    simp at h; subst h
    rcases hv.sl_inv with ⟨rfl, _, rfl, _⟩ | ⟨b, o, cap, vs, rfl, _⟩ | ⟨ad, rfl, _, rfl, _⟩
    · exact ⟨_, by simp [Builtin.len_, ht, run_underlying hu]; rfl, .sc _ rfl⟩
    · exact ⟨_, by simp [Builtin.len_, ht, run_underlying hu]; rfl, .sc _ rfl⟩
    · exact ⟨_, by simp [Builtin.len_, ht, run_underlying hu]; rfl, .sc _ rfl⟩
  · rename_i e id off n hu
    simp at h; subst h
    generalize hxx : AVal.row id off n = y at hv
    cases hv <;> simp at hxx <;> obtain ⟨rfl, rfl, rfl⟩ := hxx
    all_goals first
      | exact ⟨_, by simp [Builtin.len_, ht, run_underlying hu]; rfl, .sc _ rfl⟩
      | (rename_i hv2; rcases hv2 with ⟨_, rfl, base, rfl⟩ | ⟨b, o, cap, rfl, _⟩ <;> exact ⟨_, by simp [Builtin.len_, ht, run_underlying hu]; rfl, .sc _ rfl⟩)
  · rename_i a hu
    split at h
    · rename_i n e ha
      simp at h; subst h
      exact ⟨_, by simp [Builtin.len_, ht, run_underlying hu, run_underlying ha]; rfl, .sc _ rfl⟩
    · simp at h
  · simp at h

/-! ### all of it -/
def capsA (ρ : Operand → AVal) (l : List Operand) : List AVal := l.map ρ

def sop (P : Program) (o : Oper) (ρ : Operand → AVal) (rows : List Row) : Option Res :=
  match o.op with
  | .move x => some ⟨True, ρ x, rows⟩
  | .assign x => some ⟨True, ρ x, rows⟩
  | .pick c a b => match ρ c with
    | .sc (.bool t) => some ⟨True, (match t with | true => ρ a | false => ρ b), rows⟩
    | _ => none
  | .alloc e => match zeroA P e, eszOf P e with
    | some z, some s => match z.cellsA with
      | some cs => if standsB rows z then some ⟨True, .ptr rows.length 0, rows ++ [⟨cs, s, .fresh⟩]⟩ else none
      | none => none
    | _, _ => none
  | .box e x => match (ρ x).cellsA, eszOf P e with
    | some cs, some s => if standsB rows (ρ x) then some ⟨True, .ptr rows.length 0, rows ++ [⟨cs, s, .fresh⟩]⟩ else none
    | _, _ => none
  | .build t parts => match P.underlying t, zeroA P t, partsA ρ parts.toList with
    | some (.struct fs), some (.agg z), some ps =>
      if (parts.toList.all fun p => standsB rows (ρ p.2)) = true ∧ (fs.toList.all fun f => (tyS P f.type).isSome) = true then
      match fillA (fun i => (fs[i]?).map fun f => (f.offset, (tyS P f.type).getD 0)) z ps with
      | some cs => some ⟨True, .agg cs, rows⟩
      | none => none
      else none
    | some (.array _ el), some (.agg z), some ps => match tyS P el with
      | some s => if (parts.toList.all fun p => standsB rows (ρ p.2)) = true then match fillA (fun i => some (i * s, s)) z ps with
        | some cs => some ⟨True, .agg cs, rows⟩
        | none => none
        else none
      | none => none
    | _, _, _ => none
  | .buildSlice t len parts => (buildSliceA P t len ρ parts.toList rows).map fun q => ⟨True, q.1, q.2⟩
  | .load t a => (loadA P t rows (ρ a)).map fun q => ⟨q.1, q.2, rows⟩
  | .store t a x => (storeA P t rows (ρ a) (ρ x)).map fun q => ⟨q.1, .tup [], q.2⟩
  | .nilCheck x => match ρ x with
    | .ptr id off => if standsB rows (.ptr id off) then some ⟨True, .ptr id off, rows⟩ else none
    | .dptr cs => some ⟨True, .dptr cs, rows⟩
    | .ifc t v => some ⟨True, .ifc t v, rows⟩
    | .fn f cs => some ⟨True, .fn f cs, rows⟩
    | _ => none
  | .binOp op t x y _ => match ρ x, ρ y with
    | .sc a, .sc b => match binV P op t a b with
      | some (c, v) => some ⟨c, .sc v, rows⟩
      | none => (nilA P op t rows y (.sc a) (.sc b)).map fun q => ⟨q.1, q.2, rows⟩
    | a, b => match eqAggA P op t a b with
      | some q => some ⟨q.1, q.2, rows⟩
      | none => (nilA P op t rows y a b).map fun q => ⟨q.1, q.2, rows⟩
  | .unOp op _ x => match ρ x with
    | .sc a => (unV op a).map fun v => ⟨True, .sc v, rows⟩
    | _ => none
  | .convert s d x => (convertA P s d (ρ x) rows).map fun q => ⟨q.1, q.2, rows⟩
  | .makeInterface t x => match P.underlying t with
    | some (.interface _) => none
    | some _ => some ⟨True, .ifc t (ρ x), rows⟩
    | none => none
  | .makeFunc (.func f) first cap => if first.size = 0 then some ⟨True, .fn f (cap.toList.map ρ), rows⟩ else none
  | .makeSlice t l c => (makeSliceA P t (ρ l) (ρ c) rows).map fun q => ⟨q.1, q.2.1, q.2.2⟩
  | .slice t x lo hi mx => match sliceZ P t ρ (ρ x) lo hi mx with
    | some q => some ⟨q.1, q.2, rows⟩
    | none => (sliceA P t ρ (ρ x) lo hi mx rows).map fun q => ⟨q.1, q.2, rows⟩
  | .fieldAddr s x f => (fieldAddrA P s (ρ x) f rows).map fun q => ⟨q.1, q.2, rows⟩
  | .field t x f => (fieldA P t (ρ x) f).map fun q => ⟨q.1, q.2, rows⟩
  | .indexAddr t x i => (indexAddrA P t (ρ x) (ρ i) rows).map fun q => ⟨q.1, q.2, rows⟩
  | .index t x i => (indexA P t (ρ x) (ρ i)).map fun q => ⟨q.1, q.2, rows⟩
  | .extract x i => match ρ x with
    | .tup vs => match vs[i]? with
      | some v => some ⟨True, v, rows⟩
      | none => none
    | _ => none
  | .call c => match c.callee with
    | .builtin .len => match c.args.toList, c.argTypes[0]? with
      | [x], some t => (lenA P t (ρ x)).map fun v => ⟨True, v, rows⟩
      | _, _ => none
    | .builtin .append => match c.args.toList with
      | [x, y] => match appendZ P c.argTypes (ρ x) (ρ y) rows with
        | some q => some ⟨q.1, q.2.1, q.2.2⟩
        | none => (appendA P c.argTypes (ρ x) (ρ y) rows).map fun q => ⟨q.1, q.2.1, q.2.2⟩
      | _ => none
    | .builtin .cap => match c.args.toList, c.argTypes[0]? with
      | [x], some t => (capA P t (ρ x)).map fun v => ⟨True, v, rows⟩
      | _, _ => none
    | .builtin .min => match c.args.toList with
      | [x, y] => match ρ x, ρ y with
        | .sc (.int k a), .sc (.int _ b) => some ⟨True, .sc (.int k (if b < a then b else a)), rows⟩
        | _, _ => none
      | _ => none
    | .builtin .max => match c.args.toList with
      | [x, y] => match ρ x, ρ y with
        | .sc (.int k a), .sc (.int _ b) => some ⟨True, .sc (.int k (if b > a then b else a)), rows⟩
        | _, _ => none
      | _ => none
    | _ => none
  | .makeMap _ none => some ⟨True, .mp rows.length, rows ++ [⟨[], 0, .map⟩]⟩
  | .mapUpdate t m k x => (updateA P t (ρ m) (ρ k) (ρ x) rows).map fun q => ⟨q.1, .tup [], q.2⟩
  | .lookup t x i ok => (lookupA P t (ρ x) (ρ i) ok rows).map fun q => ⟨q.1, q.2, rows⟩
  | _ => none

theorem map_some' {α β : Type} {x : Option α} {f : α → β} {y : β} (h : x.map f = some y) : ∃ q, x = some q ∧ f q = y := by
  cases x with
  | none => simp at h
  | some q => exact ⟨q, rfl, by simpa using h⟩

theorem run_builtin {P : Program} {a : Act} {o : Oper} {c : Call} {b : Builtin} {xs : List Operand} {w w' : World} {q : Value} (ho : o.op = .call c) (hc : c.callee = .builtin b) (hx : c.args.toList = xs)
    (h : (builtin b c.argTypes o.type (c.args.map fun | .const _ => true | _ => false) (xs.map a.eval).toArray).run P w = .ok (.value q) w') : (execOp a.eval o).run P w = .ok (.value q) w' := by
  have e : c.args.map a.eval = (xs.map a.eval).toArray := by
    rw [← hx]; apply Array.ext'; simp
  simp only [execOp, ho, resolve, hc, Sem.run_bind, Sem.run_pure, Result.andThen_ok, invoke, e]
  exact h

set_option maxHeartbeats 1000000 in
theorem sop_spec {P : Program} {o : Oper} {ρ : Operand → AVal} {rows : List Row} {q : Res} (h : sop P o ρ rows = some q) (hq : q.ok) : OpS P o ρ rows q.v q.rows := by
  unfold sop at h
  split at h
  · rename_i x ho
    simp at h; subst h
    exact OpS.quiet fun X m w a hrel hv => ⟨a.eval x, by simp [execOp, ho], hv x (by rw [ho]; simp [Op.operands])⟩
  · rename_i x ho
    simp at h; subst h
    exact OpS.quiet fun X m w a hrel hv => ⟨a.eval x, by simp [execOp, ho], hv x (by rw [ho]; simp [Op.operands])⟩
  · rename_i c a b ho
    split at h
    · rename_i t ht
      simp at h; subst h
      refine OpS.quiet fun X m w act hrel hv => ?_
      have h1 := hv c (by rw [ho]; simp [Op.operands])
      have h2 := hv a (by rw [ho]; simp [Op.operands])
      have h3 := hv b (by rw [ho]; simp [Op.operands])
      rw [ht] at h1
      have h1' := h1.sc_inv
      cases t with
      | true => exact ⟨act.eval a, by simp [execOp, ho, h1', asBool], h2⟩
      | false => exact ⟨act.eval b, by simp [execOp, ho, h1', asBool], h3⟩
    · simp at h
  · rename_i e ho
    split at h
    · rename_i z s hz hs
      split at h
      · rename_i cs hcs
        split at h
        · rename_i hst
          simp at h; subst h
          refine OpS.of_run fun X m w a hrel hv => ?_
          obtain ⟨zv, hzr, hzV⟩ := run_zero hz w
          have hvc := (hzV ⟨rows, m, w, X⟩).cells hcs (stands_spec hst)
          obtain ⟨w', m', k1, k2, k3, k4, k5⟩ := newRow_spec (P := P) hrel hvc s e
          refine ⟨.pointer (some ⟨w.heap.size, 0, none⟩), w', m', ?_, k2, .ptr _ _ ⟨cs, s, .fresh⟩ _ (by simp) rfl k3, by simp, k4⟩
          simp only [execOp, ho, Sem.run_bind, Instr.alloc, hzr, Result.andThen_ok, newVar, k1, Sem.run_pure]
        · simp at h
      · simp at h
    · simp at h
  · rename_i e x ho
    split at h
    · rename_i cs s hcs hs
      split at h
      · rename_i hst
        simp at h; subst h
        refine OpS.of_run fun X m w a hrel hv => ?_
        have hvc := (hv x (by rw [ho]; simp [Op.operands])).cells hcs (stands_spec hst)
        obtain ⟨w', m', k1, k2, k3, k4, k5⟩ := newRow_spec (P := P) hrel hvc s e
        refine ⟨.pointer (some ⟨w.heap.size, 0, none⟩), w', m', ?_, k2, .ptr _ _ ⟨cs, s, .fresh⟩ _ (by simp) rfl k3, by simp, k4⟩
        simp only [execOp, ho, Sem.run_bind, Instr.box, newVar, k1, Result.andThen_ok, Sem.run_pure]
      · simp at h
    · simp at h
  · rename_i t parts ho
    have core : ∀ {z : List AVal} {ps : List (Nat × List AVal)} {place : Nat → Option (Nat × Nat)} {cs : List AVal}, zeroA P t = some (.agg z) → partsA ρ parts.toList = some ps → (parts.toList.all fun p => standsB rows (ρ p.2)) = true → fillA place z ps = some cs →
        (∀ (w : World) (zv : Value) (c' : Array Value) (pv : Array (Nat × Value)), (zeroValue t).run P w = .ok zv w → Instr.fill place zv.cells pv.toList = some c' → (Instr.build t pv).run P w = .ok (.agg c') w) → OpS P o ρ rows (.agg cs) rows := by
      intro z ps place cs hz hp hst hf hrun
      refine OpS.quiet fun X m w a hrel hv => ?_
      obtain ⟨zv, hzr, hzV⟩ := run_zero hz w
      have hzc := (hzV ⟨rows, m, w, X⟩).cells (cs := z) rfl (fun id off he => by cases he)
      have hparts := parts_spec (E := ⟨rows, m, w, X⟩) (τ := a.eval) parts.toList hp (fun x hx => ⟨hv x (by rw [ho]; simpa [Op.operands] using hx), by
        obtain ⟨q, hq, rfl⟩ := List.mem_map.1 hx
        exact List.all_eq_true.1 hst q hq⟩)
      obtain ⟨c', hf1, hf2⟩ := fill_spec ps _ z zv.cells hparts.1 hparts.2 hzc hf
      refine ⟨.agg c', ?_, ?_⟩
      · simp only [execOp, ho, Sem.run_bind]
        have e : (parts.map fun (p : Nat × Operand) => match p with | (i, x) => (i, a.eval x)) = parts.map fun p => (p.1, a.eval p.2) := rfl
        rw [e, hrun w zv c' (parts.map fun p => (p.1, a.eval p.2)) hzr (by rw [Array.toList_map]; exact hf1)]
        rfl
      · have := V.agg (E := ⟨rows, m, w, X⟩) cs c'.toList (by simpa using hf2.1) (fun i hi => by
          have := hf2.2 i hi
          simpa [List.getD_eq_getElem?_getD, Array.getD_eq_getD_getElem?] using this)
        simpa using this
    split at h
    · rename_i fs z ps ht hz hp
      split at h
      · rename_i hc
        split at h
        · rename_i cs hf
          simp at h; subst h
          refine core hz hp hc.1 hf fun w zv c' pv hzr hfr => ?_
          have hm : ∀ (l : List Field), (l.all fun f => (tyS P f.type).isSome) = true → (l.mapM (fun f => do pure (f.offset, ← sizeOf f.type) : Field → Sem (Nat × Nat))).run P w = .ok (l.map fun f => (f.offset, (tyS P f.type).getD 0)) w := by
            intro l
            induction l with
            | nil => intro _; rfl
            | cons f l ih =>
              intro hl
              simp only [List.all_cons, Bool.and_eq_true, Option.isSome_iff_exists] at hl
              obtain ⟨⟨s, hs⟩, hl⟩ := hl
              simp only [List.mapM_cons, Sem.run_bind, run_sizeOf' hs, Result.andThen_ok, Sem.run_pure]
              rw [ih (by simpa [List.all_eq_true, Option.isSome_iff_exists] using hl)]
              simp [hs]
          have hm2 : (fs.mapM (fun f => do pure (f.offset, ← sizeOf f.type) : Field → Sem (Nat × Nat))).run P w = .ok (fs.map fun f => (f.offset, (tyS P f.type).getD 0)) w := by
            have e1 : fs.mapM (fun f => do pure (f.offset, ← sizeOf f.type) : Field → Sem (Nat × Nat)) = List.toArray <$> fs.toList.mapM (fun f => do pure (f.offset, ← sizeOf f.type) : Field → Sem (Nat × Nat)) := by
              rw [← List.mapM_toArray]
            rw [e1, Sem.run_map, hm _ hc.2]
            simp only [Result.andThen_ok]
            congr 1
            apply Array.ext'; simp
          have hpl : (fun (i : Nat) => (fs.map fun (f : Field) => (f.offset, (tyS P f.type).getD 0))[i]?) = fun (i : Nat) => (fs[i]?).map fun (f : Field) => (f.offset, (tyS P f.type).getD 0) := by
            funext i; simp
          simp only [Instr.build, Sem.run_bind, hzr, Result.andThen_ok, run_underlying ht, hm2, hpl, hfr, Sem.run_pure]
        · simp at h
      · simp at h
    · rename_i n el z ps ht hz hp
      split at h
      · rename_i s hs
        split at h
        · rename_i hc
          split at h
          · rename_i cs hf
            simp at h; subst h
            refine core hz hp hc hf fun w zv c' pv hzr hfr => ?_
            simp only [Instr.build, Sem.run_bind, hzr, Result.andThen_ok, run_underlying ht, run_sizeOf' hs, hfr, Sem.run_pure]
          · simp at h
        · simp at h
      · simp at h
    · simp at h
  · rename_i t len parts ho
    obtain ⟨⟨r, rows'⟩, hb, rfl⟩ := map_some' h
    refine OpS.of_run fun X m w a hrel hv => ?_
    obtain ⟨v, w', m', k1, k2, k3, k4, k5⟩ := buildSlice_spec (τ := a.eval) hb hrel (fun x hx => hv x (by rw [ho]; simpa [Op.operands] using hx))
    refine ⟨v, w', m', ?_, k2, k3, k4, k5⟩
    simp only [execOp, ho, Sem.run_bind]
    have : (parts.map fun (p : Nat × Operand) => match p with | (i, x) => (i, a.eval x)) = parts.map fun p => (p.1, a.eval p.2) := rfl
    rw [this, k1]; rfl
  · rename_i t x ho
    obtain ⟨⟨c, r⟩, hb, rfl⟩ := map_some' h
    refine OpS.quiet fun X m w a hrel hv => ?_
    obtain ⟨u, k1, k2⟩ := load_spec hb hq hrel (hv x (by rw [ho]; simp [Op.operands]))
    exact ⟨u, by simp only [execOp, ho, Sem.run_bind, k1]; rfl, k2⟩
  · rename_i t p x ho
    obtain ⟨⟨c, rows'⟩, hb, rfl⟩ := map_some' h
    refine OpS.of_skip fun X m w a hrel hv => ?_
    obtain ⟨w', m', k1, k2, k3, k4⟩ := store_spec hb hq hrel (hv p (by rw [ho]; simp [Op.operands])) (hv x (by rw [ho]; simp [Op.operands]))
    exact ⟨w', m', by simp only [execOp, ho, Sem.run_bind, k1]; rfl, k2, k3, k4⟩
  · rename_i x ho
    have key : ∀ {y : AVal}, ρ x = y → (∀ (X : Nat → Nat → Prop) (m : Nat → Option Nat) (w : World) (v : Value), V ⟨rows, m, w, X⟩ y v → (∃ a, v = .pointer (some a)) ∨ (∃ t u, v = .iface t u) ∨ (∃ f cs, v = .func (.func f) #[] cs)) → OpS P o ρ rows y rows := by
      intro y hy hk
      refine OpS.quiet fun X m w a hrel hv => ?_
      have h1 := hv x (by rw [ho]; simp [Op.operands])
      rw [hy] at h1
      refine ⟨a.eval x, ?_, h1⟩
      rcases hk X m w _ h1 with ⟨b, hb⟩ | ⟨t, u, hb⟩ | ⟨f, cs, hb⟩ <;> simp [execOp, ho, hb]
    split at h
    · rename_i id off hx
      split at h
      · rename_i hst
        simp at h; subst h
        obtain ⟨r2, h1, h2⟩ := stands_spec hst id off rfl
        exact key hx fun X m w v hv => .inl (by obtain ⟨b, rfl, _⟩ := hv.ptr_inv h1 h2; exact ⟨_, rfl⟩)
      · simp at h
    · rename_i cs hx
      simp at h; subst h
      exact key hx fun X m w v hv => .inl (by obtain ⟨b, o, vs, rfl, _⟩ := hv.dptr_inv; exact ⟨_, rfl⟩)
    · rename_i t v hx
      simp at h; subst h
      exact key hx fun X m w v hv => .inr (.inl (by obtain ⟨u, rfl, _⟩ := hv.ifc_inv; exact ⟨_, _, rfl⟩))
    · rename_i f cs hx
      simp at h; subst h
      exact key hx fun X m w v hv => .inr (.inr (by obtain ⟨vs, rfl, _⟩ := hv.fn_inv; exact ⟨_, _, rfl⟩))
    · simp at h
  · rename_i op t x y yt ho
    have hnil : ∀ {a b r : AVal} {c : Prop}, ρ x = a → ρ y = b → nilA P op t rows y a b = some (c, r) → c → OpS P o ρ rows r rows := by
      intro a b r c hx hy hn hc
      refine OpS.quiet fun X m w act hrel hv => ?_
      have h1 := hv x (by rw [ho]; simp [Op.operands])
      have h2 := hv y (by rw [ho]; simp [Op.operands])
      rw [hx] at h1; rw [hy] at h2
      obtain ⟨q, k1, k2⟩ := nil_spec (ox := x) hn hc h1 h2
      refine ⟨q, ?_, k2⟩
      simp only [execOp, ho]
      rw [Sem.run_bind, k1]; rfl
    split at h
    · rename_i a b hx hy
      split at h
      · rename_i c v hb
        simp at h; subst h
        refine OpS.quiet fun X m w act hrel hv => ?_
        have h1 := hv x (by rw [ho]; simp [Op.operands])
        have h2 := hv y (by rw [ho]; simp [Op.operands])
        rw [hx] at h1; rw [hy] at h2
        have e1 := h1.sc_inv
        have e2 := h2.sc_inv
        obtain ⟨k1, k2⟩ := binV_spec (px := x) (py := y) hb hq w
        refine ⟨v, ?_, .sc v k2⟩
        simp only [execOp, ho, e1, e2]
        rw [Sem.run_bind, k1]; rfl
      · obtain ⟨⟨c, r⟩, hb, rfl⟩ := map_some' h
        exact hnil hx hy hb hq
    · split at h
      · rename_i q0 hb
        obtain ⟨c, r⟩ := q0
        simp at h; subst h
        refine OpS.quiet fun X m w act hrel hv => ?_
        have h1 := hv x (by rw [ho]; simp [Op.operands])
        have h2 := hv y (by rw [ho]; simp [Op.operands])
        obtain ⟨q, k1, k2⟩ := eqAgg_spec (op := op) hb hq h1 h2 x y w
        refine ⟨q, ?_, k2⟩
        simp only [execOp, ho]
        rw [Sem.run_bind, k1]; rfl
      · obtain ⟨⟨c, r⟩, hb, rfl⟩ := map_some' h
        exact hnil rfl rfl hb hq
  · rename_i op t x ho
    split at h
    · rename_i a hx
      obtain ⟨v, hb, rfl⟩ := map_some' h
      refine OpS.quiet fun X m w act hrel hv => ?_
      have h1 := hv x (by rw [ho]; simp [Op.operands])
      rw [hx] at h1
      have e1 := h1.sc_inv
      obtain ⟨k1, k2⟩ := unV_spec (P := P) hb w
      refine ⟨v, ?_, .sc v k2⟩
      simp only [execOp, ho, e1, Sem.run_bind, k1]; rfl
    · simp at h
  · rename_i s d x ho
    obtain ⟨⟨c, r⟩, hb, rfl⟩ := map_some' h
    refine OpS.of_run fun X m w a hrel hv => ?_
    obtain ⟨u, w', k1, k2, k3, k4⟩ := convert_spec hb hq hrel (hv x (by rw [ho]; simp [Op.operands]))
    exact ⟨u, w', m, by simp only [execOp, ho, Sem.run_bind, k1]; rfl, k2, k3, Nat.le_refl _, k4⟩
  · rename_i t x ho
    split at h
    · simp at h
    · rename_i d hne hd
      simp at h; subst h
      refine OpS.quiet fun X m w a hrel hv => ⟨.iface t (a.eval x), ?_, .ifc t _ _ (hv x (by rw [ho]; simp [Op.operands]))⟩
      cases d <;> simp [execOp, ho, Instr.makeInterface, run_underlying hd]
      rename_i ms; exact absurd rfl (hne ms)
    · simp at h
  · rename_i f first cap ho
    split at h
    · rename_i hf
      simp at h; subst h
      have hf' : first = #[] := Array.eq_empty_of_size_eq_zero hf
      subst hf'
      refine OpS.quiet fun X m w a hrel hv => ⟨.func (.func f) #[] (cap.toList.map a.eval).toArray, ?_, ?_⟩
      · simp only [execOp, ho, Instr.makeFunc]
        have : cap.map a.eval = (cap.toList.map a.eval).toArray := by apply Array.ext'; simp
        rw [this]
        simp
      · obtain ⟨k1, k2⟩ := VL.map (E := ⟨rows, m, w, X⟩) (ρ := ρ) (τ := a.eval) cap.toList (fun x hx => hv x (by rw [ho]; simpa [Op.operands] using hx))
        exact .fn f _ _ k1 k2
    · simp at h
  · rename_i t l c ho
    obtain ⟨⟨c2, r, rows'⟩, hb, rfl⟩ := map_some' h
    refine OpS.of_run fun X m w a hrel hv => ?_
    obtain ⟨u, w', m', k1, k2, k3, k4, k5⟩ := makeSlice_spec hb hq hrel (hv l (by rw [ho]; simp [Op.operands])) (hv c (by rw [ho]; simp [Op.operands]))
    exact ⟨u, w', m', by simp only [execOp, ho, Sem.run_bind, k1]; rfl, k2, k3, k4, k5⟩
  · rename_i t x lo hi mx ho
    split at h
    · rename_i q' hb
      obtain ⟨c, r⟩ := q'
      simp only [Option.some.injEq] at h; subst h
      refine OpS.quiet fun X m w a hrel hv => ?_
      obtain ⟨u, k1, k2⟩ := sliceZ_spec (a := a) hb hq (hv x (by rw [ho]; simp [Op.operands])) (fun y hy => hv y (by
        rw [ho]; simp only [Op.operands]
        rcases hy with rfl | rfl | rfl <;> simp))
      exact ⟨u, by simp only [execOp, ho, Sem.run_bind, k1]; rfl, k2⟩
    obtain ⟨⟨c, r⟩, hb, rfl⟩ := map_some' h
    refine OpS.quiet fun X m w a hrel hv => ?_
    obtain ⟨u, k1, k2⟩ := slice_spec (a := a) hb hq hrel (hv x (by rw [ho]; simp [Op.operands])) (fun y hy => hv y (by
      rw [ho]; simp only [Op.operands]
      rcases hy with rfl | rfl | rfl <;> simp))
    exact ⟨u, by simp only [execOp, ho, Sem.run_bind, k1]; rfl, k2⟩
  · rename_i s x f ho
    obtain ⟨⟨c, r⟩, hb, rfl⟩ := map_some' h
    refine OpS.quiet fun X m w a hrel hv => ?_
    obtain ⟨u, k1, k2⟩ := fieldAddr_spec hb hq hrel (hv x (by rw [ho]; simp [Op.operands]))
    exact ⟨u, by simp only [execOp, ho, Sem.run_bind, k1]; rfl, k2⟩
  · rename_i t x f ho
    obtain ⟨⟨c, r⟩, hb, rfl⟩ := map_some' h
    refine OpS.quiet fun X m w a hrel hv => ?_
    obtain ⟨u, k1, k2⟩ := field_spec hb hq (hv x (by rw [ho]; simp [Op.operands])) w
    exact ⟨u, by simp only [execOp, ho, Sem.run_bind, k1]; rfl, k2⟩
  · rename_i t x i ho
    obtain ⟨⟨c, r⟩, hb, rfl⟩ := map_some' h
    refine OpS.quiet fun X m w a hrel hv => ?_
    obtain ⟨u, k1, k2⟩ := indexAddr_spec hb hq hrel (hv x (by rw [ho]; simp [Op.operands])) (hv i (by rw [ho]; simp [Op.operands]))
    exact ⟨u, by simp only [execOp, ho, Sem.run_bind, k1]; rfl, k2⟩
  · rename_i t x i ho
    obtain ⟨⟨c, r⟩, hb, rfl⟩ := map_some' h
    refine OpS.quiet fun X m w a hrel hv => ?_
    obtain ⟨u, k1, k2⟩ := index_spec hb hq (hv x (by rw [ho]; simp [Op.operands])) (hv i (by rw [ho]; simp [Op.operands])) w
    exact ⟨u, by simp only [execOp, ho, Sem.run_bind, k1]; rfl, k2⟩
  · rename_i x i ho
    split at h
    · rename_i vs hx
      split at h
      · rename_i v hi
        simp at h; subst h
        refine OpS.quiet fun X m w a hrel hv => ?_
        have h1 := hv x (by rw [ho]; simp [Op.operands])
        rw [hx] at h1
        obtain ⟨us, e1, hl, hvv⟩ := h1.tup_inv
        have hlt := (List.getElem?_eq_some_iff.1 hi).1
        have hlt2 : i < us.length := by omega
        have := hvv i hlt
        have ev : vs.getD i .undef = v := by simp [List.getD_eq_getElem?_getD, hi]
        rw [ev] at this
        refine ⟨us.getD i Go.undef, ?_, this⟩
        simp [execOp, ho, e1, Instr.extract, hlt2, List.getD_eq_getElem?_getD]
      · simp at h
    · simp at h
  · rename_i c ho
    split at h
    · rename_i hc
      split at h
      · rename_i x t hx ht
        obtain ⟨v, hb, rfl⟩ := map_some' h
        refine OpS.quiet fun X m w a hrel hv => ?_
        obtain ⟨u, k1, k2⟩ := len_spec (ty := o.type) ht hb (hv x (by rw [ho]; exact mem_args (by rw [hx]; simp))) w
        refine ⟨u, run_builtin ho hc hx ?_, k2⟩
        simp only [builtin, List.map_cons, List.map_nil, Sem.run_bind, k1]; rfl
      · simp at h
    · rename_i hc
      split at h
      · rename_i x y hx
        split at h
        · rename_i q' hb
          obtain ⟨c2, r, rows'⟩ := q'
          simp only [Option.some.injEq] at h; subst h
          refine OpS.of_run fun X m w a hrel hv => ?_
          obtain ⟨u, w', m', k1, k2, k3, k4, k5⟩ := appendZ_spec (ty := o.type) hb hq hrel (hv x (by rw [ho]; exact mem_args (by rw [hx]; simp))) (hv y (by rw [ho]; exact mem_args (by rw [hx]; simp)))
          refine ⟨u, w', m', run_builtin ho hc hx ?_, k2, k3, k4, k5⟩
          simp only [builtin, List.map_cons, List.map_nil, Sem.run_bind, k1]; rfl
        obtain ⟨⟨c2, r, rows'⟩, hb, rfl⟩ := map_some' h
        refine OpS.of_run fun X m w a hrel hv => ?_
        obtain ⟨u, w', m', k1, k2, k3, k4, k5⟩ := append_spec (ty := o.type) hb hq hrel (hv x (by rw [ho]; exact mem_args (by rw [hx]; simp))) (hv y (by rw [ho]; exact mem_args (by rw [hx]; simp)))
        refine ⟨u, w', m', run_builtin ho hc hx ?_, k2, k3, k4, k5⟩
        simp only [builtin, List.map_cons, List.map_nil, Sem.run_bind, k1]; rfl
      · simp at h
    · rename_i hc
      split at h
      · rename_i x t hx ht
        obtain ⟨v, hb, rfl⟩ := map_some' h
        refine OpS.quiet fun X m w a hrel hv => ?_
        obtain ⟨u, k1, k2⟩ := cap_spec (ty := o.type) ht hb (hv x (by rw [ho]; exact mem_args (by rw [hx]; simp))) w
        refine ⟨u, run_builtin ho hc hx ?_, k2⟩
        simp only [builtin, List.map_cons, List.map_nil, Sem.run_bind, k1]; rfl
      · simp at h
    · rename_i hc
      split at h
      · rename_i x y hx
        split at h
        · rename_i k a k' b h1 h2
          simp at h; subst h
          refine OpS.quiet fun X m w act hrel hv => ?_
          have e1 := hv x (by rw [ho]; exact mem_args (by rw [hx]; simp))
          have e2 := hv y (by rw [ho]; exact mem_args (by rw [hx]; simp))
          rw [h1] at e1; rw [h2] at e2
          refine ⟨_, run_builtin ho hc hx ?_, .sc _ rfl⟩
          simp only [builtin, List.map_cons, List.map_nil, e1.sc_inv, e2.sc_inv, Sem.run_bind, run_min_int2]; rfl
        · simp at h
      · simp at h
    · rename_i hc
      split at h
      · rename_i x y hx
        split at h
        · rename_i k a k' b h1 h2
          simp at h; subst h
          refine OpS.quiet fun X m w act hrel hv => ?_
          have e1 := hv x (by rw [ho]; exact mem_args (by rw [hx]; simp))
          have e2 := hv y (by rw [ho]; exact mem_args (by rw [hx]; simp))
          rw [h1] at e1; rw [h2] at e2
          refine ⟨_, run_builtin ho hc hx ?_, .sc _ rfl⟩
          simp only [builtin, List.map_cons, List.map_nil, e1.sc_inv, e2.sc_inv, Sem.run_bind, run_max_int2]; rfl
        · simp at h
      · simp at h
    · simp at h
  · rename_i t ho
    simp at h; subst h
    refine OpS.of_run fun X m w a hrel hv => ?_
    obtain ⟨k1, k2⟩ := map_new (E := ⟨rows, m, w, X⟩) hrel 0
    refine ⟨.map (some w.heap.size), _, _, ?_, k1, .mp _ ⟨[], 0, .map⟩ _ (by simp) rfl (if_pos rfl), by simp, k2⟩
    simp only [execOp, ho, Sem.run_bind, Option.map_none]
    rfl
  · rename_i t mm k x ho
    obtain ⟨⟨c, rows'⟩, hb, rfl⟩ := map_some' h
    refine OpS.of_skip fun X m w a hrel hv => ?_
    obtain ⟨w', m', k1, k2, k3, k4⟩ := update_spec hb hq hrel (hv mm (by rw [ho]; simp [Op.operands])) (hv k (by rw [ho]; simp [Op.operands])) (hv x (by rw [ho]; simp [Op.operands]))
    exact ⟨w', m', by simp only [execOp, ho, Sem.run_bind, k1]; rfl, k2, k3, k4⟩
  · rename_i t x i ok ho
    obtain ⟨⟨c, r⟩, hb, rfl⟩ := map_some' h
    refine OpS.quiet fun X m w a hrel hv => ?_
    obtain ⟨u, k1, k2⟩ := lookup_spec hb hq hrel (hv x (by rw [ho]; simp [Op.operands])) (hv i (by rw [ho]; simp [Op.operands]))
    exact ⟨u, by simp only [execOp, ho, Sem.run_bind, k1]; rfl, k2⟩
  · simp at h
end Go.Abs

set_option linter.unusedVariables false
set_option linter.unusedSimpArgs false
namespace Go.Abs
open Go

/-- The rest of a region, operation by operation. -/
inductive DerL (P : Program) (ops : Array Oper) : List Oper → St → St → Prop
  | nil (st : St) : DerL P ops [] st st
  | op (o : Oper) (rest : List Oper) (st st' : St) (res : AVal) (rows' : List Row) (hw : wantA ops o st.regs = some true)
      (hs : OpS P o (ev st.regs) st.rows res rows') (h : DerL P ops rest (st.put o.dst res rows') st') : DerL P ops (o :: rest) st st'
  | skip (o : Oper) (rest : List Oper) (st st' : St) (hw : wantA ops o st.regs = some false)
      (h : DerL P ops rest (st.put o.dst (.tup []) st.rows) st') : DerL P ops (o :: rest) st st'

theorem DerL.der {P : Program} {ops : Array Oper} : ∀ {l : List Oper} {st st' : St} (k : Nat), (∀ j, l[j]? = ops[k + j]?) → DerL P ops l st st' → Der P ops (List.range' k l.length) st st'
  | [], st, st', k, _, h => by cases h; exact .nil _
  | o :: l, st, st', k, hk, h => by
    have h0 : ops[k]? = some o := by simpa using (hk 0).symm
    have hk' : ∀ j, l[j]? = ops[k + 1 + j]? := fun j => by have := hk (j + 1); simpa [Nat.add_assoc, Nat.add_comm 1 j] using this
    rw [List.length_cons, List.range'_succ]
    cases h with
    | op _ _ _ _ res rows' hw hs h => exact .op k _ _ _ o res rows' h0 hw hs (DerL.der (k + 1) hk' h)
    | skip _ _ _ _ hw h => exact .skip k _ _ _ o h0 hw (DerL.der (k + 1) hk' h)

theorem AWP.regionL {P : Program} {N : Nat} {Q : Exit → St → Prop} {st st' : St} {id : Nat} {l : List Oper} (h : DerL P l.toArray l st st') (hq : Q .normal st') : AWP P N (.region id l.toArray false) Q st := by
  refine AWP.region ?_ hq
  have := h.der 0 (fun j => by simp)
  rw [List.range_eq_range']
  simpa using this

/-- Operations without calls, all at once. -/
def runL (P : Program) (ops : Array Oper) : List Oper → St → Option (Prop × St)
  | [], st => some (True, st)
  | o :: r, st => match wantA ops o st.regs with
    | some true => match sop P o (ev st.regs) st.rows with
      | some q => match runL P ops r (st.put o.dst q.v q.rows) with
        | some (c, st') => some (q.ok ∧ c, st')
        | none => none
      | none => none
    | some false => runL P ops r (st.put o.dst (.tup []) st.rows)
    | none => none
theorem runL_spec {P : Program} {ops : Array Oper} : ∀ {l : List Oper} {st st' : St} {c : Prop}, runL P ops l st = some (c, st') → c → DerL P ops l st st'
  | [], st, st', c, h, hc => by simp [runL] at h; rw [h.2]; exact .nil _
  | o :: l, st, st', c, h, hc => by
    simp only [runL] at h
    split at h
    · rename_i hw
      split at h
      · rename_i q hq
        split at h
        · rename_i c2 st2 hr
          simp only [Option.some.injEq, Prod.mk.injEq] at h
          obtain ⟨rfl, rfl⟩ := h
          exact .op o l _ _ _ _ hw (sop_spec hq hc.1) (runL_spec hr hc.2)
        · simp at h
      · simp at h
    · rename_i hw
      exact .skip o l _ _ hw (runL_spec h hc)
    · simp at h
/-- The rest of a region, and what is wanted behind it. -/
def DerQ (P : Program) (ops : Array Oper) (l : List Oper) (st : St) (K : St → Prop) : Prop := ∃ st', DerL P ops l st st' ∧ K st'

theorem DerQ.nil {P : Program} {ops : Array Oper} {st : St} {K : St → Prop} (h : K st) : DerQ P ops [] st K := ⟨st, .nil _, h⟩
theorem runL_app {P : Program} {ops : Array Oper} : ∀ {l1 l2 : List Oper} {st st1 st' : St} {c : Prop}, runL P ops l1 st = some (c, st1) → c → DerL P ops l2 st1 st' → DerL P ops (l1 ++ l2) st st'
  | [], l2, st, st1, st', c, h, hc, hd => by simp [runL] at h; rw [h.2]; exact hd
  | o :: l, l2, st, st1, st', c, h, hc, hd => by
    simp only [runL] at h
    split at h
    · rename_i hw
      split at h
      · rename_i q hq
        split at h
        · rename_i c2 st2 hr
          simp only [Option.some.injEq, Prod.mk.injEq] at h
          obtain ⟨rfl, rfl⟩ := h
          exact .op o _ _ _ _ _ hw (sop_spec hq hc.1) (runL_app hr hc.2 hd)
        · simp at h
      · simp at h
    · rename_i hw
      exact .skip o _ _ _ hw (runL_app h hc hd)
    · simp at h
/-- The first n operations, without calls. -/
theorem DerQ.pre {P : Program} {ops : Array Oper} {l : List Oper} {st : St} {K : St → Prop} (n : Nat) (c : Prop) (st1 : St) (h : runL P ops (l.take n) st = some (c, st1)) (hc : c) (hk : DerQ P ops (l.drop n) st1 K) : DerQ P ops l st K := by
  obtain ⟨st', h1, h2⟩ := hk
  exact ⟨st', by have := runL_app h hc h1; rwa [List.take_append_drop] at this, h2⟩
/-- All the rest, without calls. -/
theorem DerQ.run {P : Program} {ops : Array Oper} {l : List Oper} {st : St} {K : St → Prop} (c : Prop) (st1 : St) (h : runL P ops l st = some (c, st1)) (hc : c) (hk : K st1) : DerQ P ops l st K := ⟨st1, runL_spec h hc, hk⟩

/-- What is called, with what. -/
def callA (P : Program) (o : Oper) (ρ : Operand → AVal) : Option (FuncId × List AVal) :=
  match o.op with
  | .call c => match c.callee with
    | .value fop => match ρ fop with
      | .fn f cap => if enterable P f then some (f, c.args.toList.map ρ ++ cap) else none
      | _ => none
    | _ => none
  | _ => none
theorem callA_spec {P : Program} {o : Oper} {ρ : Operand → AVal} {f : FuncId} {args : List AVal} {rows rows' : List Row} {r : AVal} (h : callA P o ρ = some (f, args)) (he : EvF P f args rows r rows') : OpS P o ρ rows r rows' := by
  unfold callA at h
  split at h
  · rename_i c ho
    split at h
    · rename_i fop hc
      split at h
      · rename_i f2 cap hf
        split at h
        · rename_i hen
          simp only [Option.some.injEq, Prod.mk.injEq] at h
          obtain ⟨rfl, rfl⟩ := h
          exact OpS.call ho hc hf rfl hen he
        · simp at h
      · simp at h
    · simp at h
  · simp at h

/-- A contract that speaks of data alone. -/
def EvD (P : Program) (f : FuncId) (args : List AVal) (r : AVal) : Prop := ∀ rows, EvF P f args rows r rows
theorem EvD.of {P : Program} {f : FuncId} {args : List AVal} {r : AVal} (hd : dataAll args = true) (hr : r.data = true) (h : EvF P f args [] r []) : EvD P f args r := fun rows => h.lift hd hr rows

theorem DerQ.call {P : Program} {ops : Array Oper} {o : Oper} {l : List Oper} {st : St} {K : St → Prop} {f : FuncId} {args : List AVal} {r : AVal} {rows' : List Row} (he : EvF P f args st.rows r rows') (st1 : St)
    (h : wantA ops o st.regs = some true ∧ callA P o (ev st.regs) = some (f, args) ∧ st.put o.dst r rows' = st1) (hk : DerQ P ops l st1 K) : DerQ P ops (o :: l) st K := by
  obtain ⟨h1, h2, h3⟩ := h
  subst h3
  obtain ⟨st', k1, k2⟩ := hk
  exact ⟨st', .op o l _ _ _ _ h1 (callA_spec h2 he) k1, k2⟩
theorem DerQ.callD {P : Program} {ops : Array Oper} {o : Oper} {l : List Oper} {st : St} {K : St → Prop} {f : FuncId} {args : List AVal} {r : AVal} (he : EvD P f args r) (st1 : St)
    (h : wantA ops o st.regs = some true ∧ callA P o (ev st.regs) = some (f, args) ∧ st.put o.dst r st.rows = st1) (hk : DerQ P ops l st1 K) : DerQ P ops (o :: l) st K :=
  DerQ.call (he st.rows) st1 h hk

theorem AWP.reg {P : Program} {N : Nat} {Q : Exit → St → Prop} {st : St} {id : Nat} {l : List Oper} (h : DerQ P l.toArray l st (Q .normal)) : AWP P N (.region id l.toArray false) Q st :=
  let ⟨_, h1, h2⟩ := h; AWP.regionL h1 h2
end Go.Abs

set_option linter.unusedVariables false
namespace Go.Abs
open Go

/-- What a body leaves: its results, and what that is for the caller. -/
theorem EvF.fin {P : Program} {N : Nat} {rs : Array ResultVar} {st : St} {rows' : List Row} {r : AVal} (r1 : AVal) (e : Exit) (he : e = .normal ∨ e = .ret) (h : resA' P rs st = some r1) (hs : Shrink N st.rows r1 rows' r) :
    (e = .normal ∨ e = .ret) ∧ ∃ r1, resA' P rs st = some r1 ∧ Shrink N st.rows r1 rows' r := ⟨he, r1, h, hs⟩
theorem WfRows.nil : WfRows ([] : List Row).length [] := fun i r h => by simp at h
theorem Shrink.all {rows : List Row} {r r1 : AVal} (he : r1 = r) (hd : r.data = true) : Shrink 0 rows r1 [] r := by
  subst he
  have h := Shrink.drop (N := 0) (rows := []) (ext := rows) (r := r1) (Nat.zero_le _) WfRows.nil (by
    exact AVal.lt_of_data _ r1 hd)
  simpa using h
/-- A function of data alone. -/
theorem EvD.body {P : Program} {f : FuncId} {fn : Func} {c : Code} {args : List AVal} {r : AVal} (hf : P.funcs[f]? = some fn) (hb : fn.body = some c) (hd : dataAll args = true) (hr : r.data = true)
    (h : AWP P 0 c (fun e st' => (e = .normal ∨ e = .ret) ∧ ∃ r1, resA' P fn.results st' = some r1 ∧ Shrink 0 st'.rows r1 [] r) ⟨args ++ List.replicate (fn.ntmps - args.length) .undef, []⟩) : EvD P f args r :=
  EvD.of hd hr (EvF.body hf hb fun _ => h)
theorem AWP.to {P : Program} {N : Nat} {c : Code} {Q : Exit → St → Prop} {st : St} (st' : St) (h : st = st') (k : AWP P N c Q st') : AWP P N c Q st := h ▸ k
theorem DerQ.to {P : Program} {ops : Array Oper} {l : List Oper} {st : St} {K : St → Prop} (st' : St) (h : st = st') (k : DerQ P ops l st' K) : DerQ P ops l st K := h ▸ k
end Go.Abs
namespace Go.Abs
open Go
def guardV (ops : Array Oper) (o : Oper) (regs : List AVal) : AVal :=
  match o.guard with
  | none => .undef
  | some (j, _) => match (ops[j]?).bind (·.dst) with
    | none => .undef
    | some t => regs.getD t .undef
end Go.Abs

set_option linter.unusedVariables false
set_option linter.unusedSimpArgs false
namespace Go.Abs
open Go

mutual
/-- A row becomes data. -/
def AVal.frz (id : Nat) (r : Row) : AVal → AVal
  | .sc v => .sc v
  | .sl c n k => .sl c n k
  | .agg cs => .agg (frzAll id r cs)
  | .tup cs => .tup (frzAll id r cs)
  | .dptr cs => .dptr cs
  | .fn f cs => .fn f (frzAll id r cs)
  | .ifc t v => .ifc t (v.frz id r)
  | .ptr i o => if i = id then (if r.st = .fresh then .dptr (r.cells.drop o) else .undef) else .ptr i o
  | .row i o n => if i = id then .sl ((r.cells.drop o).take (n * r.esz)) n .any else .row i o n
  | .mp i => .mp i
  | .undef => .undef
def frzAll (id : Nat) (r : Row) : List AVal → List AVal
  | [] => []
  | x :: l => x.frz id r :: frzAll id r l
end
theorem frzAll_length (id : Nat) (r : Row) (l : List AVal) : (frzAll id r l).length = l.length := by
  induction l with
  | nil => rfl
  | cons x l ih => simp [frzAll, ih]
theorem frzAll_getD (id : Nat) (r : Row) (l : List AVal) (i : Nat) : (frzAll id r l).getD i .undef = (l.getD i .undef).frz id r := by
  induction l generalizing i with
  | nil => simp [frzAll, AVal.frz]
  | cons x l ih => cases i with
    | zero => simp [frzAll]
    | succ i => simpa [frzAll] using ih i
mutual
theorem AVal.frz_data (id : Nat) (r : Row) : ∀ x : AVal, x.data = true → x.frz id r = x
  | .sc _, _ => rfl
  | .sl _ _ _, _ => rfl
  | .agg cs, h => by simp [AVal.data] at h; simp [AVal.frz, frzAll_data id r cs h]
  | .tup cs, h => by simp [AVal.data] at h; simp [AVal.frz, frzAll_data id r cs h]
  | .dptr _, _ => rfl
  | .fn _ cs, h => by simp [AVal.data] at h; simp [AVal.frz, frzAll_data id r cs h]
  | .ifc _ v, h => by simp [AVal.data] at h; simp [AVal.frz, AVal.frz_data id r v h]
  | .ptr _ _, h => by simp [AVal.data] at h
  | .row _ _ _, h => by simp [AVal.data] at h
  | .mp _, h => by simp [AVal.data] at h
  | .undef, h => by simp [AVal.data] at h
theorem frzAll_data (id : Nat) (r : Row) : ∀ l : List AVal, dataAll l = true → frzAll id r l = l
  | [], _ => rfl
  | x :: l, h => by
    simp [dataAll] at h
    simp [frzAll, AVal.frz_data id r x h.1, frzAll_data id r l h.2]
end

theorem frz_cell {E : Env} (hE : Rel E) {id : Nat} {r : Row} (hr : E.rows[id]? = some r) (hs : r.st = .fresh) (hd : dataAll r.cells = true) {b : Nat} (hm : E.m id = some b) (j : Nat) (hj : j < r.cells.length) :
    let E' : Env := ⟨E.rows.set id { r with st := .frozen }, E.m, E.w, E.x⟩
    ∃ v, E'.w.cell? ⟨b, j, none⟩ = some v ∧ Imm E' b j ∧ V E' (r.cells.getD j .undef) v := by
  intro E'
  obtain ⟨k1, k2⟩ := freeze_step hE hr (.inl hs) hd
  have hnf : r.st ≠ .frozen := by simp [hs]
  obtain ⟨c, e, hbk, hbl, hbv⟩ := hE.block hr (.inl hs) hm
  refine ⟨_, cell_getD hbk (by omega), ⟨lt_of_heap hbk, hE.xr id r b hr hnf hm j, ?_⟩, k2.val _ _ (hbv j hj) (hbv j hj).refLt⟩
  intro i' s' hs' hns hmi
  rcases get_set_cases hs' with ⟨_, a2, _⟩ | ⟨a1, a2⟩
  · subst a2; exact absurd rfl hns
  · exact absurd (hE.inj i' id s' r b a2 hr hns hnf hmi hm) a1

theorem V.rowAt {E : Env} {id off n : Nat} {v : Value} {r : Row} (h : V E (.row id off n) v) (hr : E.rows[id]? = some r) (hs : r.st = .frozen) (hd : dataAll r.cells = true) :
    V E (.sl ((r.cells.drop off).take (n * r.esz)) n .any) v := by
  have hdd : dataAll ((r.cells.drop off).take (n * r.esz)) = true := by
    rw [dataAll_iff] at hd ⊢
    intro i hi
    rw [List.length_take, List.length_drop] at hi
    have hi := Nat.lt_min.mp hi
    have := hd (off + i) (by omega)
    simpa [List.getD_eq_getElem?_getD, List.getElem?_take, hi.1] using this
  generalize hx : AVal.row id off n = x at h
  cases h <;> simp at hx
  · rename_i r2 hr2 hs2 hm hn ho hc
    obtain ⟨rfl, rfl, rfl⟩ := hx
    rw [hr] at hr2; cases hr2; simp [hs] at hs2
  · rename_i r2 base hr2 hs2
    obtain ⟨rfl, rfl, rfl⟩ := hx
    simp only [Nat.zero_mul, List.take_zero]
    cases base with
    | none => exact .slnil _ (by simp)
    | some p => exact .slz _ (by simp) p
  · rename_i b o cap r2 vs hr2 hs2 hn ho hd2 hv hm he
    obtain ⟨rfl, rfl, rfl⟩ := hx
    rw [hr] at hr2; cases hr2
    refine .sl _ _ .any b o cap vs (.inl rfl) hn hdd (fun i hi => ?_) (fun i hi => ?_)
    · rw [List.length_take, List.length_drop] at hi
      have hi := Nat.lt_min.mp hi
      have := hv i hi.1
      simpa [List.getD_eq_getElem?_getD, List.getElem?_take, hi.1] using this
    · rw [List.length_take, List.length_drop] at hi
      exact hm i (Nat.lt_min.mp hi).1
  · rename_i r2 hr2 hs2 h02 hv2
    obtain ⟨rfl, rfl, rfl⟩ := hx
    rw [hr] at hr2; cases hr2; simp [hs] at hs2

theorem V.frz {E : Env} (hE : Rel E) {id : Nat} {r : Row} (hr : E.rows[id]? = some r) (hs : r.st = .fresh ∨ r.st = .grown) (hd : dataAll r.cells = true) {x : AVal} {v : Value} (h : V E x v) :
    V ⟨E.rows.set id { r with st := .frozen }, E.m, E.w, E.x⟩ (x.frz id r) v := by
  obtain ⟨k1, k2⟩ := freeze_step hE hr hs hd
  have keep : ∀ x v, V E x v → V ⟨E.rows.set id { r with st := .frozen }, E.m, E.w, E.x⟩ x v := fun x v h => k2.val x v h h.refLt
  induction h with
  | undef v => exact .undef v
  | sc v h => exact .sc v h
  | slnil k hk => exact .slnil k hk
  | slz k hk a => exact .slz k hk a
  | sl cells n k b o cap vs hk hn hd hv hm ih => exact keep _ _ (.sl cells n k b o cap vs hk hn hd hv hm)
  | agg cells vs hl hv ih =>
    exact .agg _ vs (by rw [frzAll_length]; exact hl) fun i hi => by rw [frzAll_getD]; exact ih i (by rwa [frzAll_length] at hi)
  | tup cells vs hl hv ih =>
    exact .tup _ vs (by rw [frzAll_length]; exact hl) fun i hi => by rw [frzAll_getD]; exact ih i (by rwa [frzAll_length] at hi)
  | ptr i off r1 b hr1 hs1 hm =>
    simp only [AVal.frz]
    split
    · rename_i he; subst he
      rw [hr] at hr1; cases hr1
      rw [if_pos hs1]
      have hc := fun j hj => frz_cell hE hr hs1 hd hm j hj
      refine .dptr _ b off (fun j => ((E.w.cell? ⟨b, off + j, none⟩).getD Go.undef)) ?_ (fun j hj => ?_) (fun j hj => ?_)
      · rw [dataAll_iff] at hd ⊢
        intro j hj
        simp at hj
        simpa [List.getD_eq_getElem?_getD] using hd (off + j) (by omega)
      · simp at hj
        obtain ⟨v, h1, h2, h3⟩ := hc (off + j) (by omega)
        simp at h1
        simpa [List.getD_eq_getElem?_getD, h1] using h3
      · simp at hj
        obtain ⟨v, h1, h2, h3⟩ := hc (off + j) (by omega)
        simp at h1
        exact ⟨by simp [h1], h2⟩
    · exact keep _ _ (.ptr i off r1 b hr1 hs1 hm)
  | ptrLost i off r1 v hr1 hs1 hu1 =>
    simp only [AVal.frz]
    split
    · rename_i he; subst he
      rw [hr] at hr1; cases hr1
      rw [if_neg hs1]; exact .undef _
    · exact keep _ _ (.ptrLost i off r1 v hr1 hs1 hu1)
  | dptr cells b o vs hd hv hm ih => exact keep _ _ (.dptr cells b o vs hd hv hm)
  | rowF i off n b cap r1 hr1 hs1 hm hn ho hc =>
    have h0 := V.rowF (E := E) i off n b cap r1 hr1 hs1 hm hn ho hc
    simp only [AVal.frz]
    split
    · rename_i he; subst he
      exact V.rowAt (r := { r with st := .frozen }) (keep _ _ h0) (get_set_same hr) rfl hd
    · exact keep _ _ h0
  | rowV i r1 base hr1 hs1 =>
    have h0 := V.rowV (E := E) i r1 base hr1 hs1
    simp only [AVal.frz]
    split
    · rename_i he; subst he
      exact V.rowAt (r := { r with st := .frozen }) (keep _ _ h0) (get_set_same hr) rfl hd
    · exact keep _ _ h0
  | rowG i off n b o cap r1 vs hr1 hs1 hn ho hd1 hv hm he ih =>
    have h0 := V.rowG (E := E) i off n b o cap r1 vs hr1 hs1 hn ho hd1 hv hm he
    simp only [AVal.frz]
    split
    · rename_i he; subst he
      exact V.rowAt (r := { r with st := .frozen }) (keep _ _ h0) (get_set_same hr) rfl hd
    · exact keep _ _ h0
  | rowLost i off n r1 v hr1 hs1 h01 hv =>
    have h0 := V.rowLost (E := E) i off n r1 v hr1 hs1 h01 hv
    simp only [AVal.frz]
    split
    · rename_i he; subst he
      exact V.rowAt (r := { r with st := .frozen }) (keep _ _ h0) (get_set_same hr) rfl hd
    · exact keep _ _ h0
  | fn f cap vs hl hv ih =>
    exact .fn f _ vs (by rw [frzAll_length]; exact hl) fun i hi => by rw [frzAll_getD]; exact ih i (by rwa [frzAll_length] at hi)
  | ifc t x v h ih => exact .ifc t _ v ih
  | mp i r1 b hr1 hs1 hm => exact keep _ _ (.mp i r1 b hr1 hs1 hm)

/-- What all the other rows become. -/
def frzRow (id : Nat) (r : Row) (s : Row) : Row := match s.st with
  | .frozen => s
  | .grown => s
  | .fresh => { s with cells := frzAll id r s.cells }
  | .map => { s with cells := frzAll id r s.cells }
  | .unborn => { s with cells := frzAll id r s.cells }
  | .dead => s
def frzRows (id : Nat) (r : Row) (rows : List Row) : List Row := (rows.set id { r with st := .frozen }).map (frzRow id r)
theorem frzRow_st (id : Nat) (r s : Row) : (frzRow id r s).st = s.st ∧ (frzRow id r s).esz = s.esz ∧ (frzRow id r s).cells.length = s.cells.length := by
  unfold frzRow; split <;> simp [frzAll_length]

theorem frz_step {E : Env} (hE : Rel E) {id : Nat} {r : Row} (hr : E.rows[id]? = some r) (hs : r.st = .fresh ∨ r.st = .grown) (hd : dataAll r.cells = true) :
    let E' : Env := ⟨frzRows id r E.rows, E.m, E.w, E.x⟩
    Rel E' ∧ Evo E.rows.length E E' ∧ ∀ x v, V E x v → V E' (x.frz id r) v := by
  intro E'
  let E1 : Env := ⟨E.rows.set id { r with st := .frozen }, E.m, E.w, E.x⟩
  obtain ⟨k1, k2⟩ := freeze_step hE hr hs hd
  have hf : ∀ x v, V E x v → V E1 (x.frz id r) v := fun x v h => V.frz hE hr hs hd h
  have hget : ∀ (i : Nat) (s' : Row), E'.rows[i]? = some s' → ∃ s : Row, E1.rows[i]? = some s ∧ s' = frzRow id r s := by
    intro i s' h
    simp only [E', frzRows, List.getElem?_map] at h
    cases h1 : (E.rows.set id { r with st := .frozen })[i]? with
    | none => simp [h1] at h
    | some s => simp [h1] at h; exact ⟨s, rfl, h.symm⟩
  have hget' : ∀ (i : Nat) (s : Row), E1.rows[i]? = some s → E'.rows[i]? = some (frzRow id r s) := by
    intro i s h
    simp only [E', frzRows, List.getElem?_map]
    simp only [E1] at h
    rw [h]; rfl
  have hI : ∀ b o v, Imm E1 b o → E1.w.cell? ⟨b, o, none⟩ = some v → Imm E' b o ∧ E'.w.cell? ⟨b, o, none⟩ = some v := by
    intro b o v h hc
    refine ⟨⟨h.1, h.2.1, ?_⟩, hc⟩
    intro i s hs1 hns hm
    obtain ⟨s0, h1, rfl⟩ := hget i s hs1
    have := h.2.2 i s0 h1 (by rwa [(frzRow_st id r s0).1] at hns) hm
    rw [(frzRow_st id r s0).1, (frzRow_st id r s0).2.2]; exact this
  have hV : ∀ x v, V E1 x v → V E' x v := fun x v h => by
    refine V.mono (N := E1.rows.length) hI (fun i s _ hs1 => ⟨_, hget' i s hs1, ?_⟩) h h.refLt
    obtain ⟨a1, a2, a3⟩ := frzRow_st id r s
    cases hst : s.st with
    | fresh => exact .fresh hst (by rw [a1, hst]) a2 rfl a3 (fun _ _ _ h => h)
    | grown =>
      have e : frzRow id r s = s := by unfold frzRow; rw [hst]
      rw [e]; exact .grown hst (.inl hst) rfl ⟨[], by simp⟩ (fun _ _ => ⟨rfl, fun _ _ _ h => h⟩)
    | frozen =>
      have e : frzRow id r s = s := by unfold frzRow; rw [hst]
      rw [e]; exact .frozen hst hst rfl rfl
    | map => exact .map hst (by rw [a1, hst]) rfl
    | unborn => exact .born hst
    | dead =>
      have e : frzRow id r s = s := by unfold frzRow; rw [hst]
      rw [e]; exact .dead (by simp [hst]) (by simp [hst]) hst (.inr ⟨hst, rfl⟩)
  have hfE : ∀ x v, V E x v → V E' (x.frz id r) v := fun x v h => hV _ _ (hf x v h)
  -- the row ahead of both
  have hcells : ∀ (i : Nat) (s : Row), E1.rows[i]? = some s → s.st ≠ .frozen → ∃ s0, E.rows[i]? = some s0 ∧ s0.st = s.st ∧ s0.cells = s.cells := by
    intro i s h hns
    rcases get_set_cases h with ⟨_, a2, _⟩ | ⟨_, a2⟩
    · subst a2; exact absurd rfl hns
    · exact ⟨s, a2, rfl, rfl⟩
  refine ⟨⟨k1.xlt, ?_, ?_, ?_, ?_, ?_⟩, k2.trans ⟨fun x v h _ => hV x v h, Nat.le_refl _, ?_, rfl, rfl, rfl, hI⟩, hfE⟩
  · intro i s b h1 hns hmi o hx
    obtain ⟨s0, h2, rfl⟩ := hget i s h1
    exact k1.xr i s0 b h2 (by rwa [(frzRow_st id r s0).1] at hns) hmi o hx
  · intro i j s t b h1 h2 hn1 hn2 hi hj
    obtain ⟨s0, g1, rfl⟩ := hget i s h1
    obtain ⟨t0, g2, rfl⟩ := hget j t h2
    exact k1.inj i j s0 t0 b g1 g2 (by rwa [(frzRow_st id r s0).1] at hn1) (by rwa [(frzRow_st id r t0).1] at hn2) hi hj
  · intro i s h1 hns hnm
    obtain ⟨s0, g1, rfl⟩ := hget i s h1
    obtain ⟨a1, a2, a3⟩ := frzRow_st id r s0
    rw [a1] at hns hnm
    obtain ⟨e0, g2, g3, g4⟩ := hcells i s0 g1 hns
    rcases hE.own i e0 g2 (by rwa [g3]) (by rwa [g3]) with ⟨h, h'⟩ | ⟨b, c', e', h1, h2, h3, h4⟩
    · refine .inl ⟨h, List.eq_nil_of_length_eq_zero ?_⟩
      rw [a3, ← g4, h']; rfl
    · refine .inr ⟨b, c', e', h1, h2, by rw [a3, ← g4]; exact h3, fun j hj => ?_⟩
      rw [a3, ← g4] at hj
      have := h4 j hj
      rw [g4] at this
      have h5 := hfE _ _ this
      have h6 := hV _ _ (k2.val _ _ this this.refLt)
      unfold frzRow
      split
      · exact h6
      · exact h6
      · rw [frzAll_getD]; exact h5
      · rw [frzAll_getD]; exact h5
      · rw [frzAll_getD]; exact h5
      · exact h6
  · intro i s h1 hg
    obtain ⟨s0, g1, rfl⟩ := hget i s h1
    rw [(frzRow_st id r s0).1] at hg
    have e : frzRow id r s0 = s0 := by unfold frzRow; rw [hg]
    rw [e]; exact k1.grown i s0 g1 hg
  · intro i s h1 hg
    obtain ⟨s0, g1, rfl⟩ := hget i s h1
    obtain ⟨a1, a2, a3⟩ := frzRow_st id r s0
    rw [a1] at hg
    obtain ⟨e0, g2, g3, g4⟩ := hcells i s0 g1 (by rw [hg]; simp)
    obtain ⟨b, es, k, h1, h2, h3, h4⟩ := hE.map i e0 g2 (by rw [g3, hg])
    refine ⟨b, es, k, h1, h2, by rw [a3, ← g4]; exact h3, fun j hj => ?_⟩
    have e : (frzRow id r s0).cells = frzAll id r s0.cells := by unfold frzRow; rw [hg]
    rw [e, frzAll_getD, frzAll_getD, ← g4]
    exact ⟨hfE _ _ (h4 j hj).1, hfE _ _ (h4 j hj).2⟩
  · intro b hb hfree
    refine ⟨rfl, fun i s h1 hns hmi => ?_⟩
    obtain ⟨s0, g1, rfl⟩ := hget i s h1
    exact hfree i s0 g1 (by rwa [(frzRow_st id r s0).1] at hns) hmi

theorem Shrink.frz {N : Nat} {rows : List Row} {x : AVal} {id : Nat} {r : Row} (hr : rows[id]? = some r) (hs : r.st = .fresh ∨ r.st = .grown) (hd : dataAll r.cells = true) :
    Shrink N rows x (frzRows id r rows) (x.frz id r) := by
  intro X m w v h1 h2 hN
  obtain ⟨a1, a2, a3⟩ := frz_step (E := ⟨rows, m, w, X⟩) h1 hr hs hd
  exact ⟨m, a1, a3 _ _ h2, by simpa [frzRows] using hN, a2.mono hN⟩

/-- All rows that are new, that may, and that are data, one by one. -/
def frzB (N : Nat) : List Nat → List Row → AVal → Option (List Row × AVal)
  | [], rows, x => some (rows, x)
  | id :: l, rows, x => match rows[id]? with
    | some r => if (r.st = .fresh ∨ r.st = .grown) ∧ dataAll r.cells = true then frzB N l (frzRows id r rows) (x.frz id r) else none
    | none => none
end Go.Abs

set_option linter.unusedVariables false
set_option linter.unusedSimpArgs false
namespace Go.Abs
open Go

/-- Only what the mask says is kept. -/
def onlyL : List Bool → List AVal → List AVal
  | true :: m, x :: l => x :: onlyL m l
  | false :: m, _ :: l => .undef :: onlyL m l
  | [], l => l
  | _, [] => []
def St.only (mask : List Bool) (st : St) : St := ⟨onlyL mask st.regs, st.rows⟩

theorem onlyL_length : ∀ (m : List Bool) (l : List AVal), (onlyL m l).length = l.length
  | true :: m, x :: l => by simp [onlyL, onlyL_length m l]
  | false :: m, _ :: l => by simp [onlyL, onlyL_length m l]
  | [], l => by simp [onlyL]
  | true :: m, [] => by simp [onlyL]
  | false :: m, [] => by simp [onlyL]
theorem onlyL_get : ∀ (m : List Bool) (l : List AVal) (i : Nat), (onlyL m l).getD i .undef = l.getD i .undef ∨ (onlyL m l).getD i .undef = .undef
  | true :: m, x :: l, 0 => by simp [onlyL]
  | true :: m, x :: l, i + 1 => by simpa [onlyL] using onlyL_get m l i
  | false :: m, _ :: l, 0 => by simp [onlyL]
  | false :: m, _ :: l, i + 1 => by simpa [onlyL] using onlyL_get m l i
  | [], l, i => by simp [onlyL]
  | true :: m, [], i => by simp [onlyL]
  | false :: m, [], i => by simp [onlyL]

theorem St.only_weak (N : Nat) (mask : List Bool) (st : St) : Weak N st (st.only mask) := by
  intro hN
  refine ⟨hN, fun ds X m w a h => ⟨m, ⟨h.rel, by rw [St.only, onlyL_length]; exact h.len, ?_, h.defers⟩, Evo.refl _ _⟩⟩
  intro i hi
  simp only [St.only, onlyL_length] at hi
  show V _ ((onlyL mask st.regs).getD i .undef) _
  rcases onlyL_get mask st.regs i with h' | h'
  · rw [h']; exact h.regs i hi
  · rw [h']; exact .undef _

theorem AWP.only {P : Program} {N : Nat} {c : Code} {Q : Exit → St → Prop} {st : St} (mask : List Bool) (h : AWP P N c Q (st.only mask)) : AWP P N c Q st := AWP.weaken (St.only_weak N mask st) h

theorem AWP.post {P : Program} {N : Nat} {c : Code} {Q Q' : Exit → St → Prop} {st : St} (h : AWP P N c Q st) (hq : ∀ e s, Q e s → N ≤ s.rows.length → ∃ s', Weak N s s' ∧ Q' e s') : AWP P N c Q' st := by
  intro hN rd ds X m w a hr
  refine wpIn_mono (h hN rd ds X m w a hr) ?_
  rintro e a' w' ⟨s, m', h1, h2, h3, h4⟩
  obtain ⟨s', hw, hq'⟩ := hq e s h1 h2
  obtain ⟨k1, k2⟩ := hw h2
  obtain ⟨m2, k3, k4⟩ := k2 ds X m' w' a' h3
  exact ⟨s', m2, hq', k1, k3, h4.trans k4⟩

/-- A loop: behind each round just what the mask says is known. -/
theorem AWP.loopM {P : Program} {N : Nat} {c : Code} {Q : Exit → St → Prop} {st : St} (mask : List Bool) (I : Nat → St → Prop) (n₀ : Nat) (h₀ : I n₀ (st.only mask))
    (round : ∀ n s, I n s → AWP P N c (thenQ (fun s' => ∃ n', n' < n ∧ I n' (s'.only mask)) Q) s) : AWP P N (.loop c) Q st := by
  refine AWP.only mask (AWP.loop I n₀ h₀ fun n s hI => ?_)
  refine AWP.post (round n s hI) ?_
  intro e s' hq hN
  cases e with
  | normal => exact ⟨s'.only mask, St.only_weak N mask s', hq⟩
  | exit id => exact ⟨s', fun hN => ⟨hN, fun ds X m w a h => ⟨m, h, Evo.refl _ _⟩⟩, hq⟩
  | goto l => exact ⟨s', fun hN => ⟨hN, fun ds X m w a h => ⟨m, h, Evo.refl _ _⟩⟩, hq⟩
  | ret => exact ⟨s', fun hN => ⟨hN, fun ds X m w a h => ⟨m, h, Evo.refl _ _⟩⟩, hq⟩
  | panic ch => exact ⟨s', fun hN => ⟨hN, fun ds X m w a h => ⟨m, h, Evo.refl _ _⟩⟩, hq⟩
  | outgrown => exact ⟨s', fun hN => ⟨hN, fun ds X m w a h => ⟨m, h, Evo.refl _ _⟩⟩, hq⟩
end Go.Abs
namespace Go.Abs
end Go.Abs

namespace Go.Abs
open Go
/-- bytes -/
abbrev u8s (xs : List Int) : List AVal := xs.map fun x => .sc (.int .u8 x)
end Go.Abs

set_option linter.unusedVariables false
set_option linter.unusedSimpArgs false
namespace Go.Abs
open Go

/-- A region that draws its order, operation by operation. -/
inductive DerGL (P : Program) (F : Oper → Bool) (ops : Array Oper) (G : List Row → Prop) : List Oper → St → St → Prop
  | nil (st : St) : DerGL P F ops G [] st st
  | quiet (o : Oper) (rest : List Oper) (st st' : St) (res : AVal) (hw : wantA ops o st.regs = some true)
      (hs : ∀ rows, G rows → OpS P o (ev st.regs) rows res rows) (h : DerGL P F ops G rest (st.put o.dst res st.rows) st') : DerGL P F ops G (o :: rest) st st'
  | eff (o : Oper) (rest : List Oper) (st st' : St) (res : AVal) (rows' : List Row) (he : F o = true) (hw : wantA ops o st.regs = some true)
      (hs : OpS P o (ev st.regs) st.rows res rows') (hg : G rows') (h : DerGL P F ops G rest (st.put o.dst res rows') st') : DerGL P F ops G (o :: rest) st st'
  | skip (o : Oper) (rest : List Oper) (st st' : St) (hw : wantA ops o st.regs = some false)
      (h : DerGL P F ops G rest (st.put o.dst (.tup []) st.rows) st') : DerGL P F ops G (o :: rest) st st'

theorem DerGL.der {F : Oper → Bool} {P : Program} {ops : Array Oper} {G : List Row → Prop} : ∀ {l : List Oper} {st st' : St} (k : Nat), (∀ j, l[j]? = ops[k + j]?) → DerGL P F ops G l st st' → DerG P F ops G (List.range' k l.length) st st'
  | [], st, st', k, _, h => by cases h; exact .nil _
  | o :: l, st, st', k, hk, h => by
    have h0 : ops[k]? = some o := by simpa using (hk 0).symm
    have hk' : ∀ j, l[j]? = ops[k + 1 + j]? := fun j => by have := hk (j + 1); simpa [Nat.add_assoc, Nat.add_comm 1 j] using this
    rw [List.length_cons, List.range'_succ]
    cases h with
    | quiet _ _ _ _ res hw hs h => exact .quiet k _ _ _ o res h0 hw hs (DerGL.der (k + 1) hk' h)
    | eff _ _ _ _ res rows' he hw hs hg h => exact .eff k _ _ _ o res rows' h0 he hw hs hg (DerGL.der (k + 1) hk' h)
    | skip _ _ _ _ hw h => exact .skip k _ _ _ o h0 hw (DerGL.der (k + 1) hk' h)

/-- The rows at the beginning stay ahead. -/
def DerX (P : Program) (F : Oper → Bool) (ops : Array Oper) (R : List Row) (l : List Oper) (st : St) (K : St → Prop) : Prop := ∃ st', DerGL P F ops (fun rows => ∃ ext, rows = R ++ ext) l st st' ∧ K st'

theorem AWP.drawX {P : Program} {N : Nat} {Q : Exit → St → Prop} {st : St} {id : Nat} {l : List Oper} (hm : P.follows .mixedOrders = true) (F : Oper → Bool) (hok : drawOk F l = true)
    (h : DerX P F l.toArray st.rows l st (Q .normal)) : AWP P N (.region id l.toArray true) Q st := by
  obtain ⟨st', h1, h2⟩ := h
  refine AWP.draw hm (fun rows => ∃ ext, rows = st.rows ++ ext) ⟨[], by simp⟩ hok ?_ h2
  have := h1.der 0 (fun j => by simp)
  rw [List.range_eq_range']
  simpa using this
theorem DerX.nil {F : Oper → Bool} {P : Program} {ops : Array Oper} {R : List Row} {st : St} {K : St → Prop} (h : K st) : DerX P F ops R [] st K := ⟨st, .nil _, h⟩
theorem DerX.quiet {F : Oper → Bool} {P : Program} {ops : Array Oper} {R : List Row} {o : Oper} {l : List Oper} {st : St} {K : St → Prop} (c : Prop) (v : AVal) (st1 : St)
    (h : ∀ ext, sop P o (ev st.regs) (R ++ ext) = some ⟨c, v, R ++ ext⟩) (hw : wantA ops o st.regs = some true ∧ st.put o.dst v st.rows = st1) (hc : c) (hk : DerX P F ops R l st1 K) : DerX P F ops R (o :: l) st K := by
  obtain ⟨h1, rfl⟩ := hw
  obtain ⟨st', k1, k2⟩ := hk
  exact ⟨st', .quiet o l _ _ v h1 (fun rows ⟨ext, he⟩ => by subst he; exact sop_spec (h ext) hc) k1, k2⟩
theorem DerX.skip {F : Oper → Bool} {P : Program} {ops : Array Oper} {R : List Row} {o : Oper} {l : List Oper} {st : St} {K : St → Prop} (st1 : St)
    (hw : wantA ops o st.regs = some false ∧ st.put o.dst (.tup []) st.rows = st1) (hk : DerX P F ops R l st1 K) : DerX P F ops R (o :: l) st K := by
  obtain ⟨h1, rfl⟩ := hw
  obtain ⟨st', k1, k2⟩ := hk
  exact ⟨st', .skip o l _ _ h1 k1, k2⟩
theorem DerX.callD {F : Oper → Bool} {P : Program} {ops : Array Oper} {R : List Row} {o : Oper} {l : List Oper} {st : St} {K : St → Prop} {f : FuncId} {args : List AVal} {r : AVal} (he : EvD P f args r) (st1 : St)
    (h : wantA ops o st.regs = some true ∧ callA P o (ev st.regs) = some (f, args) ∧ st.put o.dst r st.rows = st1) (hk : DerX P F ops R l st1 K) : DerX P F ops R (o :: l) st K := by
  obtain ⟨h1, h2, rfl⟩ := h
  obtain ⟨st', k1, k2⟩ := hk
  exact ⟨st', .quiet o l _ _ r h1 (fun rows _ => callA_spec h2 (he rows)) k1, k2⟩
theorem AWP.toX {F : Oper → Bool} {P : Program} {ops : Array Oper} {R : List Row} {l : List Oper} {st : St} {K : St → Prop} (st' : St) (h : st = st') (k : DerX P F ops R l st' K) : DerX P F ops R l st K := h ▸ k
end Go.Abs

set_option linter.unusedVariables false
set_option linter.unusedSimpArgs false
namespace Go.Abs
open Go
/-- Numbers that are bytes. -/
def Bts (xs : List Int) : Prop := ∀ x ∈ xs, 0 ≤ x ∧ x < 256
theorem strOf_toList (cells : List AVal) : (strOf cells).toList = cells.map byteOf1 := by
  unfold strOf; exact Go.ByteArray.toList_mk _
end Go.Abs

set_option linter.unusedVariables false
set_option linter.unusedSimpArgs false
namespace Go.Abs
open Go

mutual
/-- Whether a slice is nil is forgotten. -/
def AVal.anyA : AVal → AVal
  | .sc v => .sc v
  | .sl c n _ => .sl c n .any
  | .agg cs => .agg (anyAll cs)
  | .tup cs => .tup (anyAll cs)
  | .dptr cs => .dptr cs
  | .fn f cs => .fn f cs
  | .ifc t v => .ifc t v
  | .ptr id o => .ptr id o
  | .row id o n => .row id o n
  | .mp id => .mp id
  | .undef => .undef
def anyAll : List AVal → List AVal
  | [] => []
  | x :: r => x.anyA :: anyAll r
end
theorem anyAll_length (l : List AVal) : (anyAll l).length = l.length := by
  induction l with
  | nil => rfl
  | cons x l ih => simp [anyAll, ih]
theorem anyAll_getD (l : List AVal) (i : Nat) : (anyAll l).getD i .undef = (l.getD i .undef).anyA := by
  induction l generalizing i with
  | nil => simp [anyAll, AVal.anyA]
  | cons x l ih => cases i with
    | zero => simp [anyAll]
    | succ i => simpa [anyAll] using ih i
theorem V.sl_any {E : Env} {c : List AVal} {n : Nat} {k : SlK} {v : Value} (h : V E (.sl c n k) v) : V E (.sl c n .any) v := by
  generalize hx : AVal.sl c n k = x at h
  cases h <;> simp at hx
  · obtain ⟨rfl, rfl, rfl⟩ := hx; exact .slnil _ (by simp)
  · obtain ⟨rfl, rfl, rfl⟩ := hx
    exact .slz _ (by simp) _
  · rename_i b o cap vs hk hn hd hv hm
    obtain ⟨rfl, rfl, rfl⟩ := hx
    exact .sl _ _ .any b o cap vs (.inl rfl) hn hd hv hm
theorem V.anyA {E : Env} {x : AVal} {v : Value} (h : V E x v) : V E x.anyA v := by
  induction h with
  | slnil k hk => exact V.sl_any (.slnil k hk)
  | slz k hk a => exact V.sl_any (.slz k hk a)
  | sl cells n k b o cap vs hk hn hd hv hm ih => exact V.sl_any (.sl cells n k b o cap vs hk hn hd hv hm)
  | agg cells vs hl hv ih => exact .agg _ vs (by rw [anyAll_length]; exact hl) fun i hi => by rw [anyAll_getD]; exact ih i (by rwa [anyAll_length] at hi)
  | tup cells vs hl hv ih => exact .tup _ vs (by rw [anyAll_length]; exact hl) fun i hi => by rw [anyAll_getD]; exact ih i (by rwa [anyAll_length] at hi)
  | undef v => exact .undef v
  | sc v h => exact .sc v h
  | ptr i off r1 b hr1 hs1 hm => exact .ptr i off r1 b hr1 hs1 hm
  | ptrLost i off r1 v hr1 hs1 hu1 => exact .ptrLost i off r1 v hr1 hs1 hu1
  | dptr cells b o vs hd hv hm ih => exact .dptr cells b o vs hd hv hm
  | rowF i off n b cap r1 hr1 hs1 hm hn ho hc => exact .rowF i off n b cap r1 hr1 hs1 hm hn ho hc
  | rowV i r1 base hr1 hs1 => exact .rowV i r1 base hr1 hs1
  | rowLost i off n r1 v hr1 hs1 h01 hv => exact .rowLost i off n r1 v hr1 hs1 h01 hv
  | rowG i off n b o cap r1 vs hr1 hs1 hn ho hd1 hv hm he ih => exact .rowG i off n b o cap r1 vs hr1 hs1 hn ho hd1 hv hm he
  | fn f cap vs hl hv ih => exact .fn f cap vs hl hv
  | ifc t x v h ih => exact .ifc t x v h
  | mp i r1 b hr1 hs1 hm => exact .mp i r1 b hr1 hs1 hm
theorem Shrink.anyA (N : Nat) (rows : List Row) (r : AVal) : Shrink N rows r rows r.anyA := fun X m w v h1 h2 hN => ⟨m, h1, h2.anyA, hN, Evo.refl _ _⟩

/-- All rows that are new and that may become data, one by one; what is asked of them. -/
def frzQ : List Nat → List Row → AVal → Option (Prop × List Row × AVal)
  | [], rows, x => some (True, rows, x)
  | id :: l, rows, x => match rows[id]? with
    | some r => match r.st with
      | .fresh => match frzQ l (frzRows id r rows) (x.frz id r) with
        | some (c, p) => some (dataAll r.cells = true ∧ c, p)
        | none => none
      | .grown => match frzQ l (frzRows id r rows) (x.frz id r) with
        | some (c, p) => some (dataAll r.cells = true ∧ c, p)
        | none => none
      | _ => none
    | none => none
theorem frzQ_spec {N : Nat} : ∀ {l : List Nat} {rows rows' : List Row} {x x' : AVal} {c : Prop}, frzQ l rows x = some (c, rows', x') → c → Shrink N rows x rows' x'
  | [], rows, rows', x, x', c, h, hc => by simp [frzQ] at h; obtain ⟨_, rfl, rfl⟩ := h; exact Shrink.refl _ _ _
  | id :: l, rows, rows', x, x', c, h, hc => by
    simp only [frzQ] at h
    split at h
    · rename_i r hr
      split at h
      · rename_i hs
        split at h
        · rename_i c2 p h2
          simp only [Option.some.injEq, Prod.mk.injEq] at h
          obtain ⟨rfl, rfl⟩ := h
          exact (Shrink.frz hr (.inl hs) hc.1).trans (frzQ_spec h2 hc.2)
        · simp at h
      · rename_i hs
        split at h
        · rename_i c2 p h2
          simp only [Option.some.injEq, Prod.mk.injEq] at h
          obtain ⟨rfl, rfl⟩ := h
          exact (Shrink.frz hr (.inr hs) hc.1).trans (frzQ_spec h2 hc.2)
        · simp at h
      · simp at h
    · simp at h
/-- New rows that the result needs become data; all the others go; nobody knows what is nil. -/
theorem Shrink.dataK {rows : List Row} {r1 r : AVal} (l : List Nat) (c : Prop) (r2 : AVal) (h : (frzQ l rows r1).map (fun p => (p.1, p.2.2)) = some (c, r2)) (hc : c) (he : r2.anyA = r) (hd : r.data = true) : Shrink 0 rows r1 [] r := by
  cases h2 : frzQ l rows r1 with
  | none => simp [h2] at h
  | some p =>
    simp [h2] at h
    obtain ⟨h3, h4⟩ := h
    have := frzQ_spec (N := 0) (c := p.1) (rows' := p.2.1) (x' := p.2.2) h2 (by rw [h3]; exact hc)
    rw [h4] at this
    exact (this.trans (Shrink.anyA 0 _ _)).trans (Shrink.all he (by rw [← he] at hd; exact he ▸ hd))

/-- A slice of which nobody knows whether it is nil. -/
theorem VL.split {E : Env} {pre post : List AVal} {cells : List AVal} {n : Nat} {vs : List Value} (h : VL E (pre ++ .sl cells n .any :: post) vs) :
    (cells = [] ∧ n = 0 ∧ VL E (pre ++ .sl [] 0 .nil :: post) vs) ∨ VL E (pre ++ .sl cells n .nn :: post) vs := by
  have hp : (pre ++ AVal.sl cells n .any :: post).getD pre.length .undef = .sl cells n .any := by simp [List.getD_eq_getElem?_getD]
  have hlen := h.1
  have h0 := h.2 pre.length (by simp)
  rw [hp] at h0
  have other : ∀ (y : AVal), V E y (vs.getD pre.length Go.undef) → VL E (pre ++ y :: post) vs := by
    intro y hy
    refine ⟨by rw [← hlen]; simp, fun i hi => ?_⟩
    by_cases he : i = pre.length
    · subst he
      have : (pre ++ y :: post).getD pre.length .undef = y := by simp [List.getD_eq_getElem?_getD]
      rw [this]; exact hy
    · have e : (pre ++ y :: post).getD i .undef = (pre ++ AVal.sl cells n .any :: post).getD i .undef := by
        rcases Nat.lt_or_ge i pre.length with h' | h'
        · simp [List.getD_eq_getElem?_getD, List.getElem?_append_left h']
        · obtain ⟨j, rfl⟩ : ∃ j, i = pre.length + (j + 1) := ⟨i - pre.length - 1, by omega⟩
          simp [List.getD_eq_getElem?_getD, List.getElem?_append_right]
      rw [e]; exact h.2 i (by simpa using hi)
  generalize hx : AVal.sl cells n .any = x at h0
  generalize hv : vs.getD pre.length Go.undef = v at h0
  cases h0 <;> simp at hx
  · obtain ⟨rfl, rfl, rfl⟩ := hx
    exact .inl ⟨rfl, rfl, other _ (by rw [hv]; exact .slnil _ (by simp))⟩
  · rename_i hk a
    obtain ⟨rfl, rfl, rfl⟩ := hx
    exact .inr (other _ (by rw [hv]; exact .slz _ (by simp) a))
  · rename_i b o cap vs' hk hn hd hv' hm
    obtain ⟨rfl, rfl, rfl⟩ := hx
    exact .inr (other _ (by rw [hv]; exact .sl _ _ .nn b o cap vs' (.inr rfl) hn hd hv' hm))
theorem EvF.split {P : Program} {f : FuncId} (pre : List AVal) {post : List AVal} {cells : List AVal} {n : Nat} {rows rows' : List Row} {r : AVal}
    (h0 : cells = [] → n = 0 → EvF P f (pre ++ .sl [] 0 .nil :: post) rows r rows') (h1 : EvF P f (pre ++ .sl cells n .nn :: post) rows r rows') : EvF P f (pre ++ .sl cells n .any :: post) rows r rows' := by
  intro X m w vs hr hvl
  rcases VL.split hvl with ⟨a, b, c⟩ | c
  · exact h0 a b X m w vs hr c
  · exact h1 X m w vs hr c
theorem VL.anyAll {E : Env} {xs : List AVal} {vs : List Value} (h : VL E xs vs) : VL E (anyAll xs) vs := ⟨by rw [anyAll_length]; exact h.1, fun i hi => by rw [anyAll_getD]; exact (h.2 i (by rwa [anyAll_length] at hi)).anyA⟩
/-- What holds whatever is nil holds. -/
theorem EvD.any {P : Program} {f : FuncId} {args args' : List AVal} {r : AVal} (h : EvD P f args r) (he : Abs.anyAll args' = args) : EvD P f args' r := by
  subst he
  exact fun rows X m w vs hr hvl => h rows X m w vs hr hvl.anyAll
theorem dataAll_append (a b : List AVal) : dataAll (a ++ b) = (dataAll a && dataAll b) := by
  induction a with
  | nil => simp [dataAll]
  | cons x a ih => simp [dataAll, ih, Bool.and_assoc]
end Go.Abs
namespace Go.Abs
open Go
theorem DerQ.callE {P : Program} {ops : Array Oper} {o : Oper} {l : List Oper} {st : St} {K : St → Prop} {f : FuncId} {args : List AVal} {r : AVal} (he : EvD P f args r) (args' : List AVal) (st1 : St)
    (h : wantA ops o st.regs = some true ∧ callA P o (ev st.regs) = some (f, args') ∧ anyAll args' = args ∧ st.put o.dst r st.rows = st1) (hk : DerQ P ops l st1 K) : DerQ P ops (o :: l) st K :=
  DerQ.callD (he.any h.2.2.1) st1 ⟨h.1, h.2.1, h.2.2.2⟩ hk
theorem DerX.callE {F : Oper → Bool} {P : Program} {ops : Array Oper} {R : List Row} {o : Oper} {l : List Oper} {st : St} {K : St → Prop} {f : FuncId} {args : List AVal} {r : AVal} (he : EvD P f args r) (args' : List AVal) (st1 : St)
    (h : wantA ops o st.regs = some true ∧ callA P o (ev st.regs) = some (f, args') ∧ anyAll args' = args ∧ st.put o.dst r st.rows = st1) (hk : DerX P F ops R l st1 K) : DerX P F ops R (o :: l) st K :=
  DerX.callD (he.any h.2.2.1) st1 ⟨h.1, h.2.1, h.2.2.2⟩ hk
end Go.Abs

set_option linter.unusedVariables false
set_option linter.unusedSimpArgs false
namespace Go.Abs
open Go

theorem V.shift {E0 E2 : Env} (k : Nat) (hw : E2.w = E0.w) (hI : ∀ b o v, Imm E0 b o → E0.w.cell? ⟨b, o, none⟩ = some v → Imm E2 b o)
    (hrow : ∀ (i : Nat) (r : Row), E0.rows[i]? = some r → E2.rows[i + k]? = some (r.ren (· + k))) (hm : ∀ (i : Nat) (r : Row), E0.rows[i]? = some r → E2.m (i + k) = E0.m i) {x : AVal} {v : Value} (h : V E0 x v) :
    V E2 (x.ren (· + k)) v := by
  have hc : ∀ a, E2.w.cell? a = E0.w.cell? a := fun a => by rw [hw]
  induction h with
  | undef v => exact .undef v
  | sc v h => exact .sc v h
  | slnil k hk => exact .slnil k hk
  | slz k hk a => exact .slz k hk a
  | sl cells n kk b o cap vs hk hn hd hv hmm ih =>
    refine .sl cells n kk b o cap vs hk hn hd (fun i hi => ?_) (fun i hi => ?_)
    · have := ih i hi
      rwa [AVal.ren_data _ ((dataAll_iff cells).1 hd i hi)] at this
    · exact ⟨by rw [hc]; exact (hmm i hi).1, hI _ _ _ (hmm i hi).2 (hmm i hi).1⟩
  | agg cells vs hl hv ih => exact .agg _ vs (by rw [renAll_length]; exact hl) fun i hi => by rw [renAll_getD]; exact ih i (by rwa [renAll_length] at hi)
  | tup cells vs hl hv ih => exact .tup _ vs (by rw [renAll_length]; exact hl) fun i hi => by rw [renAll_getD]; exact ih i (by rwa [renAll_length] at hi)
  | ptr i off r b hr hs hmi => exact .ptr _ off _ b (hrow i r hr) hs (by rw [hm i r hr]; exact hmi)
  | ptrLost i off r v hr hs hu => exact .ptrLost _ off _ v (hrow i r hr) hs hu
  | dptr cells b o vs hd hv hmm ih =>
    refine .dptr cells b o vs hd (fun i hi => ?_) (fun i hi => ?_)
    · have := ih i hi
      rwa [AVal.ren_data _ ((dataAll_iff cells).1 hd i hi)] at this
    · exact ⟨by rw [hc]; exact (hmm i hi).1, hI _ _ _ (hmm i hi).2 (hmm i hi).1⟩
  | rowF i off n b cap r hr hs hmi hn ho hcc =>
    exact .rowF _ off n b cap _ (hrow i r hr) hs (by rw [hm i r hr]; exact hmi) hn (by simpa [Row.ren, renAll_length] using ho) (fun j hj => by rw [hc]; exact hcc j hj)
  | rowLost i off n r v hr hs h0 hv => exact .rowLost _ off n _ v (hrow i r hr) hs (by simp [Row.ren, h0, renAll]) hv
  | rowV i r base hr hs =>
    refine .rowV _ _ base (hrow i r hr) ?_
    rcases hs with h | ⟨h, h'⟩ | ⟨h, h'⟩
    · exact .inl h
    · exact .inr (.inl ⟨h, by rw [hm i r hr]; exact h'⟩)
    · exact .inr (.inr ⟨h, fun e => h' (List.eq_nil_of_length_eq_zero (by have := congrArg List.length e; simpa [Row.ren, renAll_length] using this))⟩)
  | rowG i off n b o cap r vs hr hs hn ho hd hv hmm he ih =>
    refine .rowG _ off n b o cap _ vs (hrow i r hr) hs hn (by simpa [Row.ren, renAll_length] using ho) (fun j hj => ?_) (fun j hj => ?_) (fun j hj => ?_) (fun a1 a2 => ?_)
    · simp only [Row.ren, renAll_getD, AVal.data_ren]; exact hd j hj
    · simp only [Row.ren, renAll_getD]; exact ih j hj
    · exact ⟨by rw [hc]; exact (hmm j hj).1, hI _ _ _ (hmm j hj).2 (hmm j hj).1⟩
    · obtain ⟨e1, e2, e3⟩ := he a1 (by simpa [Row.ren, renAll_length] using a2)
      exact ⟨by rw [hm i r hr]; exact e1, e2, fun j hj => by rw [hc]; exact e3 j hj⟩
  | fn f cap vs hl hv ih => exact .fn f _ vs (by rw [renAll_length]; exact hl) fun i hi => by rw [renAll_getD]; exact ih i (by rwa [renAll_length] at hi)
  | ifc t x v h ih => exact .ifc t _ v ih
  | mp i r b hr hs hmi => exact .mp _ _ b (hrow i r hr) hs (by rw [hm i r hr]; exact hmi)

/-- A function that is given data does the same whatever rows the caller has; what it makes comes behind them. -/
theorem EvF.liftA {P : Program} {f : FuncId} {args : List AVal} {r : AVal} {ext : List Row} (h : EvF P f args [] r ext) (hd : dataAll args = true) (rows : List Row) :
    EvF P f args rows (r.ren (· + rows.length)) (rows ++ ext.map (Row.ren (· + rows.length))) := by
  intro X m w vs hrel hvl
  let k := rows.length
  let X2 : Nat → Nat → Prop := fun b o => b < w.heap.size ∧ ¬ Imm ⟨rows, m, w, X⟩ b o
  have hrel2 : Rel ⟨[], m, w, X2⟩ :=
    ⟨fun b o h => h.1, fun i r b hr => by simp at hr, fun i j r s b hr => by simp at hr, fun i r hr => by simp at hr, fun i r hr => by simp at hr, fun i r hr => by simp at hr⟩
  have hvl2 : VL ⟨[], m, w, X2⟩ args vs := by
    refine ⟨hvl.1, fun i hi => ?_⟩
    refine V.mono (N := 0) ?_ (fun id r h _ => absurd h (by omega)) (hvl.2 i hi) (AVal.lt_of_data 0 _ ((dataAll_iff _).1 hd i hi))
    intro b o v hi hc
    exact ⟨⟨hi.1, fun hx => hx.2 hi, fun id r hr => by simp at hr⟩, hc⟩
  refine (h X2 m w vs hrel2 hvl2).mono ?_
  rintro e w' ⟨v, m', rfl, h1, h2, h3, h4⟩
  have hold : ∀ b, b < w.heap.size → w'.heap[b]? = w.heap[b]? := fun b hb => (h4.free b hb (fun id r hr => by simp at hr)).1
  have hfr : ∀ b, b < w.heap.size → Free ⟨ext, m', w', X2⟩ b := fun b hb => (h4.free b hb (fun id r hr => by simp at hr)).2
  have hsz : w.heap.size ≤ w'.heap.size := h4.size
  have hcell : ∀ b o, b < w.heap.size → w'.cell? ⟨b, o, none⟩ = w.cell? ⟨b, o, none⟩ := fun b o hb => cell_congr (hold b hb)
  let m2 : Nat → Option Nat := fun i => if i < k then m i else m' (i - k)
  let E2 : Env := ⟨rows ++ ext.map (Row.ren (· + k)), m2, w', X⟩
  have hm2 : ∀ {i : Nat}, i < k → m2 i = m i := fun h => if_pos h
  have hm2' : ∀ i : Nat, m2 (i + k) = m' i := fun i => by show (if _ then _ else _) = _; rw [if_neg (by omega)]; congr 1; omega
  have hcase : ∀ {i : Nat} {s : Row}, E2.rows[i]? = some s → (i < k ∧ rows[i]? = some s) ∨ (∃ j s0, i = j + k ∧ ext[j]? = some s0 ∧ s = s0.ren (· + k)) := by
    intro i s hs
    rcases Nat.lt_or_ge i k with hi | hi
    · refine .inl ⟨hi, ?_⟩
      have : (rows ++ ext.map (Row.ren (· + k)))[i]? = some s := hs
      rwa [List.getElem?_append_left hi] at this
    · refine .inr ⟨i - k, ?_⟩
      have : (rows ++ ext.map (Row.ren (· + k)))[i]? = some s := hs
      rw [List.getElem?_append_right hi, List.getElem?_map] at this
      cases he : ext[i - k]? with
      | none => rw [show rows.length = k from rfl, he] at this; simp at this
      | some s0 => rw [show rows.length = k from rfl, he] at this; simp at this; exact ⟨s0, by omega, rfl, this.symm⟩
  have hI : ∀ b o v, Imm ⟨rows, m, w, X⟩ b o → w.cell? ⟨b, o, none⟩ = some v → Imm E2 b o ∧ E2.w.cell? ⟨b, o, none⟩ = some v := by
    intro b o v hi hc
    refine ⟨⟨Nat.lt_of_lt_of_le hi.1 hsz, hi.2.1, ?_⟩, by show w'.cell? _ = _; rw [hcell b o hi.1]; exact hc⟩
    intro i s hs hns hmi
    rcases hcase hs with ⟨a1, a2⟩ | ⟨j, s0, rfl, a2, rfl⟩
    · exact hi.2.2 i s a2 hns ((hm2 a1).symm.trans hmi)
    · exact absurd ((hm2' j).symm.trans hmi) (hfr b hi.1 j s0 a2 hns)
  have hV : ∀ x v, V ⟨rows, m, w, X⟩ x v → V E2 x v := fun x v hv => by
    refine V.mono (N := rows.length) hI (fun id s hid hs => ⟨s, ?_, RowEvo.keep (hm2 hid) ?_⟩) hv hv.refLt
    · show (rows ++ _)[id]? = _
      rw [List.getElem?_append_left hid]; exact hs
    · intro hst b o hmb hc
      have := hrel.lt hs (by rcases hst with h | h <;> simp [h]) hmb
      show (w'.cell? _).isSome = true
      rw [hcell b o this]; exact hc
  have hX : ∀ b o, ¬ X2 b o → ¬ X b o := by
    intro b o h hx
    exact h ⟨hrel.xlt b o hx, fun hh => hh.2.1 hx⟩
  have hS : ∀ x v, V ⟨ext, m', w', X2⟩ x v → V E2 (x.ren (· + k)) v := fun x v hv => by
    refine V.shift (E0 := ⟨ext, m', w', X2⟩) (E2 := E2) k rfl ?_ ?_ (fun i r _ => hm2' i) hv
    · intro b o u hi hc
      refine ⟨hi.1, hX b o hi.2.1, ?_⟩
      intro id s hs hns hmi
      rcases hcase hs with ⟨a1, a2⟩ | ⟨j, s0, rfl, a2, rfl⟩
      · have hmb := (hm2 a1).symm.trans hmi
        have hb := hrel.lt a2 hns hmb
        have : Imm ⟨rows, m, w, X⟩ b o := Classical.byContradiction fun hn => hi.2.1 ⟨hb, hn⟩
        exact this.2.2 id s a2 hns hmb
      · have := hi.2.2 j s0 a2 hns ((hm2' j).symm.trans hmi)
        simpa [Row.ren, renAll_length] using this
    · intro i r hr
      show (rows ++ ext.map (Row.ren (· + k)))[i + k]? = _
      rw [List.getElem?_append_right (by show k ≤ i + k; omega), List.getElem?_map]
      have e : i + k - rows.length = i := by show i + k - k = i; omega
      rw [e]
      have : ext[i]? = some r := hr
      rw [this]; rfl
  refine ⟨v, m2, rfl, ⟨fun b o hx => Nat.lt_of_lt_of_le (hrel.xlt b o hx) hsz, ?_, ?_, ?_, ?_, ?_⟩, hS _ _ h2, by simp, ⟨fun x v hv _ => hV x v hv, hsz, fun b hb hf => ⟨hold b hb, ?_⟩, h4.os, h4.tape, h4.output, hI⟩⟩
  · intro i s b hs hns hmi o
    rcases hcase hs with ⟨a1, a2⟩ | ⟨j, s0, rfl, a2, rfl⟩
    · exact hrel.xr i s b a2 hns ((hm2 a1).symm.trans hmi) o
    · exact hX b o (h1.xr j s0 b a2 hns ((hm2' j).symm.trans hmi) o)
  · intro i j s t b hs ht hns hnt hi hj
    rcases hcase hs with ⟨a1, a2⟩ | ⟨i0, s0, rfl, a2, rfl⟩
    · have hmb := (hm2 a1).symm.trans hi
      rcases hcase ht with ⟨c1, c2⟩ | ⟨j0, t0, rfl, c2, rfl⟩
      · exact hrel.inj i j s t b a2 c2 hns hnt hmb ((hm2 c1).symm.trans hj)
      · exact absurd ((hm2' j0).symm.trans hj) (hfr b (hrel.lt a2 hns hmb) j0 t0 c2 hnt)
    · rcases hcase ht with ⟨c1, c2⟩ | ⟨j0, t0, rfl, c2, rfl⟩
      · have hmb := (hm2 c1).symm.trans hj
        exact absurd ((hm2' i0).symm.trans hi) (hfr b (hrel.lt c2 hnt hmb) i0 s0 a2 hns)
      · rw [h1.inj i0 j0 s0 t0 b a2 c2 hns hnt ((hm2' i0).symm.trans hi) ((hm2' j0).symm.trans hj)]
  · intro i s hs hns hnm
    rcases hcase hs with ⟨a1, a2⟩ | ⟨j, s0, rfl, a2, rfl⟩
    · rcases hrel.own i s a2 hns hnm with h | ⟨b, c, e, k1, k2, k3, k4⟩
      · exact .inl ⟨(hm2 a1).trans h.1, h.2⟩
      · exact .inr ⟨b, c, e, (hm2 a1).trans k1, (hold b (lt_of_heap k2)).trans k2, k3, fun j hj => hV _ _ (k4 j hj)⟩
    · rcases h1.own j s0 a2 hns hnm with h | ⟨b, c, e, k1, k2, k3, k4⟩
      · refine .inl ⟨(hm2' j).trans h.1, ?_⟩
        have h' : s0.cells = [] := h.2
        simp [Row.ren, h', renAll]
      · refine .inr ⟨b, c, e, (hm2' j).trans k1, k2, by simpa [Row.ren, renAll_length] using k3, fun i hi => ?_⟩
        simp only [Row.ren, renAll_length] at hi
        simp only [Row.ren, renAll_getD]
        exact hS _ _ (k4 i hi)
  · intro i s hs hg
    rcases hcase hs with ⟨a1, a2⟩ | ⟨j, s0, rfl, a2, rfl⟩
    · exact hrel.grown i s a2 hg
    · simp only [Row.ren, dataAll_ren]; exact h1.grown j s0 a2 hg
  · intro i s hs hg
    rcases hcase hs with ⟨a1, a2⟩ | ⟨j, s0, rfl, a2, rfl⟩
    · obtain ⟨b, es, kk, k1, k2, k3, k4⟩ := hrel.map i s a2 hg
      exact ⟨b, es, kk, (hm2 a1).trans k1, (hold b (lt_of_heap k2)).trans k2, k3, fun j hj => ⟨hV _ _ (k4 j hj).1, hV _ _ (k4 j hj).2⟩⟩
    · obtain ⟨b, es, kk, k1, k2, k3, k4⟩ := h1.map j s0 a2 hg
      refine ⟨b, es, kk, (hm2' j).trans k1, k2, by simpa [Row.ren, renAll_length] using k3, fun i hi => ?_⟩
      simp only [Row.ren, renAll_getD]
      exact ⟨hS _ _ (k4 i hi).1, hS _ _ (k4 i hi).2⟩
  · intro i s hs hns hmi
    rcases hcase hs with ⟨a1, a2⟩ | ⟨j, s0, rfl, a2, rfl⟩
    · exact hf i s a2 hns ((hm2 a1).symm.trans hmi)
    · exact hfr b hb j s0 a2 hns ((hm2' j).symm.trans hmi)

/-- What is made comes behind the rows of the caller. -/
def EvA (P : Program) (f : FuncId) (args : List AVal) (r : Nat → AVal) (ext : Nat → List Row) : Prop := ∀ rows, EvF P f args rows (r rows.length) (rows ++ ext rows.length)
theorem EvA.of {P : Program} {f : FuncId} {args : List AVal} {r : Nat → AVal} {ext : Nat → List Row} (hr : ∀ k, (r 0).ren (· + k) = r k) (he : ∀ k, (ext 0).map (Row.ren (· + k)) = ext k) (hd : dataAll args = true) (h : EvF P f args [] (r 0) (ext 0)) : EvA P f args r ext := fun rows => by
  have := h.liftA hd rows
  rwa [hr, he] at this
theorem EvA.body {P : Program} {f : FuncId} {fn : Func} {c : Code} {args : List AVal} {r : Nat → AVal} {ext : Nat → List Row} (hf : P.funcs[f]? = some fn) (hb : fn.body = some c) (hd : dataAll args = true) (hr : ∀ k, (r 0).ren (· + k) = r k) (he : ∀ k, (ext 0).map (Row.ren (· + k)) = ext k)
    (h : AWP P 0 c (fun e st' => (e = .normal ∨ e = .ret) ∧ ∃ r1, resA' P fn.results st' = some r1 ∧ Shrink 0 st'.rows r1 (ext 0) (r 0)) ⟨args ++ List.replicate (fn.ntmps - args.length) .undef, []⟩) : EvA P f args r ext :=
  EvA.of hr he hd (EvF.body hf hb fun _ => h)
theorem EvA.any {P : Program} {f : FuncId} {args args' : List AVal} {r : Nat → AVal} {ext : Nat → List Row} (h : EvA P f args r ext) (he : Abs.anyAll args' = args) : EvA P f args' r ext := by
  subst he
  exact fun rows X m w vs hr hvl => h rows X m w vs hr hvl.anyAll
theorem EvA.split {P : Program} {f : FuncId} (pre : List AVal) {post : List AVal} {cells : List AVal} {n : Nat} {r : Nat → AVal} {ext : Nat → List Row}
    (h0 : cells = [] → n = 0 → EvA P f (pre ++ .sl [] 0 .nil :: post) r ext) (h1 : EvA P f (pre ++ .sl cells n .nn :: post) r ext) : EvA P f (pre ++ .sl cells n .any :: post) r ext :=
  fun rows => EvF.split pre (fun a b => h0 a b rows) (h1 rows)
theorem DerX.callA {F : Oper → Bool} {P : Program} {ops : Array Oper} {R : List Row} {o : Oper} {l : List Oper} {st : St} {K : St → Prop} {f : FuncId} {args : List AVal} {r : Nat → AVal} {ext : Nat → List Row} (he : EvA P f args r ext) (args' : List AVal) (ext' : List Row) (st1 : St)
    (h : F o = true ∧ wantA ops o st.regs = some true ∧ Abs.callA P o (ev st.regs) = some (f, args') ∧ anyAll args' = args ∧ st.rows ++ ext st.rows.length = R ++ ext' ∧ st.put o.dst (r st.rows.length) (st.rows ++ ext st.rows.length) = st1) (hk : DerX P F ops R l st1 K) : DerX P F ops R (o :: l) st K := by
  obtain ⟨h0, h1, h2, h3, h4, rfl⟩ := h
  obtain ⟨st', k1, k2⟩ := hk
  exact ⟨st', .eff o l _ _ _ _ h0 h1 (callA_spec h2 (he.any h3 st.rows)) ⟨ext', h4⟩ k1, k2⟩
/-- One row of data. -/
theorem ren_row {cells : List AVal} {esz : Nat} {s : RowSt} (hd : dataAll cells = true) (k : Nat) : [(⟨cells, esz, s⟩ : Row)].map (Row.ren (· + k)) = [⟨cells, esz, s⟩] := by
  have : renAll (· + k) cells = cells := by
    apply List.ext_getElem (renAll_length _ _)
    intro i h1 h2
    have e1 := renAll_getD (· + k) cells i
    rw [AVal.ren_data _ ((dataAll_iff _).1 hd i h2)] at e1
    simpa [List.getD_eq_getElem?_getD, h1, h2] using e1
  simp [Row.ren, this]

/-- nil, or nothing, as a row of its own. -/
theorem Shrink.virt {rows : List Row} {k : SlK} (esz : Nat) (hk : k = .nil ∨ k = .cap0) : Shrink 0 rows (.sl [] 0 k) [⟨[], esz, .fresh⟩] (.row 0 0 0) := by
  refine Shrink.trans (B := []) (b := .sl [] 0 k) ?_ ?_
  · exact Shrink.all rfl rfl
  · intro X m w v h1 h2 _
    obtain ⟨k1, k2⟩ := virtual_step h1 esz
    refine ⟨_, k1, ?_, by simp, k2⟩
    have hb : ∃ base : Option Addr, v = .slice base 0 0 := by
      generalize hx : AVal.sl [] 0 k = x at h2
      cases h2 <;> simp at hx
      · exact ⟨none, rfl⟩
      · rename_i hk3 a; exact ⟨some a, rfl⟩
      · rename_i b o cap vs hk2 hn hd hv hm
        obtain ⟨rfl, rfl, rfl⟩ := hx
        rcases hk with rfl | rfl <;> simp at hk2
    obtain ⟨base, rfl⟩ := hb
    exact .rowV 0 ⟨[], esz, .fresh⟩ base (by simp) (.inr (.inl ⟨.inl rfl, by simp⟩))
end Go.Abs

set_option linter.unusedVariables false
set_option linter.unusedSimpArgs false
namespace Go.Abs
open Go

def flat1 : AVal → Bool
  | .sc _ => true
  | .undef => true
  | _ => false
/-- Numbers, bools, strings, and those side by side. -/
def flat : AVal → Bool
  | .sc _ => true
  | .undef => true
  | .tup l => l.all flat1
  | .agg l => l.all flat1
  | _ => false
/-- What stands in a row, for one who only reads. -/
def snapA (rows : List Row) : AVal → Prop × AVal
  | .row id off n => match rows[id]? with
    | some r => (dataAll r.cells = true, .sl ((r.cells.drop off).take (n * r.esz)) n .any)
    | none => (False, .undef)
  | .ptr id off => match rows[id]? with
    | some r => (dataAll r.cells = true ∧ r.st = .fresh, .dptr (r.cells.drop off))
    | none => (False, .undef)
  | x => (x.data = true, x.anyA)
def snapL (rows : List Row) : List AVal → Prop × List AVal
  | [] => (True, [])
  | x :: l => ((snapA rows x).1 ∧ (snapL rows l).1, (snapA rows x).2 :: (snapL rows l).2)

theorem dataAll_drop {l : List AVal} (k : Nat) (h : dataAll l = true) : dataAll (l.drop k) = true := by
  rw [dataAll_iff] at h ⊢
  intro i hi
  simp at hi
  simpa [List.getD_eq_getElem?_getD] using h (k + i) (by omega)
theorem dataAll_take {l : List AVal} (k : Nat) (h : dataAll l = true) : dataAll (l.take k) = true := by
  rw [dataAll_iff] at h ⊢
  intro i hi
  rw [List.length_take] at hi
  have hi := Nat.lt_min.mp hi
  simpa [List.getD_eq_getElem?_getD, List.getElem?_take, hi.1] using h i hi.2

/-- What is asked of rows that are read as these values. -/
def snapC (rows : List Row) : List AVal → List AVal → Prop
  | x :: l, y :: l' => (snapA rows x).1 ∧ (snapA rows x).2 = y ∧ snapC rows l l'
  | [], [] => True
  | _, _ => False
end Go.Abs
namespace Go.Abs
open Go
end Go.Abs
namespace Go.Abs
open Go
end Go.Abs
namespace Go.Abs
open Go
end Go.Abs

set_option linter.unusedVariables false
set_option linter.unusedSimpArgs false
namespace Go.Abs
open Go

/-- A text's constant as bytes: a row is laid and marked. -/
def litOf (P : Program) (o1 o2 : Oper) (ρ : Operand → AVal) (rows : List Row) : Option (AVal × List Row) :=
  match o1.op, o2.op, o1.dst with
  | .buildSlice t len parts, .convert s d (.tmp x), some d1 =>
    if s = t ∧ d = t ∧ x = d1 then
      match P.underlying t with
      | some (.slice e) => match P.underlying e with
        | some (.int .u8) => buildSliceA P t len ρ parts.toList rows true
        | _ => none
      | _ => none
    else none
  | _, _, _ => none
end Go.Abs

set_option linter.unusedVariables false
set_option linter.unusedSimpArgs false
namespace Go.Abs
open Go Go.ChangeShapes Go.WideShapes Go.RowKit

/-- The world as it is handed in: nothing is mine. -/
def env0 (w : World) : Env := ⟨[], fun _ => none, w, fun _ _ => False⟩
theorem rel0 (w : World) : Rel (env0 w) :=
  ⟨fun b o h => h.elim, fun i r b hr => by simp [env0] at hr, fun i j r s b hr => by simp [env0] at hr, fun i r hr => by simp [env0] at hr, fun i r hr => by simp [env0] at hr, fun i r hr => by simp [env0] at hr⟩
theorem imm0 {w : World} {b o : Nat} {v : Value} (h : w.cell? ⟨b, o, none⟩ = some v) : Imm (env0 w) b o := by
  refine ⟨?_, fun h => h, fun i r hr => by simp [env0] at hr⟩
  rcases Nat.lt_or_ge b w.heap.size with h' | h'
  · exact h'
  · simp [World.cell?, Array.getElem?_eq_none h'] at h

/-- A law that answers true does, and leaves what was there. -/
theorem law_calls {P : Program} {f : FuncId} {args : List AVal} {vs : List Value} {w : World} (h : EvD P f args (.sc (.bool true))) (hv : VL (env0 w) args vs) :
    Calls P f vs.toArray w fun e w' => e = .returned (.bool true) ∧ Below w.heap.size w w' := by
  refine (h [] (fun _ _ => False) (fun _ => none) w vs (rel0 w) hv).mono ?_
  rintro e w' ⟨v, m', rfl, h1, h2, h3, h4⟩
  have := h2.sc_inv
  subst this
  exact ⟨rfl, h4.os, h4.tape, h4.output, h4.size, fun k hk => (h4.free k hk (fun i r hr => by simp at hr)).1⟩

theorem VL.nil' {E : Env} : VL E [] [] := ⟨rfl, fun i hi => by simp at hi⟩
theorem VL.cons' {E : Env} {x : AVal} {v : Value} {xs : List AVal} {vs : List Value} (h : V E x v) (k : VL E xs vs) : VL E (x :: xs) (v :: vs) :=
  ⟨by simp [k.1], fun i hi => by
    cases i with
    | zero => simpa using h
    | succ i => simpa using k.2 i (by simpa using hi)⟩

section
variable {H : Type} {enc : TypeId × Value → H} {P : Program}
end
end Go.Abs

set_option linter.unusedVariables false
set_option linter.unusedSimpArgs false
namespace Go.Abs
open Go
/-- At most so many rounds. -/
def AWP.rounds (P : Program) (N : Nat) (c : Code) (Q : Exit → St → Prop) : Nat → St → Prop
  | 0 => fun _ => False
  | n + 1 => fun st => AWP P N c (thenQ (AWP.rounds P N c Q n) Q) st
theorem AWP.turn {P : Program} {N : Nat} {c : Code} {Q : Exit → St → Prop} {n : Nat} {st : St} (h : AWP P N c (thenQ (AWP.rounds P N c Q n) Q) st) : AWP.rounds P N c Q (n + 1) st := h
theorem AWP.loopN {P : Program} {N : Nat} {c : Code} {Q : Exit → St → Prop} {st : St} (n : Nat) (h : AWP.rounds P N c Q n st) : AWP P N (.loop c) Q st := by
  refine AWP.loop (fun k s => AWP.rounds P N c Q k s) n h ?_
  intro k s hk
  cases k with
  | zero => exact hk.elim
  | succ k =>
    refine AWP.mono hk ?_
    intro e s' hq
    cases e with
    | normal => exact ⟨k, Nat.lt_succ_self k, hq⟩
    | exit id => exact hq
    | goto l => exact hq
    | ret => exact hq
    | panic ch => exact hq
    | outgrown => exact hq
end Go.Abs
namespace Go.Abs
open Go
theorem wf_i64 {n : Int} (h : (Lit.int .i64 n).wf = true) : -9223372036854775808 ≤ n ∧ n ≤ 9223372036854775807 := by
  simp only [Lit.wf, Bool.and_eq_true, decide_eq_true_eq] at h
  have e1 : IntKind.i64.min = -9223372036854775808 := by decide
  have e2 : IntKind.i64.max = 9223372036854775807 := by decide
  rw [e1, e2] at h; exact h
end Go.Abs
namespace Go.Abs
open Go
end Go.Abs

set_option linter.unusedVariables false
set_option linter.unusedSimpArgs false
namespace Go.Abs
open Go
/-- The rows are one of these. -/
def oneOf (L : List (List Row)) (rows : List Row) : Prop := ∃ k : Nat, L[k]? = some rows
def DerY (P : Program) (F : Oper → Bool) (ops : Array Oper) (L : List (List Row)) (l : List Oper) (st : St) (K : St → Prop) : Prop := ∃ st', DerGL P F ops (oneOf L) l st st' ∧ K st'
def quietL (P : Program) (o : Oper) (ρ : Operand → AVal) (v : AVal) : List (List Row) → List Prop → Prop
  | [], [] => True
  | r :: l, c :: cs => sop P o ρ r = some ⟨c, v, r⟩ ∧ c ∧ quietL P o ρ v l cs
  | _, _ => False
end Go.Abs
namespace Go.Abs
open Go
end Go.Abs
namespace Go.Abs
open Go
end Go.Abs

set_option linter.unusedVariables false
set_option linter.unusedSimpArgs false
namespace Go.Abs
open Go
/-- A new row of data that is only appended to from now on. -/
theorem grow_step {E : Env} (hE : Rel E) {id : Nat} {r : Row} (hr : E.rows[id]? = some r) (hs : r.st = .fresh) (hd : dataAll r.cells = true) :
    let E' : Env := ⟨E.rows.set id { r with st := .grown }, E.m, E.w, E.x⟩
    Rel E' ∧ Evo E.rows.length E E' := by
  intro E'
  have hnf : r.st ≠ .frozen := by simp [hs]
  have hI : ∀ b o v, Imm E b o → E.w.cell? ⟨b, o, none⟩ = some v → Imm E' b o ∧ E'.w.cell? ⟨b, o, none⟩ = some v := by
    intro b o v h hc
    refine ⟨⟨h.1, h.2.1, ?_⟩, hc⟩
    intro i s hs1 hns hm
    rcases get_set_cases hs1 with ⟨a1, a2, _⟩ | ⟨_, h2⟩
    · subst a1; have := h.2.2 i r hr hnf hm; rw [hs] at this; simp at this
    · exact h.2.2 i s h2 hns hm
  have hV1 : ∀ x v, V E x v → x.data = true → V E' x v := fun x v h hdx =>
    V.mono (N := 0) hI (fun id r h _ => absurd h (by omega)) h (AVal.lt_of_data 0 x hdx)
  have hV : ∀ x v, V E x v → V E' x v := fun x v h => by
    refine V.mono (N := E.rows.length) hI (fun i s _ hs1 => ?_) h h.refLt
    by_cases hi : i = id
    · subst hi
      rw [hr] at hs1; cases hs1
      refine ⟨_, get_set_same hr, ?_⟩
      refine .left hs (.inl rfl) rfl (Nat.le_refl _) ?_ (fun _ _ => ⟨rfl, fun _ _ _ h => h⟩)
      intro b hb j hj
      obtain ⟨c, e, hbk, hbl, hbv⟩ := hE.block hr (.inl hs) hb
      have hdj := (dataAll_iff _).1 hd j hj
      refine ⟨⟨lt_of_heap hbk, hE.xr i r b hr hnf hb j, ?_⟩, hdj, _, cell_getD hbk (by omega), hV1 _ _ (hbv j hj) hdj⟩
      intro i' s' hs' hns hmi
      rcases get_set_cases hs' with ⟨a1, a2, _⟩ | ⟨a1, a2⟩
      · subst a2; exact ⟨rfl, hj⟩
      · exact absurd (hE.inj i' i s' r b a2 hr hns hnf hmi hb) a1
    · exact ⟨s, by rw [get_set_other hi]; exact hs1, RowEvo.keep rfl (fun _ _ _ _ h => h)⟩
  refine ⟨⟨hE.xlt, ?_, ?_, ?_, ?_, ?_⟩, ⟨fun x v h _ => hV x v h, Nat.le_refl _, ?_, rfl, rfl, rfl, hI⟩⟩
  · intro i s b h1 hns hmi o hx
    rcases get_set_cases h1 with ⟨a1, a2, _⟩ | ⟨_, a2⟩
    · subst a1; exact hE.xr i r b hr hnf hmi o hx
    · exact hE.xr i s b a2 hns hmi o hx
  · intro i j s t b h1 h2 hn1 hn2 hi hj
    rcases get_set_cases h1 with ⟨a1, a2, _⟩ | ⟨_, a2⟩
    · subst a1
      rcases get_set_cases h2 with ⟨d1, d2, _⟩ | ⟨_, d2⟩
      · exact d1.symm
      · exact hE.inj i j r t b hr d2 hnf hn2 hi hj
    · rcases get_set_cases h2 with ⟨d1, d2, _⟩ | ⟨_, d2⟩
      · subst d1; exact hE.inj i j s r b a2 hr hn1 hnf hi hj
      · exact hE.inj i j s t b a2 d2 hn1 hn2 hi hj
  · intro i s h1 hns hnm
    rcases get_set_cases h1 with ⟨a1, a2, _⟩ | ⟨_, a2⟩
    · subst a1; subst a2
      rcases hE.own i r hr hnf (by simp [hs]) with h | ⟨b, c', e', g1, g2, g3, g4⟩
      · exact .inl h
      · exact .inr ⟨b, c', e', g1, g2, g3, fun j hj => hV _ _ (g4 j hj)⟩
    · rcases hE.own i s a2 hns hnm with h | ⟨b, c', e', h1, h2, h3, h4⟩
      · exact .inl h
      · exact .inr ⟨b, c', e', h1, h2, h3, fun j hj => hV _ _ (h4 j hj)⟩
  · intro i s h1 hg
    rcases get_set_cases h1 with ⟨_, a2, _⟩ | ⟨_, a2⟩
    · subst a2; exact hd
    · exact hE.grown i s a2 hg
  · intro i s h1 hg
    rcases get_set_cases h1 with ⟨_, a2, _⟩ | ⟨_, a2⟩
    · subst a2; simp at hg
    · obtain ⟨b, es, k, h1, h2, h3, h4⟩ := hE.map i s a2 hg
      exact ⟨b, es, k, h1, h2, h3, fun j hj => ⟨hV _ _ (h4 j hj).1, hV _ _ (h4 j hj).2⟩⟩
  · intro b hb hfree
    refine ⟨rfl, fun i s h1 hns hmi => ?_⟩
    rcases get_set_cases h1 with ⟨a1, a2, _⟩ | ⟨_, a2⟩
    · subst a1; exact hfree i r hr hnf hmi
    · exact hfree i s a2 hns hmi
theorem AWP.grow {P : Program} {N : Nat} {c : Code} {Q : Exit → St → Prop} {st : St} (id : Nat) (r : Row) (st' : St) (h : st.rows[id]? = some r ∧ (⟨st.regs, st.rows.set id { r with st := .grown }⟩ : St) = st') (hs : r.st = .fresh) (hd : dataAll r.cells = true)
    (k : AWP P N c Q st') : AWP P N c Q st := by
  obtain ⟨h1, rfl⟩ := h
  refine AWP.weaken ?_ k
  intro hN
  refine ⟨by simpa using hN, fun ds X m w a ha => ?_⟩
  obtain ⟨a1, a2⟩ := grow_step (E := ⟨st.rows, m, w, X⟩) ha.rel h1 hs hd
  exact ⟨m, ⟨a1, ha.len, fun i hi => a2.val _ _ (ha.regs i hi) (ha.regs i hi).refLt, ha.defers⟩, a2.mono hN⟩
end Go.Abs

set_option linter.unusedVariables false
namespace Go.Abs
open Go
def noGotoQ (Q : Exit → St → Prop) : Exit → St → Prop
  | .goto _, _ => False
  | e, st => Q e st
section
variable {P : Program} {F : Fence} {n : Nat} {b : Frame} {a : Act} {k : List Item} {cs : List Frame} {w : World} {Q : Exit → Act → World → Prop}
theorem stepR_scope {c : Code} : step P (lone (b.atR a (.code (.scope c) :: k)) cs w) = .next (lone (b.atR a (.code c :: .inScope c :: k)) cs w) :=
  step_lone_go (by simp [stepG, stepG.exec, Frame.atR])
theorem stepR_inScope {c : Code} : step P (lone (b.atR a (.inScope c :: k)) cs w) = .next (lone (b.atR a k) cs w) :=
  step_lone_go (by simp [stepG, stepG.exec, Frame.atR])
theorem wpIn_scope_straight {c : Code} (h : c.wpIn F n P (Exit.noGoto Q) a w) : (Code.scope c).wpIn F n P Q a w := by
  intro b k cs hro hb hr
  have h0 : (lone (b.atR a (.code (.scope c) :: k)) cs w).fenced P F := fenced_calm hb hr rfl
  obtain ⟨e, a₁, w₁, hq, harr⟩ := h b (.inScope c :: k) cs hro hb hr
  cases e with
  | normal => exact ⟨.normal, a₁, w₁, hq, .head h0 stepR_scope (StepsIn.trans harr (.one (fenced_calm hb hr rfl) stepR_inScope))⟩
  | exit id =>
    have hx : exitTo id (.inScope c :: k) = exitTo id k := by simp [exitTo]
    exact ⟨.exit id, a₁, w₁, hq, fun k' hk => .head h0 stepR_scope (harr.1 k' (by rw [hx]; exact hk)),
      fun hr' hk => let ⟨k₁, h1, h2⟩ := harr.2 hr' (by rw [hx]; exact hk); ⟨k₁, h1, .head h0 stepR_scope h2⟩⟩
  | goto l => exact hq.elim
  | ret => exact ⟨_, a₁, w₁, hq, .of_steps (.one h0 stepR_scope) harr⟩
  | panic ch => exact ⟨_, a₁, w₁, hq, .of_steps (.one h0 stepR_scope) harr⟩
  | outgrown => exact ⟨_, a₁, w₁, hq, .of_steps (.one h0 stepR_scope) harr⟩
end
end Go.Abs

set_option linter.unusedVariables false
namespace Go.Abs
open Go
/-- A text's bytes as numbers. -/
def strB (s : ByteArray) : List Int := s.data.toList.map fun b => (b.toNat : Int)
@[simp] theorem strB_length (s : ByteArray) : (strB s).length = s.size := by simp [strB]
end Go.Abs

set_option linter.unusedVariables false
namespace Go.Abs
open Go
end Go.Abs

set_option linter.unusedVariables false
namespace Go.Abs
open Go
end Go.Abs
namespace Go.Abs
open Go
end Go.Abs
namespace Go.Abs
open Go
end Go.Abs
namespace Go.Abs
open Go
end Go.Abs

set_option linter.unusedVariables false
set_option linter.unusedSimpArgs false
namespace Go.Abs
open Go Go.ChangeShapes Go.WideShapes Go.RowKit

/-- Cells that a type's value has, as they are handed in. -/
inductive HasT (P : Program) : TypeId → List AVal → Prop
  | bool (t : TypeId) (b : Bool) (h : P.underlying t = some .bool) : HasT P t [.sc (.bool b)]
  | int (t : TypeId) (k : IntKind) (n : Int) (h : P.underlying t = some (.int k)) (hw : (Lit.int k n).wf = true) : HasT P t [.sc (.int k n)]
  | string (t : TypeId) (s : ByteArray) (h : P.underlying t = some .string) : HasT P t [.sc (.string s)]
  | slice (t e : TypeId) (cs : List AVal) (n : Nat) (h : P.underlying t = some (.slice e)) (hl : cs.length = n * P.cellsOf e) (hb : n * P.bytesOf e ≤ reachBytes)
      (hi : ∀ i, i < n → HasT P e ((cs.drop (i * P.cellsOf e)).take (P.cellsOf e))) : HasT P t [.sl cs n .any]
  | struct (t : TypeId) (fs : Array Field) (cs : List AVal) (h : P.underlying t = some (.struct fs)) (hl : cs.length = P.cellsOf t)
      (hi : ∀ (i : Nat) (f : Field), fs[i]? = some f → HasT P f.type ((cs.drop f.offset).take (P.cellsOf f.type))) : HasT P t cs
  | array (t e : TypeId) (n : Nat) (cs : List AVal) (h : P.underlying t = some (.array n e)) (hl : cs.length = n * P.cellsOf e)
      (hi : ∀ i, i < n → HasT P e ((cs.drop (i * P.cellsOf e)).take (P.cellsOf e))) : HasT P t cs

/-- Types of plain data: no pointers, maps and so on. -/
def plainT (P : Program) (ok : TypeId → Bool) (t : TypeId) : Bool := match P.underlying t with
  | some .bool => true
  | some (.int _) => true
  | some .string => true
  | some (.slice e) => ok e && decide (0 < P.cellsOf e)
  | some (.struct fs) => fs.toList.all fun f => ok f.type
  | some (.array _ e) => ok e
  | _ => false

theorem VL.append {E : Env} {xs ys : List AVal} {vs us : List Value} (h : VL E xs vs) (k : VL E ys us) : VL E (xs ++ ys) (vs ++ us) := by
  refine ⟨by simp [h.1, k.1], fun i hi => ?_⟩
  by_cases hx : i < xs.length
  · have := h.2 i hx
    rw [List.getD_eq_getElem?_getD, List.getD_eq_getElem?_getD, List.getElem?_append_left hx, List.getElem?_append_left (by have := h.1; omega), ← List.getD_eq_getElem?_getD, ← List.getD_eq_getElem?_getD]
    exact this
  · have := k.2 (i - xs.length) (by simp at hi; omega)
    have hl := h.1
    rw [List.getD_eq_getElem?_getD, List.getD_eq_getElem?_getD, List.getElem?_append_right (by omega), List.getElem?_append_right (by omega), ← List.getD_eq_getElem?_getD, ← List.getD_eq_getElem?_getD, ← hl]
    exact this

/-- Cells with their values, all of them data. -/
def VLd (E : Env) (xs : List AVal) (vs : List Value) : Prop := VL E xs vs ∧ dataAll xs = true
theorem VLd.append {E : Env} {xs ys : List AVal} {vs us : List Value} (h : VLd E xs vs) (k : VLd E ys us) : VLd E (xs ++ ys) (vs ++ us) :=
  ⟨h.1.append k.1, by rw [dataAll_append, h.2, k.2]; rfl⟩
theorem VLd.one {E : Env} {x : AVal} {v : Value} (h : V E x v) (hd : x.data = true) : VLd E [x] [v] := ⟨VL.cons' h VL.nil', by simp [dataAll, hd]⟩

theorem assemble {E : Env} : ∀ (ns : List Nat) (cs : List Value) (Q : Nat → List AVal → Prop), cs.length = ns.sum →
    (∀ j, j < ns.length → ∃ xs, Q j xs ∧ VLd E xs ((cs.drop ((ns.take j).sum)).take (ns.getD j 0))) →
    ∃ xs, VLd E xs cs ∧ ∀ j, j < ns.length → Q j ((xs.drop ((ns.take j).sum)).take (ns.getD j 0)) := by
  intro ns
  induction ns with
  | nil =>
    intro cs Q hl _
    have : cs = [] := by simpa using hl
    subst this
    exact ⟨[], ⟨⟨rfl, fun i hi => by simp at hi⟩, rfl⟩, fun j hj => by simp at hj⟩
  | cons n ns ih =>
    intro cs Q hl h
    obtain ⟨x0, q0, v0⟩ := h 0 (by simp)
    simp only [List.take_zero, List.sum_nil, List.drop_zero, List.getD_cons_zero] at v0
    have hlc : n ≤ cs.length := by rw [hl, List.sum_cons]; omega
    have hx0 : x0.length = n := by rw [v0.1.1, List.length_take]; omega
    obtain ⟨xs, v1, q1⟩ := ih (cs.drop n) (fun j => Q (j + 1)) (by rw [List.length_drop, hl, List.sum_cons]; omega) (fun j hj => by
      obtain ⟨x, q, v⟩ := h (j + 1) (by simp; omega)
      refine ⟨x, q, ?_⟩
      rw [List.take_succ_cons, List.sum_cons, List.getD_cons_succ] at v
      rw [List.drop_drop]
      exact v)
    refine ⟨x0 ++ xs, ?_, fun j hj => ?_⟩
    · have := VLd.append v0 v1
      rwa [List.take_append_drop] at this
    · cases j with
      | zero =>
        simp only [List.take_zero, List.sum_nil, List.drop_zero, List.getD_cons_zero]
        rw [List.take_left' hx0]; exact q0
      | succ j =>
        rw [List.take_succ_cons, List.sum_cons, List.getD_cons_succ, ← hx0, ← List.drop_drop, List.drop_left]
        exact q1 j (by simpa using hj)
/-- Items of one size. -/
theorem assembleN {E : Env} (n c : Nat) (cs : List Value) (Q : List AVal → Prop) (hl : cs.length = n * c)
    (h : ∀ j, j < n → ∃ xs, Q xs ∧ VLd E xs ((cs.drop (j * c)).take c)) : ∃ xs, VLd E xs cs ∧ ∀ j, j < n → Q ((xs.drop (j * c)).take c) := by
  have e1 : ∀ j, j ≤ n → ((List.replicate n c).take j).sum = j * c := by
    intro j hj
    rw [List.take_replicate, List.sum_replicate_nat, Nat.min_eq_left hj]
  have e2 : ∀ j, j < n → (List.replicate n c).getD j 0 = c := by
    intro j hj
    simp [List.getD_eq_getElem?_getD, hj]
  obtain ⟨xs, h1, h2⟩ := assemble (E := E) (List.replicate n c) cs (fun _ => Q) (by rw [hl, List.sum_replicate_nat]) (fun j hj => by
    rw [List.length_replicate] at hj
    rw [e1 j (by omega), e2 j hj]; exact h j hj)
  refine ⟨xs, h1, fun j hj => ?_⟩
  have := h2 j (by rw [List.length_replicate]; exact hj)
  rwa [e1 j (by omega), e2 j hj] at this

section
variable {H : Type} {enc : TypeId × Value → H} {P : Program} {w : World} {base : Nat} {held : Bool}

theorem weightsAll_mem {P : Program} {e : TypeId} : ∀ {l : List (DataW H)} {d : DataW H} {n : Nat}, d ∈ l → n ∈ d.weights P e → n ∈ DataW.weightsAll P e l
  | a :: l, d, n, hd, hn => by
    rw [DataW.weightsAll, List.mem_append]
    rcases List.mem_cons.1 hd with rfl | hd
    · exact .inl hn
    · exact .inr (weightsAll_mem hd hn)
theorem weightsEach_mem {P : Program} : ∀ {ts : List TypeId} {l : List (DataW H)} {j n : Nat} {t : TypeId} {d : DataW H}, ts[j]? = some t → l[j]? = some d → n ∈ d.weights P t → n ∈ DataW.weightsEach P ts l
  | t0 :: ts, a :: l, 0, n, t, d, ht, hd, hn => by
    simp at ht hd; subst ht; subst hd
    rw [DataW.weightsEach, List.mem_append]; exact .inl hn
  | t0 :: ts, a :: l, j + 1, n, t, d, ht, hd, hn => by
    rw [DataW.weightsEach, List.mem_append]
    exact .inr (weightsEach_mem (j := j) (by simpa using ht) (by simpa using hd) hn)
  | [], _, _, _, _, _, ht, _, _ => by simp at ht
  | _ :: _, [], _, _, _, _, _, hd, _ => by simp at hd
theorem addr_add0 (a : Addr) : a.add 0 = a := by simp [Addr.add]
theorem mapM_range' {α : Type} {f : Nat → Option α} {n : Nat} {zs : List α} (h : (List.range n).mapM f = some zs) : ∀ j, j < n → ∃ y, y ∈ zs ∧ f j = some y := by
  intro j hj
  have key : ∀ (l : List Nat) (zs : List α), l.mapM f = some zs → ∀ x ∈ l, ∃ y, y ∈ zs ∧ f x = some y := by
    intro l
    induction l with
    | nil => intro zs _ x hx; simp at hx
    | cons a l ih =>
      intro zs h x hx
      rw [List.mapM_cons] at h
      simp only [bind, Option.bind_eq_some_iff, pure, Option.some.injEq] at h
      obtain ⟨y, h1, ys, h2, rfl⟩ := h
      rcases List.mem_cons.1 hx with rfl | hx
      · exact ⟨y, by simp, h1⟩
      · obtain ⟨z, k1, k2⟩ := ih ys h2 x hx
        exact ⟨z, by simp [k1], k2⟩
  exact key _ _ h j (List.mem_range.2 hj)
theorem trod_has (hlaid : laidOutB P = true) {ok : TypeId → Bool} (hok : ∀ t, ok t = true → isVar P t = true ∧ plainT P ok t = true) :
    ∀ (fuel : Nat) (t : TypeId) (cs : List Value) (x : DataW H × List MemPlace), ok t = true → DataW.trod enc P w base (fun _ => true) held fuel t cs = some x → (∀ n ∈ x.1.weights P t, n ≤ reachBytes) →
      ∃ xs : List AVal, HasT P t xs ∧ VLd (env0 w) xs cs := by
  intro fuel
  induction fuel with
  | zero => intro t cs x _ h; simp [DataW.trod] at h
  | succ n ih =>
    intro t cs x hot h hwt
    obtain ⟨hv, hp⟩ := hok t hot
    have hrow := rowFine_of hlaid (t := t) (by simp [isVar] at hv; exact hv.1)
    unfold plainT at hp
    cases ht : P.underlying t with
    | none => simp [ht] at hp
    | some d =>
      cases d with
      | bool =>
        obtain ⟨b, rfl, _⟩ := DataW.trod_bool ht h
        exact ⟨[.sc (.bool b)], .bool t b ht, VLd.one (.sc _ rfl) rfl⟩
      | int k =>
        obtain ⟨m, rfl, _, hw⟩ := DataW.trod_int ht h
        exact ⟨[.sc (.int k m)], .int t k m ht hw, VLd.one (.sc _ rfl) rfl⟩
      | string =>
        obtain ⟨s, rfl, _, _⟩ := DataW.trod_string ht h
        exact ⟨[.sc (.string s)], .string t s ht, VLd.one (.sc _ rfl) rfl⟩
      | struct fs =>
        simp only [ht] at hp
        obtain ⟨xs, m, hm, hxe, hlen, hxl, hall⟩ := DataW.trod_struct ht h
        have hm' : m = n := by omega
        subst hm'
        have hfine : rowFine P t = true := hrow
        simp only [rowFine, hv, ht, Bool.not_true, Bool.false_or, Bool.and_eq_true, beq_iff_eq] at hfine
        obtain ⟨⟨hf1, hf2⟩, hf3⟩ := hfine
        have hoff : ∀ (j : Nat) (f : Field), fs[j]? = some f → f.offset = (((fs.toList.map fun f => P.cellsOf f.type).take j).sum) := by
          intro j f hj
          have hj' : fs.toList[j]? = some f := by simpa using hj
          have hlt : j < fs.toList.length := (List.getElem?_eq_some_iff.1 hj').1
          have := List.all_eq_true.1 hf3 j (List.mem_range.2 hlt)
          rw [hj'] at this
          rw [← List.map_take]
          simpa using this
        obtain ⟨ys, hvl, hq⟩ := assemble (E := env0 w) (fs.toList.map fun f => P.cellsOf f.type) cs (fun j xs => ∀ f, fs[j]? = some f → HasT P f.type xs) (by rw [hlen, hf2]) (fun j hj => by
          rw [List.length_map] at hj
          have hj' : j < fs.size := by simpa using hj
          have hfj : fs[j]? = some fs[j] := by simp [hj']
          have h1 := hall j fs[j] hfj
          have h2 : xs[j]? = some xs[j] := by simp [hxl, hj']
          rw [h2, hoff j _ hfj] at h1
          have hgd : (fs.toList.map fun f => P.cellsOf f.type).getD j 0 = P.cellsOf fs[j].type := by simp [hj']
          obtain ⟨zs, k1, k2⟩ := ih _ _ _ (by
            have := List.all_eq_true.1 hp fs[j] (by simp)
            exact this) h1 (fun n hn => hwt n (by
              rw [hxe, DataW.weights, ht]
              exact weightsEach_mem (j := j) (t := fs[j].type) (d := (xs[j]'(by omega)).1) (by simp [hj']) (by simp [hxl, hj']) hn))
          refine ⟨zs, fun f hf => ?_, ?_⟩
          · rw [hfj] at hf; cases hf; exact k1
          · rw [hgd]; exact k2)
        refine ⟨ys, .struct t fs ys ht (by rw [hvl.1.1, hlen]) fun j f hj => ?_, hvl⟩
        have hlt : j < fs.size := (Array.getElem?_eq_some_iff.1 hj).1
        have := hq j (by simpa using hlt) f hj
        rw [hoff j f hj]
        have hgd : (fs.toList.map fun f => P.cellsOf f.type).getD j 0 = P.cellsOf f.type := by
          have : fs[j] = f := by simpa [hlt] using hj
          simp [hlt, this]
        rwa [hgd] at this
      | array m e =>
        simp only [ht] at hp
        have hfine : rowFine P t = true := hrow
        simp only [rowFine, hv, ht, Bool.not_true, Bool.false_or, Bool.and_eq_true, beq_iff_eq] at hfine
        unfold DataW.trod at h
        rw [ht] at h
        simp only at h
        split at h
        · rename_i hlen
          obtain ⟨zs, hz, hze⟩ := map_some' h
          have hz2 := mapM_range' hz
          obtain ⟨ys, hvl, hq⟩ := assembleN (E := env0 w) m (P.cellsOf e) cs (HasT P e) (by rw [hlen, hfine.2]) (fun j hj => by
            obtain ⟨y, hym, hy⟩ := hz2 j hj
            exact ih _ _ _ hp hy (fun n hn => hwt n (by
              rw [← hze, DataW.weights, ht]
              exact weightsAll_mem (List.mem_map_of_mem hym) hn)))
          exact ⟨ys, .array t e m ys ht (by rw [hvl.1.1, hlen, hfine.2]) hq, hvl⟩
        · simp at h
      | slice e =>
        simp only [ht] at hp
        rcases DataW.trod_slice ht h with ⟨rfl, _⟩ | ⟨a, len, cap, elems, rest, m, hm, rfl, hxe, hb, hlc, _, hel, hall, hspare, _⟩
        · exact ⟨[.sl [] 0 .any], .slice t e [] 0 ht (by simp) (by simp) (fun i hi => by omega), VLd.one (.slnil _ (by simp)) rfl⟩
        · have hm' : m = n := by omega
          subst hm'
          simp only [Bool.and_eq_true, decide_eq_true_eq] at hp
          obtain ⟨hp, hcp⟩ := hp
          by_cases hs0 : a.spot = none
          rotate_left
          · have hz : cap = 0 := by
              rcases Nat.eq_zero_or_pos cap with h0 | h0
              · exact h0
              exfalso
              have hnone : w.cells? base (a.add (0 * P.cellsOf e)) (P.cellsOf e) = none := by
                cases h3 : w.cells? base (a.add (0 * P.cellsOf e)) (P.cellsOf e) with
                | none => rfl
                | some csi =>
                  obtain ⟨_, g2, g3⟩ := World.cells?_some h3
                  have g4 := g3 0 hcp
                  rw [Nat.zero_mul, addr_add0, addr_add0, List.getElem?_eq_getElem (by omega)] at g4
                  obtain ⟨b, o, sp⟩ := a
                  cases sp with
                  | none => exact absurd rfl hs0
                  | some sp =>
                    simp only [World.cell?] at g4
                    split at g4 <;> simp at g4
              by_cases hl0 : 0 < len
              · have h1 := hall 0 hl0
                rw [hnone] at h1
                have h2 : elems[0]? = some (elems[0]'(by omega)) := by simp [show 0 < elems.length by omega]
                rw [h2] at h1
                simp at h1
              · have hl00 : len = 0 := by omega
                obtain ⟨k1, k2⟩ := hspare rfl
                have h1 := k2 0 (by omega)
                rw [hl00] at h1
                simp only [Nat.add_zero] at h1
                rw [hnone] at h1
                have h2 : rest[0]? = some (rest[0]'(by omega)) := by simp [show 0 < rest.length by omega]
                rw [h2] at h1
                simp at h1
            subst hz
            have : len = 0 := by omega
            subst this
            exact ⟨[.sl [] 0 .any], .slice t e [] 0 ht (by simp) (by simp) (fun i hi => by omega), VLd.one (.slz _ (by simp) a) rfl⟩
          obtain ⟨b, o, sp⟩ := a
          simp at hs0
          subst hs0
          have hc : ∀ i, i < len → ∃ csi y, w.cells? base ((⟨b, o, none⟩ : Addr).add (i * P.cellsOf e)) (P.cellsOf e) = some csi ∧ DataW.trod enc P w base (fun _ => true) held m e csi = some y ∧ y ∈ elems := by
            intro i hi
            have h1 := hall i hi
            have h2 : elems[i]? = some (elems[i]'(by omega)) := by simp [show i < elems.length by omega]
            rw [h2] at h1
            cases h3 : w.cells? base ((⟨b, o, none⟩ : Addr).add (i * P.cellsOf e)) (P.cellsOf e) with
            | none => simp [h3] at h1
            | some csi => rw [h3] at h1; exact ⟨csi, _, rfl, h1, List.getElem_mem _⟩
          let big : List Value := (List.range (len * P.cellsOf e)).map fun k => (w.cell? ⟨b, o + k, none⟩).getD Go.undef
          have hbl : big.length = len * P.cellsOf e := by simp [big]
          have hseg : ∀ i csi, i < len → w.cells? base ((⟨b, o, none⟩ : Addr).add (i * P.cellsOf e)) (P.cellsOf e) = some csi → (big.drop (i * P.cellsOf e)).take (P.cellsOf e) = csi ∧ ∀ k, k < P.cellsOf e → (w.cell? ⟨b, o + (i * P.cellsOf e + k), none⟩).isSome = true := by
            intro i csi hi hcs
            obtain ⟨_, g2, g3⟩ := World.cells?_some hcs
            have g4 : ∀ k, k < P.cellsOf e → w.cell? ⟨b, o + (i * P.cellsOf e + k), none⟩ = csi[k]? := by
              intro k hk
              have := g3 k hk
              rw [addr_add, addr_add] at this
              rwa [← Nat.add_assoc]
            have hle : i * P.cellsOf e + P.cellsOf e ≤ len * P.cellsOf e := by
              have := Nat.mul_le_mul_right (P.cellsOf e) (show i + 1 ≤ len by omega)
              rwa [Nat.add_mul, Nat.one_mul] at this
            refine ⟨?_, fun k hk => by rw [g4 k hk]; simp [g2, hk]⟩
            apply List.ext_getElem
            · rw [List.length_take, List.length_drop, hbl, g2]; omega
            · intro k hk1 hk2
              rw [g2] at hk2
              have := g4 k hk2
              simp [big, this, show k < csi.length by omega]
          obtain ⟨ys, hvl, hq⟩ := assembleN (E := env0 w) len (P.cellsOf e) big (HasT P e) hbl (fun j hj => by
            obtain ⟨csi, y, h1, h2, hym⟩ := hc j hj
            rw [(hseg j csi hj h1).1]
            exact ih _ _ _ hp h2 (fun n hn => hwt n (by
              rw [hxe, DataW.weights, ht]
              exact List.mem_cons_of_mem _ (List.mem_append_left _ (weightsAll_mem (List.mem_map_of_mem hym) hn)))))
          have hcell : ∀ k, k < len * P.cellsOf e → w.cell? ⟨b, o + k, none⟩ = some (big.getD k Go.undef) := by
            intro k hk
            have hi : k / P.cellsOf e < len := (Nat.div_lt_iff_lt_mul hcp).2 hk
            obtain ⟨csi, y, h1, h2, _⟩ := hc _ hi
            have h3 := (hseg _ csi hi h1).2 (k % P.cellsOf e) (Nat.mod_lt _ hcp)
            have h4 : k / P.cellsOf e * P.cellsOf e + k % P.cellsOf e = k := by rw [Nat.mul_comm]; exact Nat.div_add_mod _ _
            rw [h4] at h3
            obtain ⟨v, hv'⟩ := Option.isSome_iff_exists.1 h3
            rw [hv']
            simp [big, hk, hv']
          have hbw : len * P.bytesOf e ≤ reachBytes := by
            have := hwt (((elems.map (·.1)).length + (rest.map (·.1)).length) * P.bytesOf e) (by
              rw [hxe, DataW.weights, ht]; exact List.mem_cons_self)
            rw [List.length_map, hel] at this
            exact Nat.le_trans (Nat.mul_le_mul_right _ (Nat.le_add_right _ _)) this
          refine ⟨[.sl ys len .any], .slice t e ys len ht (by rw [hvl.1.1, hbl]) hbw hq, VLd.one ?_ rfl⟩
          refine .sl ys len .any b o cap (fun i => big.getD i Go.undef) (.inl rfl) hlc hvl.2 (fun i hi => hvl.1.2 i hi) (fun i hi => ?_)
          rw [hvl.1.1, hbl] at hi
          have := hcell i hi
          exact ⟨this, imm0 this⟩
      | _ => simp [ht] at hp
end
end Go.Abs

set_option linter.unusedSimpArgs false
set_option linter.unusedVariables false
namespace Go.Abs
open Go
/-! ### Texts, and thirteen numbers -/
theorem bytes_id (l : List UInt8) : List.map byteOf1 (u8s (l.map fun b => (b.toNat : Int))) = l := by
  induction l with
  | nil => rfl
  | cons b l ih =>
    have h : byteOf1 (.sc (.int .u8 (b.toNat : Int))) = b := by simp [byteOf1]
    simp only [u8s, List.map_cons] at ih ⊢
    rw [h, ih]
theorem strOf_strB (s : ByteArray) : strOf (u8s (strB s)) = s := by
  apply ByteArray.ext
  apply Array.ext'
  unfold strOf
  exact bytes_id s.data.toList
theorem ba_toList (s : ByteArray) : ByteArray.toList s = s.data.toList := by
  have h := strOf_toList (u8s (strB s))
  rw [strOf_strB] at h
  rw [h]; exact bytes_id s.data.toList
theorem nil_beq (s : ByteArray) : (ByteArray.toList s == ByteArray.toList { data := #[] }) = decide (s.size = 0) := by
  rw [ba_toList, ba_toList, Bool.eq_iff_iff]
  cases h : s.data.toList with
  | nil => simp [ByteArray.size, ← Array.length_toList, h]
  | cons a l => simp [ByteArray.size, ← Array.length_toList, h]
theorem str_beq (a b : ByteArray) : (ByteArray.toList a == ByteArray.toList b) = decide (a = b) := by
  rw [ba_toList, ba_toList, Bool.eq_iff_iff, beq_iff_eq, decide_eq_true_iff]
  constructor
  · intro h; exact ByteArray.ext (Array.ext' h)
  · intro h; rw [h]

/-- What is behind a gate is not looked at. -/
inductive Gate | on | off
def hide {α : Type} : Gate → α → α
  | .on, x => x
  | .off, x => x
theorem hide_eq {α : Type} (g : Gate) (x : α) : hide g x = x := by cases g <;> rfl
/-- Thirteen numbers, by their places. -/
def vecc (g : Gate) (v : Nat → Int) : List AVal := hide g ((List.range 13).map fun i => .sc (.int .i64 (v i)))
@[simp] theorem vecc_length (g : Gate) (v : Nat → Int) : (vecc g v).length = 13 := by simp [vecc, hide_eq]
theorem vecc_get (g : Gate) (v : Nat → Int) (i : Nat) (h : i < 13) : List.getD (vecc g v) i .undef = .sc (.int .i64 (v i)) := by
  simp [vecc, hide_eq, List.getD_eq_getElem?_getD, h]
@[simp] theorem vecc_data (g : Gate) (v : Nat → Int) : dataAll (vecc g v) = true := by
  rw [dataAll_iff]
  intro i hi
  rw [vecc_length] at hi
  rw [vecc_get g v i hi]; rfl
def updV (v : Nat → Int) (p : Nat) (x : Int) : Nat → Int := fun i => if i = p then x else v i
end Go.Abs

set_option linter.unusedSimpArgs false
set_option linter.unusedVariables false
namespace Go.Abs
open Go
/-- Operations that change no rows, all at once. -/
def runQ (P : Program) (ops : Array Oper) (rows : List Row) : List Oper → List AVal → Option (Prop × List AVal × List (AVal × List Row))
  | [], regs => some (True, regs, [])
  | o :: l, regs => match wantA ops o regs with
    | some true => match sop P o (ev regs) rows with
      | some q => match runQ P ops rows l (St.put ⟨regs, rows⟩ o.dst q.v rows).regs with
        | some (c, r, L) => some (q.ok ∧ c, r, (q.v, q.rows) :: L)
        | none => none
      | none => none
    | some false => runQ P ops rows l (St.put ⟨regs, rows⟩ o.dst (.tup []) rows).regs
    | none => none
theorem put_regs (st : St) (d : Option Nat) (v : AVal) (rows rows' : List Row) : (St.put ⟨st.regs, rows⟩ d v rows').regs = (st.put d v st.rows).regs := by
  unfold St.put; split <;> rfl
theorem put_rows (st : St) (d : Option Nat) (v : AVal) (rows : List Row) : (st.put d v rows).rows = rows := by
  unfold St.put; split <;> rfl
theorem DerX.preAux {F : Oper → Bool} {P : Program} {ops : Array Oper} {R : List Row} {K : St → Prop} {l2 : List Oper} : ∀ (l1 : List Oper) (st : St) (vals regs' : List AVal),
    (∀ ext, ∃ c : Prop, c ∧ runQ P ops (R ++ ext) l1 st.regs = some (c, regs', vals.map fun v => (v, R ++ ext))) → DerX P F ops R l2 ⟨regs', st.rows⟩ K → DerX P F ops R (l1 ++ l2) st K
  | [], st, vals, regs', h, hk => by
    obtain ⟨c, _, h1⟩ := h []
    simp only [runQ, Option.some.injEq, Prod.mk.injEq] at h1
    obtain ⟨_, h2, _⟩ := h1
    subst h2
    exact hk
  | o :: l, st, vals, regs', h, hk => by
    cases hw : wantA ops o st.regs with
    | none =>
      obtain ⟨c, _, h1⟩ := h []
      simp [runQ, hw] at h1
    | some b =>
      cases b with
      | false =>
        refine DerX.skip _ ⟨hw, rfl⟩ ?_
        refine DerX.preAux l _ vals regs' (fun ext => ?_) ?_
        · obtain ⟨c, hc, h1⟩ := h ext
          simp only [runQ, hw] at h1
          rw [put_regs] at h1
          exact ⟨c, hc, h1⟩
        · rw [put_rows]; exact hk
      | true =>
        have step : ∀ ext, ∃ q c, sop P o (ev st.regs) (R ++ ext) = some q ∧ q.ok ∧ c ∧ ∃ L, (q.v, q.rows) :: L = vals.map (fun v => (v, R ++ ext)) ∧ runQ P ops (R ++ ext) l (st.put o.dst q.v st.rows).regs = some (c, regs', L) := by
          intro ext
          obtain ⟨c, hc, h1⟩ := h ext
          simp only [runQ, hw] at h1
          split at h1
          · rename_i q hq
            split at h1
            · rename_i c2 r L h2
              simp only [Option.some.injEq, Prod.mk.injEq] at h1
              obtain ⟨rfl, rfl, h3⟩ := h1
              rw [put_regs] at h2
              exact ⟨q, c2, hq, hc.1, hc.2, L, h3, h2⟩
            · simp at h1
          · simp at h1
        cases vals with
        | nil =>
          obtain ⟨q, c, _, _, _, L, h3, _⟩ := step []
          simp at h3
        | cons v vals =>
          have hk2 : DerX P F ops R (l ++ l2) (st.put o.dst v st.rows) K := by
            refine DerX.preAux l _ vals regs' (fun ext => ?_) (by rw [put_rows]; exact hk)
            obtain ⟨q, c, _, _, hc, L, h3, h4⟩ := step ext
            simp only [List.map_cons, List.cons.injEq, Prod.mk.injEq] at h3
            obtain ⟨⟨rfl, _⟩, rfl⟩ := h3
            exact ⟨c, hc, h4⟩
          obtain ⟨st', k1, k2⟩ := hk2
          refine ⟨st', .quiet o _ _ _ v hw (fun rows ⟨ext, he⟩ => ?_) k1, k2⟩
          subst he
          obtain ⟨q, c, hq, hok, _, L, h3, _⟩ := step ext
          simp only [List.map_cons, List.cons.injEq, Prod.mk.injEq] at h3
          obtain ⟨⟨rfl, hr⟩, _⟩ := h3
          have := sop_spec hq hok
          rwa [hr] at this
/-- The first n operations that change no rows. -/
theorem DerX.pre {F : Oper → Bool} {P : Program} {ops : Array Oper} {R : List Row} {l : List Oper} {st : St} {K : St → Prop} (n : Nat) (c : Prop) (vals : List AVal) (st1 : St)
    (h : ∀ ext, runQ P ops (R ++ ext) (l.take n) st.regs = some (c, st1.regs, vals.map fun v => (v, R ++ ext))) (hr : st1.rows = st.rows) (hc : c) (hk : DerX P F ops R (l.drop n) st1 K) : DerX P F ops R l st K := by
  have := DerX.preAux (F := F) (K := K) (l2 := l.drop n) (l.take n) st vals st1.regs (fun ext => ⟨c, hc, h ext⟩) (by rw [← hr]; exact hk)
  rwa [List.take_append_drop] at this
end Go.Abs

set_option linter.unusedSimpArgs false
set_option linter.unusedVariables false
namespace Go.Abs
open Go
theorem Weak.of_shrink {N : Nat} {st : St} {rows2 : List Row} {regs2 : List AVal} (h : Shrink N st.rows (.tup st.regs) rows2 (.tup regs2)) (hl : regs2.length = st.regs.length) (hN : N ≤ rows2.length) : Weak N st ⟨regs2, rows2⟩ := by
  intro hN0
  refine ⟨hN, fun ds X m w a hr => ?_⟩
  have hv : V ⟨st.rows, m, w, X⟩ (.tup st.regs) (.tuple ((List.range st.regs.length).map fun i => a.tmps.getD i Go.undef).toArray) := by
    refine V.tup _ _ (by simp) fun i hi => ?_
    have := hr.regs i hi
    simpa [List.getD_eq_getElem?_getD, hi] using this
  obtain ⟨m2, k1, k2, k3, k4⟩ := h X m w _ hr.rel hv hN0
  refine ⟨m2, ⟨k1, by rw [hl]; exact hr.len, fun i hi => ?_, hr.defers⟩, k4⟩
  generalize ht : Value.tuple ((List.range st.regs.length).map fun i => a.tmps.getD i Go.undef).toArray = t at k2
  cases k2 with
  | tup _ vs hl2 hv2 =>
    simp only [Value.tuple.injEq] at ht
    have ht2 : (List.range st.regs.length).map (fun i => a.tmps.getD i Go.undef) = vs := by simpa using ht
    have := hv2 i hi
    rw [← ht2] at this
    simp only at hi
    rw [hl] at hi
    simpa [List.getD_eq_getElem?_getD, hi] using this
theorem Weak.cut {N : Nat} {st : St} {regs2 : List AVal} {rows2 : List Row} (k : Nat) (h1 : st.regs = regs2) (h2 : st.rows.take k = rows2) (hN : N ≤ rows2.length) (hr : ltAll rows2.length regs2 = true)
    (hd : ∀ r ∈ rows2, dataAll r.cells = true) : Weak N st ⟨regs2, rows2⟩ := by
  refine Weak.of_shrink ?_ (by rw [h1]) hN
  have e : st.rows = rows2 ++ st.rows.drop k := by rw [← h2, List.take_append_drop]
  rw [e, h1]
  exact Shrink.drop hN (fun i r hi _ => ltAll_of_data _ _ (hd r (List.mem_of_getElem? hi))) hr
/-- A loop: what is known behind each round. -/
theorem AWP.loopW {P : Program} {N : Nat} {c : Code} {Q : Exit → St → Prop} {st : St} (mask : List Bool) (I : Nat → St → Prop) (n₀ : Nat) (h₀ : I n₀ (st.only mask))
    (round : ∀ n s, I n s → AWP P N c (thenQ (fun s' => ∃ n', n' < n ∧ ∃ s2, Weak N (s'.only mask) s2 ∧ I n' s2) Q) s) : AWP P N (.loop c) Q st := by
  refine AWP.only mask (AWP.loop I n₀ h₀ fun n s hI => ?_)
  refine AWP.post (round n s hI) ?_
  intro e s' hq hN
  have triv : Weak N s' s' := fun hN => ⟨hN, fun ds X m w a h => ⟨m, h, Evo.refl _ _⟩⟩
  cases e with
  | normal =>
    obtain ⟨n', hlt, s2, hw, hI'⟩ := hq
    refine ⟨s2, ?_, n', hlt, hI'⟩
    intro hN0
    obtain ⟨k1, k2⟩ := St.only_weak N mask s' hN0
    obtain ⟨l1, l2⟩ := hw k1
    refine ⟨l1, fun ds X m w a h => ?_⟩
    obtain ⟨m1, h1, e1⟩ := k2 ds X m w a h
    obtain ⟨m2, h2, e2⟩ := l2 ds X m1 w a h1
    exact ⟨m2, h2, e1.trans e2⟩
  | exit id => exact ⟨s', triv, hq⟩
  | goto l => exact ⟨s', triv, hq⟩
  | ret => exact ⟨s', triv, hq⟩
  | panic ch => exact ⟨s', triv, hq⟩
  | outgrown => exact ⟨s', triv, hq⟩
@[simp] theorem vecc_lt (k : Nat) (g : Gate) (v : Nat → Int) : ltAll k (vecc g v) = true := ltAll_of_data _ _ (vecc_data g v)
end Go.Abs

set_option linter.unusedVariables false
set_option linter.unusedSimpArgs false
namespace Go.Abs
open Go Go.ChangeShapes Go.WideShapes Go.RowKit
section
variable {H : Type} {enc : TypeId × Value → H} {P : Program} {W : World} {held : Bool}
def okTys (P : Program) (l : List TypeId) : Bool := l.all fun t => isVar P t && plainT P (fun u => l.contains u) t
theorem arg_cells (hlaid : laidOutB P = true) (l : List TypeId) (hl : okTys P l = true) {t : TypeId} (ht : l.contains t = true) {cs : List Value} {x : DataW H × List MemPlace} {fuel : Nat}
    (hf : DataW.trod enc P W 0 (fun _ => true) held fuel t cs = some x) (hwt : ∀ n ∈ x.1.weights P t, n ≤ reachBytes) : ∃ xs : List AVal, HasT P t xs ∧ VLd (env0 W) xs cs := by
  refine trod_has hlaid (ok := fun u => l.contains u) (fun u hu => ?_) fuel t cs x ht hf hwt
  have := List.all_eq_true.1 hl u (by simpa using hu)
  simpa using this
theorem arg_sl (hlaid : laidOutB P = true) (l : List TypeId) (hl : okTys P l = true) {t e : TypeId} (ht : l.contains t = true) (hu : P.underlying t = some (.slice e)) {v : Value} {x : DataW H × List MemPlace} {fuel : Nat} {r : Reach} {base : Nat}
    (hok : Value.okWide P W r base t v) (hf : DataW.trod enc P W 0 (fun _ => true) held fuel t v.cells.toList = some x) (hwt : ∀ n ∈ x.1.weights P t, n ≤ reachBytes) : ∃ y : AVal, HasT P t [y] ∧ y.data = true ∧ V (env0 W) y v := by
  obtain ⟨xs, h1, h2⟩ := arg_cells hlaid l hl ht hf hwt
  obtain ⟨a0, len0, cap0, rfl⟩ := okWide_slice hu hok
  have hc : (Value.slice a0 len0 cap0).cells.toList = [.slice a0 len0 cap0] := rfl
  rw [hc] at h2
  have hl1 : xs.length = 1 := h2.1.1
  obtain ⟨y, rfl⟩ := List.length_eq_one_iff.1 hl1
  refine ⟨y, h1, ?_, ?_⟩
  · simpa [dataAll] using h2.2
  · simpa using h2.1.2 0 (by simp)
end
/-! ### what cells are -/
section
variable {P : Program} {t e : TypeId}
theorem HasT.int_inv {k : IntKind} {cs : List AVal} (hu : P.underlying t = some (.int k)) (h : HasT P t cs) : ∃ n, (Lit.int k n).wf = true ∧ cs = [.sc (.int k n)] := by
  cases h with
  | int _ k2 n h2 hw => rw [hu] at h2; cases h2; exact ⟨n, hw, rfl⟩
  | bool _ _ h2 => rw [hu] at h2; cases h2
  | string _ _ h2 => rw [hu] at h2; cases h2
  | slice _ _ _ _ h2 => rw [hu] at h2; cases h2
  | struct _ _ _ h2 => rw [hu] at h2; cases h2
  | array _ _ _ _ h2 => rw [hu] at h2; cases h2
theorem HasT.bool_inv {cs : List AVal} (hu : P.underlying t = some .bool) (h : HasT P t cs) : ∃ b, cs = [.sc (.bool b)] := by
  cases h with
  | int _ k2 n h2 hw => rw [hu] at h2; cases h2
  | bool _ b h2 => exact ⟨b, rfl⟩
  | string _ _ h2 => rw [hu] at h2; cases h2
  | slice _ _ _ _ h2 => rw [hu] at h2; cases h2
  | struct _ _ _ h2 => rw [hu] at h2; cases h2
  | array _ _ _ _ h2 => rw [hu] at h2; cases h2
theorem HasT.string_inv {cs : List AVal} (hu : P.underlying t = some .string) (h : HasT P t cs) : ∃ s, cs = [.sc (.string s)] := by
  cases h with
  | int _ k2 n h2 hw => rw [hu] at h2; cases h2
  | bool _ _ h2 => rw [hu] at h2; cases h2
  | string _ s h2 => exact ⟨s, rfl⟩
  | slice _ _ _ _ h2 => rw [hu] at h2; cases h2
  | struct _ _ _ h2 => rw [hu] at h2; cases h2
  | array _ _ _ _ h2 => rw [hu] at h2; cases h2
theorem HasT.slice_inv {cs : List AVal} (hu : P.underlying t = some (.slice e)) (h : HasT P t cs) :
    ∃ ys n, cs = [.sl ys n .any] ∧ ys.length = n * P.cellsOf e ∧ n * P.bytesOf e ≤ reachBytes ∧ ∀ i, i < n → HasT P e ((ys.drop (i * P.cellsOf e)).take (P.cellsOf e)) := by
  cases h with
  | int _ k2 n h2 hw => rw [hu] at h2; cases h2
  | bool _ _ h2 => rw [hu] at h2; cases h2
  | string _ _ h2 => rw [hu] at h2; cases h2
  | slice _ e2 ys n h2 hl hb hi => rw [hu] at h2; cases h2; exact ⟨ys, n, rfl, hl, hb, hi⟩
  | struct _ _ _ h2 => rw [hu] at h2; cases h2
  | array _ _ _ _ h2 => rw [hu] at h2; cases h2
theorem HasT.struct_inv {fs : Array Field} {cs : List AVal} (hu : P.underlying t = some (.struct fs)) (h : HasT P t cs) :
    cs.length = P.cellsOf t ∧ ∀ (i : Nat) (f : Field), fs[i]? = some f → HasT P f.type ((cs.drop f.offset).take (P.cellsOf f.type)) := by
  cases h with
  | int _ k2 n h2 hw => rw [hu] at h2; cases h2
  | bool _ _ h2 => rw [hu] at h2; cases h2
  | string _ _ h2 => rw [hu] at h2; cases h2
  | slice _ _ _ _ h2 => rw [hu] at h2; cases h2
  | struct _ fs2 _ h2 hl hi => rw [hu] at h2; cases h2; exact ⟨hl, hi⟩
  | array _ _ _ _ h2 => rw [hu] at h2; cases h2
theorem HasT.array_inv {n : Nat} {cs : List AVal} (hu : P.underlying t = some (.array n e)) (h : HasT P t cs) :
    cs.length = n * P.cellsOf e ∧ ∀ i, i < n → HasT P e ((cs.drop (i * P.cellsOf e)).take (P.cellsOf e)) := by
  cases h with
  | int _ k2 n h2 hw => rw [hu] at h2; cases h2
  | bool _ _ h2 => rw [hu] at h2; cases h2
  | string _ _ h2 => rw [hu] at h2; cases h2
  | slice _ _ _ _ h2 => rw [hu] at h2; cases h2
  | struct _ _ _ h2 => rw [hu] at h2; cases h2
  | array _ e2 n2 _ h2 hl hi => rw [hu] at h2; cases h2; exact ⟨hl, hi⟩
/-- Items that are each what a function makes of something. -/
theorem items_of {α : Type} (f : α → List AVal) (good : α → Prop) (c : Nat) : ∀ (n : Nat) (ys : List AVal), ys.length = n * c → (∀ i, i < n → ∃ a, good a ∧ (ys.drop (i * c)).take c = f a) →
    ∃ l : List α, l.length = n ∧ (∀ a ∈ l, good a) ∧ ys = l.flatMap f := by
  intro n
  induction n with
  | zero =>
    intro ys hl _
    have : ys = [] := List.eq_nil_of_length_eq_zero (by simpa using hl)
    exact ⟨[], rfl, fun a h => by simp at h, by simp [this]⟩
  | succ n ih =>
    intro ys hl h
    obtain ⟨a, ga, ha⟩ := h 0 (by omega)
    rw [Nat.zero_mul, List.drop_zero] at ha
    have hl2 : c ≤ ys.length := by rw [hl, Nat.add_mul]; omega
    obtain ⟨l, h1, h2, h3⟩ := ih (ys.drop c) (by rw [List.length_drop, hl, Nat.add_mul]; omega) (fun i hi => by
      obtain ⟨b, gb, hb⟩ := h (i + 1) (by omega)
      refine ⟨b, gb, ?_⟩
      rw [List.drop_drop]
      have : c + i * c = (i + 1) * c := by rw [Nat.add_mul]; omega
      rw [this]; exact hb)
    refine ⟨a :: l, by simp [h1], fun b hb => ?_, ?_⟩
    · rcases List.mem_cons.1 hb with rfl | hb
      · exact ga
      · exact h2 b hb
    · rw [List.flatMap_cons, ← ha, ← h3, List.take_append_drop]
end
end Go.Abs

set_option linter.unusedVariables false
set_option linter.unusedSimpArgs false
namespace Go.Abs
open Go
/-- The cells of a type, one by one. -/
inductive Leaf
  | bool | int (k : IntKind) | str | sl (e : TypeId)
def LeafHas (P : Program) : Leaf → AVal → Prop
  | .bool, x => ∃ b, x = .sc (.bool b)
  | .int k, x => ∃ n, (Lit.int k n).wf = true ∧ x = .sc (.int k n)
  | .str, x => ∃ s, x = .sc (.string s)
  | .sl e, x => ∃ ys n, x = .sl ys n .any ∧ ys.length = n * P.cellsOf e ∧ n * P.bytesOf e ≤ reachBytes ∧ ∀ i, i < n → HasT P e ((ys.drop (i * P.cellsOf e)).take (P.cellsOf e))
def Fits (P : Program) : List Leaf → List AVal → Prop
  | [], cs => cs = []
  | l :: ls, cs => ∃ x r, cs = x :: r ∧ LeafHas P l x ∧ Fits P ls r
theorem Fits.append {P : Program} : ∀ {ls ms : List Leaf} {cs ds : List AVal}, Fits P ls cs → Fits P ms ds → Fits P (ls ++ ms) (cs ++ ds)
  | [], ms, cs, ds, h, k => by
    have : cs = [] := h
    subst this; exact k
  | l :: ls, ms, cs, ds, ⟨x, r, h1, h2, h3⟩, k => ⟨x, r ++ ds, by rw [h1]; rfl, h2, Fits.append h3 k⟩
def leavesFs (P : Program) (E : TypeId → Option (List Leaf)) : Nat → List Field → Option (List Leaf)
  | _, [] => some []
  | off, f :: l => match E f.type with
    | some a => if f.offset = off ∧ P.cellsOf f.type = a.length then (match leavesFs P E (off + a.length) l with | some b => some (a ++ b) | none => none) else none
    | none => none
def leaves (P : Program) : Nat → TypeId → Option (List Leaf)
  | 0, _ => none
  | n + 1, t => match P.underlying t with
    | some .bool => some [.bool]
    | some (.int k) => some [.int k]
    | some .string => some [.str]
    | some (.slice e) => some [.sl e]
    | some (.struct fs) => match leavesFs P (leaves P n) 0 fs.toList with
      | some ls => if P.cellsOf t = ls.length then some ls else none
      | none => none
    | some (.array m e) => match leaves P n e with
      | some ls => if P.cellsOf e = ls.length then some ((List.replicate m ls).flatten) else none
      | none => none
    | _ => none
theorem leavesFs_spec {P : Program} {E : TypeId → Option (List Leaf)} {cs : List AVal} (hE : ∀ t ls xs, E t = some ls → HasT P t xs → Fits P ls xs) : ∀ (fs : List Field) (off : Nat) (ls : List Leaf), leavesFs P E off fs = some ls →
    (∀ f ∈ fs, HasT P f.type ((cs.drop f.offset).take (P.cellsOf f.type))) → cs.length = off + ls.length → Fits P ls (cs.drop off) := by
  intro fs
  induction fs with
  | nil =>
    intro off ls h _ hl
    simp [leavesFs] at h
    subst h
    show cs.drop off = []
    rw [List.drop_eq_nil_iff]; simp at hl; omega
  | cons f l ih =>
    intro off ls h hf hl
    simp only [leavesFs] at h
    split at h
    · rename_i a ha
      split at h
      · rename_i hc
        split at h
        · rename_i b hb
          simp at h; subst h
          have h1 := hE _ _ _ ha (hf f (by simp))
          rw [hc.1, hc.2] at h1
          rw [List.length_append] at hl
          have h2 := ih (off + a.length) b hb (fun g hg => hf g (by simp [hg])) (by omega)
          have := Fits.append h1 h2
          rw [← List.drop_drop, List.take_append_drop] at this
          exact this
        · simp at h
      · simp at h
    · simp at h
theorem fits_items {P : Program} {ls : List Leaf} : ∀ (m : Nat) (cs : List AVal), cs.length = m * ls.length → (∀ i, i < m → Fits P ls ((cs.drop (i * ls.length)).take ls.length)) → Fits P ((List.replicate m ls).flatten) cs := by
  intro m
  induction m with
  | zero => intro cs hl _; show cs = []; exact List.eq_nil_of_length_eq_zero (by simpa using hl)
  | succ m ih =>
    intro cs hl h
    have h0 := h 0 (by omega)
    rw [Nat.zero_mul, List.drop_zero] at h0
    have h1 := ih (cs.drop ls.length) (by rw [List.length_drop, hl, Nat.add_mul]; omega) (fun i hi => by
      have := h (i + 1) (by omega)
      rw [List.drop_drop]
      have e : ls.length + i * ls.length = (i + 1) * ls.length := by rw [Nat.add_mul]; omega
      rw [e]; exact this)
    have := Fits.append h0 h1
    rw [List.take_append_drop] at this
    rw [List.replicate_succ, List.flatten_cons]
    exact this
theorem leaves_spec {P : Program} : ∀ (n : Nat) (t : TypeId) (ls : List Leaf) (cs : List AVal), leaves P n t = some ls → HasT P t cs → Fits P ls cs := by
  intro n
  induction n with
  | zero => intro t ls cs h; simp [leaves] at h
  | succ n ih =>
    intro t ls cs h hc
    unfold leaves at h
    split at h
    · rename_i hu
      simp at h; subst h
      obtain ⟨b, rfl⟩ := hc.bool_inv hu
      exact ⟨_, [], rfl, ⟨b, rfl⟩, rfl⟩
    · rename_i k hu
      simp at h; subst h
      obtain ⟨m, hw, rfl⟩ := hc.int_inv hu
      exact ⟨_, [], rfl, ⟨m, hw, rfl⟩, rfl⟩
    · rename_i hu
      simp at h; subst h
      obtain ⟨s, rfl⟩ := hc.string_inv hu
      exact ⟨_, [], rfl, ⟨s, rfl⟩, rfl⟩
    · rename_i e hu
      simp at h; subst h
      obtain ⟨ys, m, rfl, h1, hb, h2⟩ := hc.slice_inv hu
      exact ⟨_, [], rfl, ⟨ys, m, rfl, h1, hb, h2⟩, rfl⟩
    · rename_i fs hu
      split at h
      · rename_i ls' hls
        split at h
        · rename_i hlen
          simp at h; subst h
          obtain ⟨h1, h2⟩ := hc.struct_inv hu
          have := leavesFs_spec (cs := cs) (fun t ls xs => ih t ls xs) fs.toList 0 ls' hls (fun f hf => by
            obtain ⟨i, hi, rfl⟩ := List.mem_iff_getElem.1 hf
            exact h2 i _ (by simp at hi ⊢)) (by omega)
          simpa using this
        · simp at h
      · simp at h
    · rename_i m e hu
      split at h
      · rename_i ls' hls
        split at h
        · rename_i hlen
          simp at h; subst h
          obtain ⟨h1, h2⟩ := hc.array_inv hu
          rw [hlen] at h1 h2
          exact fits_items m cs h1 (fun i hi => ih _ _ _ hls (h2 i hi))
        · simp at h
      · simp at h
    · simp at h
end Go.Abs
namespace Go.Abs
open Go
/-! ### short names -/
abbrev I6 (n : Int) : AVal := .sc (.int .i64 n)
abbrev S6 (s : ByteArray) : AVal := .sc (.string s)
abbrev B6 (b : Bool) : AVal := .sc (.bool b)
abbrev U6 : AVal := .undef
abbrev UU (n : Nat) : List AVal := List.replicate n .undef
def TT : Nat → Prop
  | 0 => True
  | n + 1 => True ∧ TT n
theorem tt : ∀ n, TT n
  | 0 => trivial
  | n + 1 => ⟨trivial, tt n⟩
end Go.Abs

set_option linter.unusedVariables false
set_option linter.unusedSimpArgs false
namespace Go.Abs
open Go
end Go.Abs

set_option linter.unusedVariables false
set_option linter.unusedSimpArgs false
namespace Go.Abs
open Go
/-- nil, ahead of a loop that appends, is a row of its own. -/
theorem AWP.virt {P : Program} {N : Nat} {c : Code} {Q : Exit → St → Prop} {st : St} (i esz : Nat) (st' : St)
    (h : st.regs[i]? = some (.sl [] 0 .nil) ∧ (⟨st.regs.set i (.row st.rows.length 0 0), st.rows ++ [⟨[], esz, .fresh⟩]⟩ : St) = st') (k : AWP P N c Q st') : AWP P N c Q st := by
  obtain ⟨h1, rfl⟩ := h
  refine AWP.weaken ?_ k
  intro hN
  refine ⟨by simp; omega, fun ds X m w a ha => ?_⟩
  obtain ⟨k1, k2⟩ := virtual_step ha.rel esz
  refine ⟨_, ⟨k1, by rw [List.length_set]; exact ha.len, fun j hj => ?_, ha.defers⟩, k2.mono hN⟩
  simp only [List.length_set] at hj
  have hv := ha.regs j hj
  by_cases e : j = i
  · subst e
    have e1 : st.regs.getD j .undef = .sl [] 0 .nil := by rw [List.getD_eq_getElem?_getD, h1]; rfl
    rw [e1] at hv
    have e2 : (st.regs.set j (.row st.rows.length 0 0)).getD j .undef = .row st.rows.length 0 0 := by simp [List.getD_eq_getElem?_getD, hj]
    show V _ ((st.regs.set j (.row st.rows.length 0 0)).getD j .undef) _
    rw [e2]
    have hb : ∃ base : Option Addr, a.tmps.getD j Go.undef = .slice base 0 0 := by
      generalize hx : AVal.sl [] 0 .nil = x at hv
      generalize hu : a.tmps.getD j Go.undef = u at hv
      cases hv <;> simp at hx
      · exact ⟨none, rfl⟩
      · rename_i hk3 a; exact ⟨some a, rfl⟩
      · rename_i b o cap vs hk2 hn hd hv hm
        obtain ⟨rfl, rfl, rfl⟩ := hx
        simp at hk2
    obtain ⟨base, hb⟩ := hb
    rw [hb]
    exact .rowV st.rows.length ⟨[], esz, .fresh⟩ base (by simp) (.inr (.inl ⟨.inl rfl, by simp⟩))
  · have e2 : (st.regs.set i (.row st.rows.length 0 0)).getD j .undef = st.regs.getD j .undef := by
      simp [List.getD_eq_getElem?_getD, List.getElem?_set, show ¬ i = j from fun h => e h.symm]
    show V _ ((st.regs.set i (.row st.rows.length 0 0)).getD j .undef) _
    rw [e2]
    exact k2.val _ _ hv hv.refLt
end Go.Abs

set_option linter.unusedVariables false
set_option linter.unusedSimpArgs false
namespace Go.Abs
open Go
end Go.Abs

set_option linter.unusedVariables false
set_option linter.unusedSimpArgs false
namespace Go.Abs
open Go
/-- A function that takes a fresh row over, wherever it lies. -/
def EvK (P : Program) (f : FuncId) (args : List AVal) (r0 : Row) (res : AVal) (r1 : Row) : Prop :=
  ∀ (rows : List Row) (id : Nat), rows[id]? = some r0 → EvF P f (renAll (fun _ => id) args) rows res (rows.set id r1)
theorem EvK.at {P : Program} {f : FuncId} {args args' : List AVal} {r0 r1 : Row} {res : AVal} (h : EvK P f args r0 res r1) {rows : List Row} {id : Nat} (hr : rows[id]? = some r0) (ha : anyAll args' = renAll (fun _ => id) args) : EvF P f args' rows res (rows.set id r1) := by
  have := h rows id hr
  rw [← ha] at this
  exact fun X m w vs hr hvl => this X m w vs hr hvl.anyAll
theorem DerX.callK {F : Oper → Bool} {P : Program} {ops : Array Oper} {R : List Row} {o : Oper} {l : List Oper} {st : St} {K : St → Prop} {f : FuncId} {args : List AVal} {r0 r1 : Row} {r : AVal} (he : EvK P f args r0 r r1) (id : Nat) (args' : List AVal) (ext' : List Row) (st1 : St)
    (h : F o = true ∧ wantA ops o st.regs = some true ∧ Abs.callA P o (ev st.regs) = some (f, args') ∧ st.rows[id]? = some r0 ∧ anyAll args' = renAll (fun _ => id) args ∧ st.rows.set id r1 = R ++ ext' ∧ st.put o.dst r (st.rows.set id r1) = st1) (hk : DerX P F ops R l st1 K) : DerX P F ops R (o :: l) st K := by
  obtain ⟨h0, h1, h2, h3, h4, h5, rfl⟩ := h
  obtain ⟨st', k1, k2⟩ := hk
  exact ⟨st', .eff o l _ _ r _ h0 h1 (callA_spec h2 (he.at h3 h4)) ⟨ext', h5⟩ k1, k2⟩
end Go.Abs

set_option linter.unusedVariables false
set_option linter.unusedSimpArgs false
namespace Go.Abs
open Go
/-- the same, in a region -/
def cutU (P : Program) (o : Oper) (ρ : Operand → AVal) (rows : List Row) : Option Prop :=
  match o.op with
  | .slice t x (some lo) none none => match P.underlying t, ρ x, optInt ρ (some lo) with
    | some (.slice el), .row id _ n, some (some L) => match tyS P el, rows[id]? with
      | some _, some r => if r.st = .fresh then some (0 ≤ L ∧ L ≤ (n : Int)) else none
      | _, _ => none
    | _, _, _ => none
  | _ => none
end Go.Abs
namespace Go.Abs
open Go
end Go.Abs

set_option linter.unusedVariables false
set_option linter.unusedSimpArgs false
namespace Go.Abs
open Go

/-- A row that is not there yet. -/
abbrev ub : Row := ⟨[], 0, .unborn⟩

theorem reserve_step {E : Env} (hE : Rel E) :
    let E' : Env := ⟨E.rows ++ [ub], fun i => if i = E.rows.length then none else E.m i, E.w, E.x⟩
    Rel E' ∧ Evo E.rows.length E E' := by
  intro E'
  have hold : ∀ {i : Nat}, i < E.rows.length → E'.m i = E.m i := fun h => by show (if _ then _ else _) = _; rw [if_neg (by omega)]
  have hnew : E'.m E.rows.length = none := by show (if _ then _ else _) = _; rw [if_pos rfl]
  have hI : ∀ b o v, Imm E b o → E.w.cell? ⟨b, o, none⟩ = some v → Imm E' b o ∧ E'.w.cell? ⟨b, o, none⟩ = some v := by
    intro b o v h hc
    refine ⟨⟨h.1, h.2.1, ?_⟩, hc⟩
    intro id s hs hns hm
    rcases get_append_cases hs with ⟨hlt, hs⟩ | ⟨he, _⟩
    · rw [hold hlt] at hm; exact h.2.2 id s hs hns hm
    · subst he; rw [hnew] at hm; simp at hm
  have hV : ∀ x v, V E x v → V E' x v := fun x v h =>
    V.mono (N := E.rows.length) hI (fun id s _ hs => ⟨s, get_append_old hs, RowEvo.keep (hold (lt_of_get hs)) (fun _ b o _ h => h)⟩) h h.refLt
  refine ⟨⟨hE.xlt, ?_, ?_, ?_, ?_, ?_⟩, ⟨fun x v h _ => hV x v h, Nat.le_refl _, ?_, rfl, rfl, rfl, hI⟩⟩
  · intro i s b hs hns hi o hx
    rcases get_append_cases hs with ⟨hlt, hs⟩ | ⟨he, he2⟩
    · rw [hold hlt] at hi; exact hE.xr i s b hs hns hi o hx
    · rw [he, hnew] at hi; simp at hi
  · intro i j s t b hs ht hns hnt hi hj
    rcases get_append_cases hs with ⟨hlt, hs⟩ | ⟨he, he2⟩ <;> rcases get_append_cases ht with ⟨hlt', ht⟩ | ⟨he', he2'⟩
    · rw [hold hlt] at hi; rw [hold hlt'] at hj; exact hE.inj i j s t b hs ht hns hnt hi hj
    · rw [he', hnew] at hj; simp at hj
    · rw [he, hnew] at hi; simp at hi
    · omega
  · intro i s hs hns hnm
    rcases get_append_cases hs with ⟨hlt, hs⟩ | ⟨he, he2⟩
    · rcases hE.own i s hs hns hnm with h | ⟨b, c', e', h1, h2, h3, h4⟩
      · exact .inl ⟨(hold hlt).trans h.1, h.2⟩
      · exact .inr ⟨b, c', e', (hold hlt).trans h1, h2, h3, fun j hj => hV _ _ (h4 j hj)⟩
    · subst he; subst he2
      exact .inl ⟨hnew, rfl⟩
  · intro i s hs hg
    rcases get_append_cases hs with ⟨hlt, hs⟩ | ⟨he, he2⟩
    · exact hE.grown i s hs hg
    · subst he2; simp at hg
  · intro i s hs hg
    rcases get_append_cases hs with ⟨hlt, hs⟩ | ⟨he, he2⟩
    · obtain ⟨b, es, k, h1, h2, h3, h4⟩ := hE.map i s hs hg
      exact ⟨b, es, k, (hold hlt).trans h1, h2, h3, fun j hj => ⟨hV _ _ (h4 j hj).1, hV _ _ (h4 j hj).2⟩⟩
    · subst he2; simp at hg
  · intro b hb hfree
    refine ⟨rfl, fun id s hs hns hm => ?_⟩
    rcases get_append_cases hs with ⟨hlt, hs⟩ | ⟨he, _⟩
    · rw [hold hlt] at hm; exact hfree id s hs hns hm
    · subst he; rw [hnew] at hm; simp at hm

/-- How an operation moves the rows, whatever stands there. -/
inductive Mv
  | id | set (k : Nat) (r : Row) | app (n : Nat) (ext : List Row)
def Mv.act : Mv → List Row → List Row
  | .id, l => l
  | .set k r, l => l.set k r
  | .app _ ext, l => l ++ ext
def GZ (R : (Nat → List AVal) → List Row) (n0 : Nat) (rows : List Row) : Prop := (∃ x ext, rows = R x ++ ext) ∧ n0 ≤ rows.length
def Mv.D (R : (Nat → List AVal) → List Row) (n0 : Nat) : Mv → List Row → Prop
  | .id, l => GZ R n0 l
  | .set k r, l => GZ R n0 l ∧ (∀ x, (R x).length ≤ k) ∧ k < n0 ∧ l[k]? = some ub ∧ r.st = .fresh
  | .app n _, l => GZ R n0 l ∧ l.length = n
def Mv.kind : Mv → Nat
  | .id => 0
  | .set _ _ => 1
  | .app _ _ => 2
def clash (a b : Nat) : Bool := (decide (2 ≤ a) && decide (2 ≤ b)) || (decide (1 ≤ a) && decide (3 ≤ b)) || (decide (3 ≤ a) && decide (1 ≤ b))

theorem GZ.set {R : (Nat → List AVal) → List Row} {n0 k : Nat} {r : Row} {l : List Row} (h : GZ R n0 l) (hk : ∀ x, (R x).length ≤ k) : GZ R n0 (l.set k r) := by
  obtain ⟨⟨x, ext, rfl⟩, h2⟩ := h
  exact ⟨⟨x, ext.set (k - (R x).length) r, by rw [List.set_append_right _ _ (hk x)]⟩, by rw [List.length_set]; exact h2⟩
theorem GZ.app {R : (Nat → List AVal) → List Row} {n0 : Nat} {l ext : List Row} (h : GZ R n0 l) : GZ R n0 (l ++ ext) := by
  obtain ⟨⟨x, e, rfl⟩, h2⟩ := h
  exact ⟨⟨x, e ++ ext, by rw [List.append_assoc]⟩, by rw [List.length_append]; omega⟩
theorem Mv.Gact {R : (Nat → List AVal) → List Row} {n0 : Nat} {m : Mv} {l : List Row} (h : m.D R n0 l) : GZ R n0 (m.act l) := by
  cases m with
  | id => exact h
  | set k r => exact h.1.set h.2.1
  | app n ext => exact h.1.app
theorem Mv.comm {R : (Nat → List AVal) → List Row} {n0 : Nat} {m1 m2 : Mv} {l : List Row} (hc : ¬ (2 ≤ m1.kind ∧ 2 ≤ m2.kind)) (h1 : m1.D R n0 l) (h2 : m2.D R n0 (m1.act l)) :
    m2.D R n0 l ∧ m1.D R n0 (m2.act l) ∧ m1.act (m2.act l) = m2.act (m1.act l) := by
  cases m1 with
  | id => exact ⟨h2, Mv.Gact h2, rfl⟩
  | set k1 r1 =>
    cases m2 with
    | id => exact ⟨h1.1, h1, rfl⟩
    | set k2 r2 =>
      obtain ⟨a1, a2, a3, a4, a5⟩ := h1
      obtain ⟨b1, b2, b3, b4, b5⟩ := h2
      have hne : k1 ≠ k2 := by
        rintro rfl
        rw [show Mv.act (.set k1 r1) l = l.set k1 r1 from rfl, get_set_same a4] at b4
        cases b4; simp at a5
      rw [show Mv.act (.set k1 r1) l = l.set k1 r1 from rfl, get_set_other hne.symm] at b4
      refine ⟨⟨a1, b2, b3, b4, b5⟩, ⟨a1.set b2, a2, a3, ?_, a5⟩, ?_⟩
      · show (l.set k2 r2)[k1]? = _; rw [get_set_other hne]; exact a4
      · show (l.set k2 r2).set k1 r1 = (l.set k1 r1).set k2 r2; rw [List.set_comm _ _ hne.symm]
    | app n ext =>
      obtain ⟨a1, a2, a3, a4, a5⟩ := h1
      obtain ⟨b1, b2⟩ := h2
      rw [show Mv.act (.set k1 r1) l = l.set k1 r1 from rfl, List.length_set] at b2
      have hlt : k1 < l.length := lt_of_get a4
      refine ⟨⟨a1, b2⟩, ⟨a1.app, a2, a3, ?_, a5⟩, ?_⟩
      · show (l ++ ext)[k1]? = _; rw [List.getElem?_append_left hlt]; exact a4
      · show (l ++ ext).set k1 r1 = (l.set k1 r1) ++ ext; rw [List.set_append_left _ _ hlt]
  | app n1 e1 =>
    cases m2 with
    | id => exact ⟨h1.1, h1, rfl⟩
    | set k2 r2 =>
      obtain ⟨a1, a2⟩ := h1
      obtain ⟨b1, b2, b3, b4, b5⟩ := h2
      have hlt : k2 < l.length := Nat.lt_of_lt_of_le b3 a1.2
      rw [show Mv.act (.app n1 e1) l = l ++ e1 from rfl, List.getElem?_append_left hlt] at b4
      refine ⟨⟨a1, b2, b3, b4, b5⟩, ⟨a1.set b2, by show (l.set k2 r2).length = _; rw [List.length_set]; exact a2⟩, ?_⟩
      show (l.set k2 r2) ++ e1 = (l ++ e1).set k2 r2; rw [List.set_append_left _ _ hlt]
    | app n2 e2 => exact absurd ⟨Nat.le_refl 2, Nat.le_refl 2⟩ hc

inductive DerB (P : Program) (K : Oper → Nat) (ops : Array Oper) (R : (Nat → List AVal) → List Row) (n0 : Nat) : List Nat → St → St → Prop
  | nil (st : St) : DerB P K ops R n0 [] st st
  | mv (i : Nat) (rest : List Nat) (st st' : St) (o : Oper) (res : AVal) (m : Mv) (ho : ops[i]? = some o) (hk : m.kind ≤ K o) (hw : wantA ops o st.regs = some true)
      (hs : ∀ rows, m.D R n0 rows → OpS P o (ev st.regs) rows res (m.act rows)) (hd : m.D R n0 st.rows) (h : DerB P K ops R n0 rest (st.put o.dst res (m.act st.rows)) st') : DerB P K ops R n0 (i :: rest) st st'
  | eff (i : Nat) (rest : List Nat) (st st' : St) (o : Oper) (res : AVal) (rows' : List Row) (ho : ops[i]? = some o) (he : K o = 3) (hw : wantA ops o st.regs = some true)
      (hs : OpS P o (ev st.regs) st.rows res rows') (hg : GZ R n0 rows') (h : DerB P K ops R n0 rest (st.put o.dst res rows') st') : DerB P K ops R n0 (i :: rest) st st'
  | skip (i : Nat) (rest : List Nat) (st st' : St) (o : Oper) (ho : ops[i]? = some o) (hw : wantA ops o st.regs = some false)
      (h : DerB P K ops R n0 rest (st.put o.dst (.tup []) st.rows) st') : DerB P K ops R n0 (i :: rest) st st'

def apartK (K : Oper → Nat) (ops : Array Oper) (x y : Oper) : Bool :=
  (match x.dst with | some d => !(namesOf ops y).contains d && y.dst != some d | none => true) &&
  (match y.dst with | some d => !(namesOf ops x).contains d | none => true) && !clash (K x) (K y)
theorem apartK_spec {K : Oper → Nat} {ops : Array Oper} {x y : Oper} (h : apartK K ops x y = true) :
    (∀ d, x.dst = some d → d ∉ namesOf ops y) ∧ (∀ d, x.dst = some d → y.dst ≠ some d) ∧ (∀ d, y.dst = some d → d ∉ namesOf ops x) ∧ clash (K x) (K y) = false := by
  simp only [apartK, Bool.and_eq_true] at h
  obtain ⟨⟨h1, h2⟩, h3⟩ := h
  refine ⟨fun d hd => ?_, fun d hd => ?_, fun d hd => ?_, by simpa using h3⟩
  · simp [hd] at h1; exact h1.1
  · simp [hd] at h1; exact h1.2
  · simp [hd] at h2; exact h2
theorem clash_spec {a b : Nat} (h : clash a b = false) : ¬ (2 ≤ a ∧ 2 ≤ b) ∧ ¬ (1 ≤ a ∧ 3 ≤ b) ∧ ¬ (3 ≤ a ∧ 1 ≤ b) := by
  simp only [clash, Bool.or_eq_false_iff, Bool.and_eq_false_iff, decide_eq_false_iff_not] at h
  omega
theorem Mv.kind_zero {m : Mv} (h : m.kind = 0) : m = .id := by
  cases m <;> simp [Mv.kind] at h; rfl

theorem DerB.swap {K : Oper → Nat} {P : Program} {ops : Array Oper} {R : (Nat → List AVal) → List Row} {n0 : Nat} {i j : Nat} {rest : List Nat} {st st' : St} {x y : Oper} (hx : ops[i]? = some x) (hy : ops[j]? = some y) (hap : apartK K ops x y = true)
    (hG : GZ R n0 st.rows) (h : DerB P K ops R n0 (i :: j :: rest) st st') : DerB P K ops R n0 (j :: i :: rest) st st' := by
  obtain ⟨a1, a2, a3, a4⟩ := apartK_spec hap
  obtain ⟨c1, c2, c3⟩ := clash_spec a4
  cases h with
  | mv _ _ _ _ o res m ho hk hw hs hd h =>
    rw [hx] at ho; cases ho
    cases h with
    | mv _ _ _ _ o2 res2 m2 ho2 hk2 hw2 hs2 hd2 h =>
      rw [hy] at ho2; cases ho2
      rw [wantA_put a1] at hw2
      rw [rows_put] at hd2 h
      obtain ⟨e1, e2, e3⟩ := Mv.comm (by omega) hd hd2
      refine .mv j _ _ _ y res2 m2 hy hk2 hw2 (fun rows hg => (hs2 rows hg).congr fun z hz => (ev_put a1 z hz).symm) e1 ?_
      refine .mv i _ _ _ x res m hx hk (by rw [wantA_put a3]; exact hw) (fun rows hg => (hs rows hg).congr fun z hz => ev_put a3 z hz) (by rw [rows_put]; exact e2) ?_
      rw [rows_put, e3, ← put_put a2 (m2.act st.rows)]; exact h
    | eff _ _ _ _ o2 res2 rows2 ho2 he2 hw2 hs2 hg2 h =>
      rw [hy] at ho2; cases ho2
      rw [wantA_put a1] at hw2
      obtain rfl := Mv.kind_zero (m := m) (by omega)
      rw [rows_put] at hs2
      refine .eff j _ _ _ y res2 rows2 hy he2 hw2 (hs2.congr fun z hz => (ev_put a1 z hz).symm) hg2 ?_
      refine .mv i _ _ _ x res .id hx hk (by rw [wantA_put a3]; exact hw) (fun rows hg => (hs rows hg).congr fun z hz => ev_put a3 z hz) (by rw [rows_put]; exact hg2) ?_
      rw [rows_put]
      show DerB P K ops R n0 rest ((st.put y.dst res2 rows2).put x.dst res rows2) st'
      rw [← put_put a2 rows2]; exact h
    | skip _ _ _ _ o2 ho2 hw2 h =>
      rw [hy] at ho2; cases ho2
      rw [wantA_put a1] at hw2
      refine .skip j _ _ _ y hy hw2 ?_
      refine .mv i _ _ _ x res m hx hk (by rw [wantA_put a3]; exact hw) (fun rows hg => (hs rows hg).congr fun z hz => ev_put a3 z hz) (by rw [rows_put]; exact hd) ?_
      rw [rows_put] at h ⊢
      rw [← put_put a2 st.rows]; exact h
  | eff _ _ _ _ o res rows' ho he hw hs hg h =>
    rw [hx] at ho; cases ho
    cases h with
    | mv _ _ _ _ o2 res2 m2 ho2 hk2 hw2 hs2 hd2 h =>
      rw [hy] at ho2; cases ho2
      rw [wantA_put a1] at hw2
      obtain rfl := Mv.kind_zero (m := m2) (by omega)
      refine .mv j _ _ _ y res2 .id hy hk2 hw2 (fun rows hg => (hs2 rows hg).congr fun z hz => (ev_put a1 z hz).symm) hG ?_
      refine .eff i _ _ _ x res rows' hx he (by rw [wantA_put a3]; exact hw) (by rw [rows_put]; exact hs.congr fun z hz => ev_put a3 z hz) hg ?_
      rw [rows_put] at h
      show DerB P K ops R n0 rest ((st.put y.dst res2 st.rows).put x.dst res rows') st'
      rw [← put_put a2 st.rows]; exact h
    | eff _ _ _ _ o2 res2 rows2 ho2 he2 hw2 hs2 hg2 h =>
      rw [hy] at ho2; cases ho2
      omega
    | skip _ _ _ _ o2 ho2 hw2 h =>
      rw [hy] at ho2; cases ho2
      rw [wantA_put a1] at hw2
      refine .skip j _ _ _ y hy hw2 ?_
      refine .eff i _ _ _ x res rows' hx he (by rw [wantA_put a3]; exact hw) (by rw [rows_put]; exact hs.congr fun z hz => ev_put a3 z hz) hg ?_
      rw [rows_put] at h
      rw [← put_put a2 st.rows]; exact h
  | skip _ _ _ _ o ho hw h =>
    rw [hx] at ho; cases ho
    cases h with
    | mv _ _ _ _ o2 res2 m2 ho2 hk2 hw2 hs2 hd2 h =>
      rw [hy] at ho2; cases ho2
      rw [wantA_put a1] at hw2
      rw [rows_put] at hd2 h
      refine .mv j _ _ _ y res2 m2 hy hk2 hw2 (fun rows hg => (hs2 rows hg).congr fun z hz => (ev_put a1 z hz).symm) hd2 ?_
      refine .skip i _ _ _ x hx (by rw [wantA_put a3]; exact hw) ?_
      rw [rows_put]
      rw [← put_put a2 (m2.act st.rows)]; exact h
    | eff _ _ _ _ o2 res2 rows2 ho2 he2 hw2 hs2 hg2 h =>
      rw [hy] at ho2; cases ho2
      rw [wantA_put a1] at hw2
      rw [rows_put] at hs2
      refine .eff j _ _ _ y res2 rows2 hy he2 hw2 (hs2.congr fun z hz => (ev_put a1 z hz).symm) hg2 ?_
      refine .skip i _ _ _ x hx (by rw [wantA_put a3]; exact hw) ?_
      rw [rows_put]
      rw [← put_put a2 rows2]; exact h
    | skip _ _ _ _ o2 ho2 hw2 h =>
      rw [hy] at ho2; cases ho2
      rw [wantA_put a1] at hw2
      refine .skip j _ _ _ y hy hw2 ?_
      refine .skip i _ _ _ x hx (by rw [wantA_put a3]; exact hw) ?_
      rw [rows_put] at h ⊢
      rw [← put_put a2 st.rows]; exact h

theorem DerB.front {K : Oper → Nat} {P : Program} {ops : Array Oper} {R : (Nat → List AVal) → List Row} {n0 : Nat} {i : Nat} {y : Oper} (hy : ops[i]? = some y) : ∀ (pre : List Nat) {post : List Nat} {st st' : St}, GZ R n0 st.rows →
    (∀ j ∈ pre, ∃ x, ops[j]? = some x ∧ apartK K ops x y = true) → DerB P K ops R n0 (pre ++ i :: post) st st' → DerB P K ops R n0 (i :: (pre ++ post)) st st'
  | [], _, _, _, _, _, h => h
  | j :: pre, post, st, st', hG, hap, h => by
    obtain ⟨x, hx, hxy⟩ := hap j (by simp)
    have hap' : ∀ k ∈ pre, ∃ x, ops[k]? = some x ∧ apartK K ops x y = true := fun k hk => hap k (by simp [hk])
    refine DerB.swap hx hy hxy hG ?_
    cases h with
    | mv _ _ _ _ o res m ho hk hw hs hd h => exact .mv j _ _ _ o res m ho hk hw hs hd (DerB.front hy pre (by rw [rows_put]; exact Mv.Gact hd) hap' h)
    | eff _ _ _ _ o res rows' ho he hw hs hg h => exact .eff j _ _ _ o res rows' ho he hw hs hg (DerB.front hy pre (by rw [rows_put]; exact hg) hap' h)
    | skip _ _ _ _ o ho hw h => exact .skip j _ _ _ o ho hw (DerB.front hy pre (by rw [rows_put]; exact hG) hap' h)

def drawOkK (K : Oper → Nat) (ops : List Oper) : Bool :=
  let b := masks ops []
  (List.range ops.length).all fun j => match ops[j]? with
    | none => false
    | some y => y.after.toList.all (fun e => !Region.binds .any e || decide (e.on < j)) && (List.range j).all fun i => match ops[i]? with
      | none => false
      | some x => (b.getD j 0).testBit i || apartK K ops.toArray x y
theorem drawOkK_spec {K : Oper → Nat} {ops : List Oper} (h : drawOkK K ops = true) : ∀ j y, ops[j]? = some y → (∀ e ∈ y.after.toList, Region.binds .any e = true → e.on < j) ∧
    ∀ i x, i < j → ops[i]? = some x → ((masks ops []).getD j 0).testBit i = true ∨ apartK K ops.toArray x y = true := by
  intro j y hy
  simp only [drawOkK, List.all_eq_true, List.mem_range] at h
  have hj := h j (lt_of_get hy)
  rw [hy] at hj
  simp only [Bool.and_eq_true, List.all_eq_true, List.mem_range] at hj
  refine ⟨fun e he hb => ?_, fun i x hi hx => ?_⟩
  · have := hj.1 e he
    simp only [hb, Bool.not_true, Bool.false_or, decide_eq_true_eq] at this
    exact this
  · have := hj.2 i hi
    rw [hx] at this
    simpa using this
theorem DerB.any {K : Oper → Nat} {P : Program} {ops : List Oper} {R : (Nat → List AVal) → List Row} {n0 : Nat} (hok : drawOkK K ops = true) {st' : St} : ∀ (fuel : Nat) (listed : Array Bool) (st : St), (left ops.length listed).length = fuel → listed.size = ops.length →
    Closed ops listed → GZ R n0 st.rows → DerB P K ops.toArray R n0 (left ops.length listed) st st' → ∀ {ds : List Deferred} {X : Nat → Nat → Prop} {m : Nat → Option Nat} {w : World} {a : Act} {Q : Exit → Act → World → Prop} {rd : Option Nat}, RelSt ds X st m w a →
    (∀ m' w' a', RelSt ds X st' m' w' a' → st.rows.length ≤ st'.rows.length → Evo st.rows.length ⟨st.rows, m, w, X⟩ ⟨st'.rows, m', w', X⟩ → Q .normal a' w') → wpAnyIn (Fw rd) 0 P .any ops.toArray Q fuel listed a w
  | 0, listed, st, hf, hsz, hcl, hG, h, ds, X, m, w, a, Q, rd, hr, hq => by
    have hnil : left ops.length listed = [] := List.eq_nil_of_length_eq_zero hf
    rw [hnil] at h
    refine ⟨?_, ?_⟩
    · unfold Region.ready
      rw [List.filter_eq_nil_iff]
      intro i hi
      have : ∀ i ∈ List.range ops.length, ¬ (!listed.getD i true) = true := List.filter_eq_nil_iff.1 hnil
      have := this i (by simpa using hi)
      simp only [Bool.not_eq_true, Bool.not_eq_false'] at this
      simp [this]
    · cases h
      exact hq m w a hr (Nat.le_refl _) (Evo.refl _ _)
  | fuel + 1, listed, st, hf, hsz, hcl, hG, h, ds, X, m, w, a, Q, rd, hr, hq => by
    have hpair : (left ops.length listed).Pairwise (· < ·) := List.Pairwise.filter _ (List.pairwise_lt_range)
    refine ⟨fun hnil => ?_, fun i hi => ?_⟩
    · exfalso
      match hL : left ops.length listed, hf with
      | i :: tl, _ =>
        have hmem : i ∈ left ops.length listed := by rw [hL]; simp
        simp only [left, List.mem_filter, List.mem_range] at hmem
        have hio : ops[i]? = some ops[i] := by simp [hmem.1]
        have hmin : ∀ k, k < i → listed.getD k false = true := by
          intro k hk
          have hks : k < listed.size := by omega
          by_cases hkl : listed.getD k true = true
          · simpa [Array.getD, hks] using hkl
          · exfalso
            have : k ∈ left ops.length listed := by
              simp only [left, List.mem_filter, List.mem_range]; exact ⟨by omega, by simpa using hkl⟩
            rw [hL] at this hpair
            rcases List.mem_cons.1 this with h1 | h1
            · omega
            · have := (List.pairwise_cons.1 hpair).1 k h1; omega
        have : i ∈ Region.ready .any ops.toArray listed := by
          unfold Region.ready
          simp only [List.mem_filter, List.mem_range, List.size_toArray]
          refine ⟨hmem.1, ?_⟩
          simp only [List.getElem?_toArray, hio, Option.map_some, Option.getD_some, Bool.and_eq_true]
          refine ⟨hmem.2, ?_⟩
          rw [Array.all_eq_true']
          intro e he
          cases hb : Region.binds .any e with
          | false => simp
          | true =>
            have := (drawOkK_spec hok i _ hio).1 e (by simpa using he) hb
            simp only [Bool.not_true, Bool.false_or]
            exact hmin _ this
        rw [hnil] at this
        simp at this
    · unfold Region.ready at hi
      simp only [List.mem_filter, List.mem_range, List.size_toArray] at hi
      obtain ⟨hilt, hi⟩ := hi
      have hio : ops[i]? = some ops[i] := by simp [hilt]
      simp only [List.getElem?_toArray, hio, Option.map_some, Option.getD_some, Bool.and_eq_true] at hi
      obtain ⟨hil, hie⟩ := hi
      rw [Array.all_eq_true'] at hie
      have hmem : i ∈ left ops.length listed := by
        simp only [left, List.mem_filter, List.mem_range]; exact ⟨hilt, hil⟩
      obtain ⟨pre, post, hL⟩ := List.append_of_mem hmem
      have hdir : ∀ e ∈ ops[i].after.toList, Region.binds .any e = true → listed.getD e.on false = true := by
        intro e he hb
        have := hie e (by simpa using he)
        simpa [hb] using this
      have hpre : ∀ j ∈ pre, ∃ x, ops.toArray[j]? = some x ∧ apartK K ops.toArray x ops[i] = true := by
        intro j hj
        have hjm : j ∈ left ops.length listed := by rw [hL]; simp [hj]
        simp only [left, List.mem_filter, List.mem_range] at hjm
        have hji : j < i := by
          rw [hL] at hpair
          exact (List.pairwise_append.1 hpair).2.2 j hj i (by simp)
        have hjo : ops[j]? = some ops[j] := by simp [hjm.1]
        refine ⟨ops[j], by simp [hjo], ?_⟩
        rcases (drawOkK_spec hok i _ hio).2 j _ hji hjo with h1 | h1
        · have := hcl.mask hsz i i (Nat.le_refl _) _ hio hdir j h1
          have hjs : j < listed.size := by omega
          have h2 := hjm.2
          simp [Array.getD, hjs] at this h2
          simp [this] at h2
        · exact h1
      have hfront := DerB.front (i := i) (y := ops[i]) (by simp [hio]) pre hG hpre (hL ▸ h)
      have hils : i < listed.size := by omega
      have hnext : left ops.length (listed.setIfInBounds i true) = pre ++ post := by
        have e1 : left ops.length (listed.setIfInBounds i true) = (left ops.length listed).filter (fun j => j != i) := by
          simp only [left, List.filter_filter]
          apply List.filter_congr
          intro j hj
          have hjs : j < listed.size := by simp at hj; omega
          by_cases hji : j = i
          · subst hji; simp [Array.getD, hjs]
          · have : i ≠ j := fun e => hji e.symm
            simp [Array.getD, hjs, Array.getElem_setIfInBounds, this, hji]
        rw [e1, hL]
        rw [hL] at hpair
        have hp := List.pairwise_append.1 hpair
        have hp2 := List.pairwise_cons.1 hp.2.1
        simp only [List.filter_append, List.filter_cons, bne_self_eq_false]
        have f1 : pre.filter (fun j => j != i) = pre := List.filter_eq_self.2 fun j hj => by have := hp.2.2 j hj i (by simp); simp; omega
        have f2 : post.filter (fun j => j != i) = post := List.filter_eq_self.2 fun j hj => by have := hp2.1 j hj; simp; omega
        rw [f1, f2]; simp
      have hlen : (pre ++ post).length = fuel := by
        rw [hL] at hf; simp at hf ⊢; omega
      have hcl' : Closed ops (listed.setIfInBounds i true) := by
        intro j o ho hj e he hb
        have hgrow : ∀ k, listed.getD k false = true → (listed.setIfInBounds i true).getD k false = true := by
          intro k hk
          rcases Nat.lt_or_ge k listed.size with hks | hks
          · by_cases hki : k = i
            · subst hki; simp [Array.getD, hks]
            · have : i ≠ k := fun e => hki e.symm
              simp [Array.getD, hks] at hk
              simp [Array.getD, hks, Array.getElem_setIfInBounds, this, hk]
          · simp [Array.getD, Nat.not_lt.2 hks] at hk
        apply hgrow
        by_cases hji : j = i
        · subst hji; rw [hio] at ho; cases ho; exact hdir e he hb
        · refine hcl j o ho ?_ e he hb
          have hjs : j < listed.size := by rw [hsz]; exact lt_of_get ho
          have : i ≠ j := fun e => hji e.symm
          simpa [Array.getD, hjs, Array.getElem_setIfInBounds, this] using hj
      unfold wpOpIn
      rw [show ops.toArray[i]? = some ops[i] by simp [hio]]
      simp only []
      cases hfront with
      | mv _ _ _ _ o res mm ho hk hw hs hd h =>
        rw [show ops.toArray[i]? = some ops[i] by simp [hio]] at ho; cases ho
        rw [if_pos (wantA_spec hr hw)]
        refine hs _ hd X m w a hr.rel (fun x _ => hr.eval x) _ _ (fun v m' w' h1 h2 h3 h4 => ?_) rd
        have hput := hr.put h1 h4 ops[i].dst h2
        refine DerB.any hok fuel _ _ (by rw [hnext]; exact hlen) (by simpa using hsz) hcl' (by rw [rows_put]; exact Mv.Gact hd) (by rw [hnext]; exact h) hput fun m2 w2 a2 k1 k2 k3 => ?_
        rw [rows_put] at k2 k3
        exact hq _ _ _ k1 (Nat.le_trans h3 k2) (h4.trans (k3.mono h3))
      | eff _ _ _ _ o res rows' ho he hw hs hg h =>
        rw [show ops.toArray[i]? = some ops[i] by simp [hio]] at ho; cases ho
        rw [if_pos (wantA_spec hr hw)]
        refine hs X m w a hr.rel (fun x _ => hr.eval x) _ _ (fun v m' w' h1 h2 h3 h4 => ?_) rd
        have hput := hr.put h1 h4 ops[i].dst h2
        refine DerB.any hok fuel _ _ (by rw [hnext]; exact hlen) (by simpa using hsz) hcl' (by rw [rows_put]; exact hg) (by rw [hnext]; exact h) hput fun m2 w2 a2 k1 k2 k3 => ?_
        rw [rows_put] at k2 k3
        exact hq _ _ _ k1 (Nat.le_trans h3 k2) (h4.trans (k3.mono h3))
      | skip _ _ _ _ o ho hw h =>
        rw [show ops.toArray[i]? = some ops[i] by simp [hio]] at ho; cases ho
        rw [if_neg (by rw [wantA_spec hr hw]; simp)]
        refine ⟨fun _ _ => trivial, ?_⟩
        have hput := hr.put hr.rel (Evo.refl _ _) ops[i].dst (V.undefTup _)
        refine DerB.any hok fuel _ _ (by rw [hnext]; exact hlen) (by simpa using hsz) hcl' (by rw [rows_put]; exact hG) (by rw [hnext]; exact h) hput fun m2 w2 a2 k1 k2 k3 => ?_
        rw [rows_put] at k2 k3
        exact hq _ _ _ k1 k2 k3

theorem AWP.drawB0 {K : Oper → Nat} {P : Program} {N : Nat} {Q : Exit → St → Prop} {st st' : St} {id : Nat} {ops : List Oper} (hm : P.follows .mixedOrders = true) (R : (Nat → List AVal) → List Row) (n0 : Nat) (hG : GZ R n0 st.rows) (hok : drawOkK K ops = true)
    (h : DerB P K ops.toArray R n0 (List.range ops.length) st st') (hq : Q .normal st') : AWP P N (.region id ops.toArray true) Q st := by
  intro hN rd ds X m w a hr
  obtain ⟨hrel, hev⟩ := same_heap (E := ⟨st.rows, m, w, X⟩) hr.rel (w' := { w with drawn := w.drawn + 1 }) rfl rfl rfl rfl st.rows.length
  have hr' : RelSt ds X st m { w with drawn := w.drawn + 1 } a := ⟨hrel, hr.len, fun i hi => hev.val _ _ (hr.regs i hi) (hr.regs i hi).refLt, hr.defers⟩
  have hleft : left ops.length (Array.replicate ops.length false) = List.range ops.length := by
    unfold left
    rw [List.filter_eq_self]
    intro i hi
    simp at hi
    simp [Array.getD, hi]
  refine wpIn_region_any hm ?_
  have := DerB.any (P := P) (rd := rd) hok (st' := st') ops.length (Array.replicate ops.length false) st (by rw [hleft]; simp) (by simp) ?_ hG (by rw [hleft]; exact h) hr'
    (Q := fun e a' w' => ∃ st' m', Q e st' ∧ N ≤ st'.rows.length ∧ RelSt ds X st' m' w' a' ∧ Evo N ⟨st.rows, m, w, X⟩ ⟨st'.rows, m', w', X⟩)
    (fun m' w' a' h1 h2 h3 => ⟨st', m', hq, Nat.le_trans hN h2, h1, (hev.mono hN).trans (h3.mono hN)⟩)
  · simpa using this
  · intro j o ho hj
    have : j < ops.length := lt_of_get ho
    simp [Array.getD, this] at hj
end Go.Abs

set_option linter.unusedVariables false
set_option linter.unusedSimpArgs false
namespace Go.Abs
open Go
inductive DerBL (P : Program) (K : Oper → Nat) (ops : Array Oper) (R : (Nat → List AVal) → List Row) (n0 : Nat) : List Oper → St → St → Prop
  | nil (st : St) : DerBL P K ops R n0 [] st st
  | mv (o : Oper) (rest : List Oper) (st st' : St) (res : AVal) (m : Mv) (hk : m.kind ≤ K o) (hw : wantA ops o st.regs = some true)
      (hs : ∀ rows, m.D R n0 rows → OpS P o (ev st.regs) rows res (m.act rows)) (hd : m.D R n0 st.rows) (h : DerBL P K ops R n0 rest (st.put o.dst res (m.act st.rows)) st') : DerBL P K ops R n0 (o :: rest) st st'
  | eff (o : Oper) (rest : List Oper) (st st' : St) (res : AVal) (rows' : List Row) (he : K o = 3) (hw : wantA ops o st.regs = some true)
      (hs : OpS P o (ev st.regs) st.rows res rows') (hg : GZ R n0 rows') (h : DerBL P K ops R n0 rest (st.put o.dst res rows') st') : DerBL P K ops R n0 (o :: rest) st st'
  | skip (o : Oper) (rest : List Oper) (st st' : St) (hw : wantA ops o st.regs = some false)
      (h : DerBL P K ops R n0 rest (st.put o.dst (.tup []) st.rows) st') : DerBL P K ops R n0 (o :: rest) st st'
theorem DerBL.der {K : Oper → Nat} {P : Program} {ops : Array Oper} {R : (Nat → List AVal) → List Row} {n0 : Nat} : ∀ {l : List Oper} {st st' : St} (k : Nat), (∀ j, l[j]? = ops[k + j]?) → DerBL P K ops R n0 l st st' → DerB P K ops R n0 (List.range' k l.length) st st'
  | [], st, st', k, _, h => by cases h; exact .nil _
  | o :: l, st, st', k, hk, h => by
    have h0 : ops[k]? = some o := by simpa using (hk 0).symm
    have hk' : ∀ j, l[j]? = ops[k + 1 + j]? := fun j => by have := hk (j + 1); simpa [Nat.add_assoc, Nat.add_comm 1 j] using this
    rw [List.length_cons, List.range'_succ]
    cases h with
    | mv _ _ _ _ res m hk1 hw hs hd h => exact .mv k _ _ _ o res m h0 hk1 hw hs hd (DerBL.der (k + 1) hk' h)
    | eff _ _ _ _ res rows' he hw hs hg h => exact .eff k _ _ _ o res rows' h0 he hw hs hg (DerBL.der (k + 1) hk' h)
    | skip _ _ _ _ hw h => exact .skip k _ _ _ o h0 hw (DerBL.der (k + 1) hk' h)
def cellsAt (rows : List Row) (i : Nat) : List AVal := (rows.getD i ub).cells
/-- A region in which rows come into being in any order, and some of the old ones are stored into. -/
def DerZ (P : Program) (K0 : Oper → Nat) (ops : Array Oper) (R : (Nat → List AVal) → List Row) (l : List Oper) (st : St) (K : St → Prop) (n0 : Nat) : Prop :=
  GZ R n0 st.rows → ∃ st', DerBL P K0 ops R n0 l st st' ∧ K st'
theorem reserve_weak (N : Nat) : ∀ (k : Nat) (st : St), Weak N st ⟨st.regs, st.rows ++ List.replicate k ub⟩
  | 0, st => by
    intro hN
    refine ⟨by simpa using hN, fun ds X m w a ha => ⟨m, ?_, ?_⟩⟩
    · simpa using ha
    · simpa using Evo.refl N _
  | k + 1, st => by
    intro hN
    obtain ⟨h1, h2⟩ := reserve_weak N k ⟨st.regs, st.rows ++ [ub]⟩ (by simp; omega)
    refine ⟨by simp; omega, fun ds X m w a ha => ?_⟩
    obtain ⟨k1, k2⟩ := reserve_step ha.rel
    have hr : RelSt ds X ⟨st.regs, st.rows ++ [ub]⟩ (fun i => if i = st.rows.length then none else m i) w a :=
      ⟨k1, ha.len, fun i hi => k2.val _ _ (ha.regs i hi) (ha.regs i hi).refLt, ha.defers⟩
    obtain ⟨m', e1, e2⟩ := h2 ds X _ w a hr
    refine ⟨m', ?_, (k2.mono hN).trans ?_⟩
    · have e : st.rows ++ List.replicate (k + 1) ub = st.rows ++ [ub] ++ List.replicate k ub := by simp [List.replicate_succ]
      rw [e]; exact e1
    · have e : st.rows ++ List.replicate (k + 1) ub = st.rows ++ [ub] ++ List.replicate k ub := by simp [List.replicate_succ]
      rw [e]; exact e2
theorem AWP.drawB {P : Program} {N : Nat} {Q : Exit → St → Prop} {st : St} {id : Nat} {l : List Oper} (hm : P.follows .mixedOrders = true) (K0 : Oper → Nat) (k nR : Nat) (R : (Nat → List AVal) → List Row) (st1 : St) (h1 : (⟨st.regs, st.rows ++ List.replicate k ub⟩ : St) = st1) (hR : R (cellsAt st.rows) = st.rows ∧ st.rows.length = nR) (hok : drawOkK K0 l = true)
    (h : DerZ P K0 l.toArray R l st1 (Q .normal) (nR + k)) : AWP P N (.region id l.toArray true) Q st := by
  subst h1
  refine AWP.weaken (reserve_weak N k st) ?_
  obtain ⟨hR, rfl⟩ := hR
  have hg : GZ R (st.rows.length + k) (st.rows ++ List.replicate k ub) := ⟨⟨cellsAt st.rows, _, by rw [hR]⟩, by simp⟩
  obtain ⟨st', h1, h2⟩ := h hg
  refine AWP.drawB0 hm R (st.rows.length + k) hg hok ?_ h2
  have := h1.der 0 (fun j => by simp)
  rw [List.range_eq_range']
  simpa using this
theorem DerZ.nil {K0 : Oper → Nat} {n0 : Nat} {P : Program} {ops : Array Oper} {R : (Nat → List AVal) → List Row} {st : St} {K : St → Prop} (h : K st) : DerZ P K0 ops R [] st K n0 := fun _ => ⟨st, .nil _, h⟩
theorem of_e3 {k n0 m : Nat} (h : (k == 3 && Nat.ble n0 m) = true) : k = 3 ∧ n0 ≤ m := by
  simp only [Bool.and_eq_true, beq_iff_eq] at h
  exact ⟨h.1, Nat.le_of_ble_eq_true h.2⟩
theorem DerZ.quiet {K0 : Oper → Nat} {n0 : Nat} {P : Program} {ops : Array Oper} {R : (Nat → List AVal) → List Row} {o : Oper} {l : List Oper} {st : St} {K : St → Prop} (c : Prop) (v : AVal) (st1 : St)
    (h : ∀ x ext, sop P o (ev st.regs) (R x ++ ext) = some ⟨c, v, R x ++ ext⟩) (hw : wantA ops o st.regs = some true ∧ st.put o.dst v st.rows = st1) (hc : c) (hk : DerZ P K0 ops R l st1 K n0) : DerZ P K0 ops R (o :: l) st K n0 := by
  obtain ⟨h1, rfl⟩ := hw
  intro hG
  obtain ⟨st', k1, k2⟩ := hk (by rw [rows_put]; exact hG)
  exact ⟨st', .mv o l _ _ v .id (Nat.zero_le _) h1 (fun rows ⟨⟨x, ext, he⟩, _⟩ => by subst he; exact sop_spec (h x ext) hc) hG k1, k2⟩
theorem DerZ.eff {K0 : Oper → Nat} {n0 : Nat} {P : Program} {ops : Array Oper} {R : (Nat → List AVal) → List Row} {o : Oper} {l : List Oper} {st : St} {K : St → Prop} (nR : Nat) (c : Prop) (v : AVal) (rows' : List Row) (st1 : St)
    (h : sop P o (ev st.regs) st.rows = some ⟨c, v, rows'⟩) (hw : ((K0 o == 3 && Nat.ble n0 (rows').length) = true ∧ R (cellsAt (rows')) ++ List.drop nR (rows') = rows') ∧ wantA ops o st.regs = some true ∧ st.put o.dst v rows' = st1) (hc : c) (hk : DerZ P K0 ops R l st1 K n0) : DerZ P K0 ops R (o :: l) st K n0 := by
  obtain ⟨h0, h1, rfl⟩ := hw
  intro hG
  have hg : GZ R n0 rows' := ⟨⟨_, _, h0.2.symm⟩, (of_e3 h0.1).2⟩
  obtain ⟨st', k1, k2⟩ := hk (by rw [rows_put]; exact hg)
  exact ⟨st', .eff o l _ _ v _ (of_e3 h0.1).1 h1 (sop_spec h hc) hg k1, k2⟩
theorem DerZ.skip {K0 : Oper → Nat} {n0 : Nat} {P : Program} {ops : Array Oper} {R : (Nat → List AVal) → List Row} {o : Oper} {l : List Oper} {st : St} {K : St → Prop} (st1 : St)
    (hw : wantA ops o st.regs = some false ∧ st.put o.dst (.tup []) st.rows = st1) (hk : DerZ P K0 ops R l st1 K n0) : DerZ P K0 ops R (o :: l) st K n0 := by
  obtain ⟨h1, rfl⟩ := hw
  intro hG
  obtain ⟨st', k1, k2⟩ := hk (by rw [rows_put]; exact hG)
  exact ⟨st', .skip o l _ _ h1 k1, k2⟩
/-- A variable that comes into being: its cells, and their size. -/
def birthA (P : Program) (o : Oper) (ρ : Operand → AVal) : Option (List AVal × Nat) :=
  match o.op with
  | .alloc e => match zeroA P e, eszOf P e with
    | some z, some s => match z.cellsA with
      | some cs => if z.data = true then some (cs, s) else none
      | none => none
    | _, _ => none
  | .box e x => match (ρ x).cellsA, eszOf P e with
    | some cs, some s => if (ρ x).data = true then some (cs, s) else none
    | _, _ => none
  | _ => none
theorem DerZ.preAux {K0 : Oper → Nat} {n0 : Nat} {P : Program} {ops : Array Oper} {R : (Nat → List AVal) → List Row} {K : St → Prop} {l2 : List Oper} : ∀ (l1 : List Oper) (st : St) (vals regs' : List AVal),
    (∀ x ext, ∃ c : Prop, c ∧ runQ P ops (R x ++ ext) l1 st.regs = some (c, regs', vals.map fun v => (v, R x ++ ext))) → DerZ P K0 ops R l2 ⟨regs', st.rows⟩ K n0 → DerZ P K0 ops R (l1 ++ l2) st K n0
  | [], st, vals, regs', h, hk => by
    obtain ⟨c, _, h1⟩ := h (fun _ => []) []
    simp only [runQ, Option.some.injEq, Prod.mk.injEq] at h1
    obtain ⟨_, h2, _⟩ := h1
    subst h2
    exact hk
  | o :: l, st, vals, regs', h, hk => by
    cases hw : wantA ops o st.regs with
    | none =>
      obtain ⟨c, _, h1⟩ := h (fun _ => []) []
      simp [runQ, hw] at h1
    | some b =>
      cases b with
      | false =>
        refine DerZ.skip _ ⟨hw, rfl⟩ ?_
        refine DerZ.preAux l _ vals regs' (fun x ext => ?_) ?_
        · obtain ⟨c, hc, h1⟩ := h x ext
          simp only [runQ, hw] at h1
          rw [put_regs] at h1
          exact ⟨c, hc, h1⟩
        · rw [put_rows]; exact hk
      | true =>
        have step : ∀ x ext, ∃ q c, sop P o (ev st.regs) (R x ++ ext) = some q ∧ q.ok ∧ c ∧ ∃ L, (q.v, q.rows) :: L = vals.map (fun v => (v, R x ++ ext)) ∧ runQ P ops (R x ++ ext) l (st.put o.dst q.v st.rows).regs = some (c, regs', L) := by
          intro x ext
          obtain ⟨c, hc, h1⟩ := h x ext
          simp only [runQ, hw] at h1
          split at h1
          · rename_i q hq
            split at h1
            · rename_i c2 r L h2
              simp only [Option.some.injEq, Prod.mk.injEq] at h1
              obtain ⟨rfl, rfl, h3⟩ := h1
              rw [put_regs] at h2
              exact ⟨q, c2, hq, hc.1, hc.2, L, h3, h2⟩
            · simp at h1
          · simp at h1
        cases vals with
        | nil =>
          obtain ⟨q, c, _, _, _, L, h3, _⟩ := step (fun _ => []) []
          simp at h3
        | cons v vals =>
          have hk2 : DerZ P K0 ops R (l ++ l2) (st.put o.dst v st.rows) K n0 := by
            refine DerZ.preAux l _ vals regs' (fun x ext => ?_) (by rw [put_rows]; exact hk)
            obtain ⟨q, c, _, _, hc, L, h3, h4⟩ := step x ext
            simp only [List.map_cons, List.cons.injEq, Prod.mk.injEq] at h3
            obtain ⟨⟨rfl, _⟩, rfl⟩ := h3
            exact ⟨c, hc, h4⟩
          intro hG
          obtain ⟨st', k1, k2⟩ := hk2 (by rw [rows_put]; exact hG)
          refine ⟨st', .mv o _ _ _ v .id (Nat.zero_le _) hw (fun rows ⟨⟨x, ext, he⟩, _⟩ => ?_) hG k1, k2⟩
          subst he
          obtain ⟨q, c, hq, hok, _, L, h3, _⟩ := step x ext
          simp only [List.map_cons, List.cons.injEq, Prod.mk.injEq] at h3
          obtain ⟨⟨rfl, hr⟩, _⟩ := h3
          have := sop_spec hq hok
          rwa [hr] at this
/-- The first n operations that change no rows. -/
theorem DerZ.pre {K0 : Oper → Nat} {n0 : Nat} {P : Program} {ops : Array Oper} {R : (Nat → List AVal) → List Row} {l : List Oper} {st : St} {K : St → Prop} (n : Nat) (c : Prop) (vals : List AVal) (st1 : St)
    (h : ∀ x ext, runQ P ops (R x ++ ext) (l.take n) st.regs = some (c, st1.regs, vals.map fun v => (v, R x ++ ext))) (hr : st1.rows = st.rows) (hc : c) (hk : DerZ P K0 ops R (l.drop n) st1 K n0) : DerZ P K0 ops R l st K n0 := by
  have := DerZ.preAux (K0 := K0) (K := K) (l2 := l.drop n) (l.take n) st vals st1.regs (fun x ext => ⟨c, hc, h x ext⟩) (by rw [← hr]; exact hk)
  rwa [List.take_append_drop] at this
end Go.Abs

set_option linter.unusedVariables false
set_option linter.unusedSimpArgs false
namespace Go.Abs
open Go
mutual
/-- Whether a slice is nil is forgotten, in the cells of slices too. -/
def AVal.deepA : AVal → AVal
  | .sc v => .sc v
  | .sl c n _ => .sl (deepAll c) n .any
  | .agg cs => .agg (deepAll cs)
  | .tup cs => .tup (deepAll cs)
  | .dptr cs => .dptr (deepAll cs)
  | .fn f cs => .fn f (deepAll cs)
  | .ifc t v => .ifc t (v.deepA)
  | .ptr id o => .ptr id o
  | .row id o n => .row id o n
  | .mp id => .mp id
  | .undef => .undef
def deepAll : List AVal → List AVal
  | [] => []
  | x :: r => x.deepA :: deepAll r
end
theorem deepAll_length (l : List AVal) : (deepAll l).length = l.length := by
  induction l with
  | nil => rfl
  | cons x r ih => simp only [deepAll, List.length_cons, ih]
theorem deepAll_getD (l : List AVal) (i : Nat) : (deepAll l).getD i .undef = (l.getD i .undef).deepA := by
  induction l generalizing i with
  | nil => simp [deepAll, AVal.deepA]
  | cons x r ih =>
    cases i with
    | zero => simp [deepAll]
    | succ i => simpa [deepAll] using ih i
mutual
theorem AVal.deepA_data : ∀ x : AVal, x.deepA.data = x.data
  | .sc _ => rfl
  | .sl _ _ _ => rfl
  | .agg cs => by simp only [AVal.deepA, AVal.data]; exact deepAll_data cs
  | .tup cs => by simp only [AVal.deepA, AVal.data]; exact deepAll_data cs
  | .dptr _ => rfl
  | .fn _ cs => by simp only [AVal.deepA, AVal.data]; exact deepAll_data cs
  | .ifc _ v => by simp only [AVal.deepA, AVal.data]; exact AVal.deepA_data v
  | .ptr _ _ => rfl
  | .row _ _ _ => rfl
  | .mp _ => rfl
  | .undef => rfl
theorem deepAll_data : ∀ l : List AVal, dataAll (deepAll l) = dataAll l
  | [] => rfl
  | x :: r => by simp only [deepAll, dataAll, AVal.deepA_data x, deepAll_data r]
end
theorem V.deep {E : Env} {x : AVal} {v : Value} (h : V E x v) : V E x.deepA v := by
  induction h with
  | undef v => exact .undef v
  | sc v h => exact .sc v h
  | slnil k hk => exact .slnil .any (by simp)
  | slz k hk a => exact .slz .any (by simp) a
  | sl cells n k b o cap vs hk hn hd hv hm ih =>
    refine .sl _ n .any b o cap vs (.inl rfl) hn (by rw [deepAll_data]; exact hd) (fun i hi => ?_) (fun i hi => ?_)
    · rw [deepAll_getD]; exact ih i (by rwa [deepAll_length] at hi)
    · exact hm i (by rwa [deepAll_length] at hi)
  | agg cells vs hl hv ih => exact .agg _ vs (by rw [deepAll_length]; exact hl) fun i hi => by rw [deepAll_getD]; exact ih i (by rwa [deepAll_length] at hi)
  | tup cells vs hl hv ih => exact .tup _ vs (by rw [deepAll_length]; exact hl) fun i hi => by rw [deepAll_getD]; exact ih i (by rwa [deepAll_length] at hi)
  | ptr id off r b hr hs hm => exact .ptr id off r b hr hs hm
  | ptrLost id off r v hr hs hu => exact .ptrLost id off r v hr hs hu
  | dptr cells b o vs hd hv hm ih =>
    refine .dptr _ b o vs (by rw [deepAll_data]; exact hd) (fun i hi => ?_) (fun i hi => ?_)
    · rw [deepAll_getD]; exact ih i (by rwa [deepAll_length] at hi)
    · exact hm i (by rwa [deepAll_length] at hi)
  | rowF id off n b cap r hr hs hm hn ho hc => exact .rowF id off n b cap r hr hs hm hn ho hc
  | rowLost id off n r v hr hs h0 hv => exact .rowLost id off n r v hr hs h0 hv
  | rowV id r base hr hs => exact .rowV id r base hr hs
  | rowG id off n b o cap r vs hr hs hn ho hd hv hm he ih => exact .rowG id off n b o cap r vs hr hs hn ho hd hv hm he
  | fn f cap vs hl hv ih => exact .fn f _ vs (by rw [deepAll_length]; exact hl) fun i hi => by rw [deepAll_getD]; exact ih i (by rwa [deepAll_length] at hi)
  | ifc t x v h ih => exact .ifc t _ v ih
  | mp id r b hr hs hm => exact .mp id r b hr hs hm
/-- What holds whatever is nil, inside too, holds. -/
theorem EvD.deep {P : Program} {f : FuncId} {args args' : List AVal} {r : AVal} (h : EvD P f args r) (he : deepAll args' = args) : EvD P f args' r := by
  subst he
  intro rows X m w vs hrel hv
  exact h rows X m w vs hrel ⟨by rw [deepAll_length]; exact hv.1, fun i hi => by rw [deepAll_getD]; exact (hv.2 i (by rwa [deepAll_length] at hi)).deep⟩
/-- Registers of which nobody asks any more. -/
def killL : List Nat → List AVal → List AVal
  | [], r => r
  | i :: l, r => killL l (r.set i .undef)
theorem killL_length : ∀ (l : List Nat) (r : List AVal), (killL l r).length = r.length
  | [], r => rfl
  | i :: l, r => by rw [killL, killL_length, List.length_set]
theorem killL_get : ∀ (l : List Nat) (r : List AVal) (i : Nat), (killL l r).getD i .undef = r.getD i .undef ∨ (killL l r).getD i .undef = .undef
  | [], r, i => .inl rfl
  | k :: l, r, i => by
    rcases killL_get l (r.set k .undef) i with h | h
    · rw [killL, h]
      by_cases e : k = i
      · subst e
        by_cases hk : k < r.length
        · exact .inr (by simp [List.getD_eq_getElem?_getD, hk])
        · exact .inr (by simp [List.getD_eq_getElem?_getD, hk])
      · exact .inl (by simp [List.getD_eq_getElem?_getD, List.getElem?_set, e])
    · exact .inr (by rw [killL]; exact h)
theorem AWP.kill {P : Program} {N : Nat} {c : Code} {Q : Exit → St → Prop} {st : St} (l : List Nat) (st' : St) (he : (⟨killL l st.regs, st.rows⟩ : St) = st') (h : AWP P N c Q st') : AWP P N c Q st := by
  subst he
  refine AWP.weaken ?_ h
  intro hN
  refine ⟨hN, fun ds X m w a ha => ⟨m, ⟨ha.rel, by rw [killL_length]; exact ha.len, fun i hi => ?_, ha.defers⟩, Evo.refl _ _⟩⟩
  rcases killL_get l st.regs i with h | h
  · show V _ ((killL l st.regs).getD i .undef) _
    rw [h]; exact ha.reg i
  · show V _ ((killL l st.regs).getD i .undef) _
    rw [h]; exact .undef _
end Go.Abs

set_option linter.unusedVariables false
set_option linter.unusedSimpArgs false
namespace Go.Abs
open Go
/-- How an operation moves the rows, whatever stands elsewhere. -/
inductive Mu
  | id | set (k : Nat) (r0 r : Row) | app (n : Nat) (ext : List Row) | peek (k : Nat) (r0 : Row)
def Mu.act : Mu → List Row → List Row
  | .id, l => l
  | .set k _ r, l => l.set k r
  | .app _ ext, l => l ++ ext
  | .peek _ _, l => l
def GT (R : (Nat → Row) → List Row) (rows : List Row) : Prop := ∃ x ext, rows = R x ++ ext
def Mu.D (R : (Nat → Row) → List Row) : Mu → List Row → Prop
  | .id, l => GT R l
  | .set k r0 r, l => GT R l ∧ l[k]? = some r0 ∧ (∀ x, k < (R x).length) ∧ ∀ l', GT R l' → GT R (l'.set k r)
  | .app n _, l => GT R l ∧ l.length = n
  | .peek k r0, l => GT R l ∧ l[k]? = some r0 ∧ ∀ x, k < (R x).length
/-- 0: quiet; 2: comes behind; 3: anything; 4 + k: stores into, or reads, row k alone -/
def Mu.fits : Mu → Nat → Bool
  | .id, _ => true
  | .set k _ _, n => n == 3 || n == 4 + k
  | .app _ _, n => n == 2 || n == 3
  | .peek k _, n => n == 1 || n == 3 || n == 4 + k
def clashU (a b : Nat) : Bool := (a == 2 && b == 2) || (decide (1 ≤ a) && b == 3) || (a == 3 && decide (1 ≤ b)) || (decide (4 ≤ a) && a == b) || (a == 1 && decide (4 ≤ b)) || (decide (4 ≤ a) && b == 1)
inductive DerT (P : Program) (K : Oper → Nat) (ops : Array Oper) (R : (Nat → Row) → List Row) : List Nat → St → St → Prop
  | nil (st : St) : DerT P K ops R [] st st
  | mv (i : Nat) (rest : List Nat) (st st' : St) (o : Oper) (res : AVal) (m : Mu) (ho : ops[i]? = some o) (hk : m.fits (K o) = true) (hw : wantA ops o st.regs = some true)
      (hs : ∀ rows, m.D R rows → OpS P o (ev st.regs) rows res (m.act rows)) (hd : m.D R st.rows) (h : DerT P K ops R rest (st.put o.dst res (m.act st.rows)) st') : DerT P K ops R (i :: rest) st st'
  | eff (i : Nat) (rest : List Nat) (st st' : St) (o : Oper) (res : AVal) (rows' : List Row) (ho : ops[i]? = some o) (he : K o = 3) (hw : wantA ops o st.regs = some true)
      (hs : OpS P o (ev st.regs) st.rows res rows') (hg : GT R rows') (h : DerT P K ops R rest (st.put o.dst res rows') st') : DerT P K ops R (i :: rest) st st'
  | skip (i : Nat) (rest : List Nat) (st st' : St) (o : Oper) (ho : ops[i]? = some o) (hw : wantA ops o st.regs = some false)
      (h : DerT P K ops R rest (st.put o.dst (.tup []) st.rows) st') : DerT P K ops R (i :: rest) st st'

def apartU (K : Oper → Nat) (ops : Array Oper) (x y : Oper) : Bool :=
  (match x.dst with | some d => !(namesOf ops y).contains d && y.dst != some d | none => true) &&
  (match y.dst with | some d => !(namesOf ops x).contains d | none => true) && !clashU (K x) (K y)
def drawOkU (K : Oper → Nat) (ops : List Oper) : Bool :=
  let b := masks ops []
  (List.range ops.length).all fun j => match ops[j]? with
    | none => false
    | some y => y.after.toList.all (fun e => !Region.binds .any e || decide (e.on < j)) && (List.range j).all fun i => match ops[i]? with
      | none => false
      | some x => (b.getD j 0).testBit i || apartU K ops.toArray x y
end Go.Abs

set_option linter.unusedVariables false
set_option linter.unusedSimpArgs false
namespace Go.Abs
open Go
inductive DerTL (P : Program) (K : Oper → Nat) (ops : Array Oper) (R : (Nat → Row) → List Row) : List Oper → St → St → Prop
  | nil (st : St) : DerTL P K ops R [] st st
  | mv (o : Oper) (rest : List Oper) (st st' : St) (res : AVal) (m : Mu) (hk : m.fits (K o) = true) (hw : wantA ops o st.regs = some true)
      (hs : ∀ rows, m.D R rows → OpS P o (ev st.regs) rows res (m.act rows)) (hd : m.D R st.rows) (h : DerTL P K ops R rest (st.put o.dst res (m.act st.rows)) st') : DerTL P K ops R (o :: rest) st st'
  | eff (o : Oper) (rest : List Oper) (st st' : St) (res : AVal) (rows' : List Row) (he : K o = 3) (hw : wantA ops o st.regs = some true)
      (hs : OpS P o (ev st.regs) st.rows res rows') (hg : GT R rows') (h : DerTL P K ops R rest (st.put o.dst res rows') st') : DerTL P K ops R (o :: rest) st st'
  | skip (o : Oper) (rest : List Oper) (st st' : St) (hw : wantA ops o st.regs = some false)
      (h : DerTL P K ops R rest (st.put o.dst (.tup []) st.rows) st') : DerTL P K ops R (o :: rest) st st'
def rowAt (rows : List Row) (i : Nat) : Row := rows.getD i ub
/-- A region in which rows come into being in any order, and some of the old ones are stored into. -/
def DerU (P : Program) (K0 : Oper → Nat) (ops : Array Oper) (R : (Nat → Row) → List Row) (l : List Oper) (st : St) (K : St → Prop) : Prop :=
  GT R st.rows → ∃ st', DerTL P K0 ops R l st st' ∧ K st'
/-- what stands at one place is another one -/
def updR (x : Nat → Row) (k : Nat) (r : Row) (i : Nat) : Row := if i = k then r else x i
end Go.Abs

set_option linter.unusedVariables false
namespace Go.Abs
open Go
/-- an operation's name in a table -/
def keyW (o : Oper) : Nat := match o.op with
  | .store _ (.tmp t) _ => 1000 + t
  | _ => o.dst.getD 0
def kindOf : List (Nat × Nat) → Nat → Nat
  | [], _ => 0
  | (a, b) :: l, n => if a = n then b else kindOf l n
end Go.Abs

set_option linter.unusedVariables false
set_option linter.unusedSimpArgs false
namespace Go.Abs
open Go
/-- The state behind some operations, not written out. -/
def runS (P : Program) (ops : Array Oper) (l : List Oper) (st : St) : St := match runL P ops l st with
  | some q => q.2
  | none => st
def runC (P : Program) (ops : Array Oper) (l : List Oper) (st : St) : Option Prop := match runL P ops l st with
  | some q => some q.1
  | none => none
theorem runL_of {P : Program} {ops : Array Oper} {l : List Oper} {st : St} {c : Prop} (h : runC P ops l st = some c) : runL P ops l st = some (c, runS P ops l st) := by
  unfold runC at h
  unfold runS
  cases e : runL P ops l st with
  | none => rw [e] at h; cases h
  | some q => rw [e] at h; cases h; rfl
theorem DerQ.preI {P : Program} {ops : Array Oper} {l : List Oper} {st : St} {K : St → Prop} (n : Nat) (c : Prop) (h : runC P ops (l.take n) st = some c) (hc : c) (hk : DerQ P ops (l.drop n) (runS P ops (l.take n) st) K) : DerQ P ops l st K :=
  DerQ.pre n c _ (runL_of h) hc hk
theorem DerQ.runI {P : Program} {ops : Array Oper} {l : List Oper} {st : St} {K : St → Prop} (c : Prop) (h : runC P ops l st = some c) (hc : c) (hk : K (runS P ops l st)) : DerQ P ops l st K :=
  DerQ.run c _ (runL_of h) hc hk
def callB (P : Program) (o : Oper) (ρ : Operand → AVal) : Option (FuncId × List AVal) := match callA P o ρ with
  | some q => some (q.1, anyAll q.2)
  | none => none
theorem callB_of {P : Program} {o : Oper} {ρ : Operand → AVal} {f : FuncId} {args : List AVal} (h : callB P o ρ = some (f, args)) : ∃ args', callA P o ρ = some (f, args') ∧ anyAll args' = args := by
  unfold callB at h
  cases e : callA P o ρ with
  | none => rw [e] at h; cases h
  | some q => rw [e] at h; cases h; exact ⟨q.2, rfl, rfl⟩
def sopV (P : Program) (o : Oper) (st : St) : AVal := match sop P o (ev st.regs) st.rows with
  | some q => q.v
  | none => .undef
def sopR (P : Program) (o : Oper) (st : St) : List Row := match sop P o (ev st.regs) st.rows with
  | some q => q.rows
  | none => st.rows
def sopC (P : Program) (o : Oper) (st : St) : Option Prop := match sop P o (ev st.regs) st.rows with
  | some q => some q.ok
  | none => none
/-- what some quiet operations leave: registers, values -/
def quR (P : Program) (ops : Array Oper) (rows : List Row) (l : List Oper) (regs : List AVal) : List AVal := match runQ P ops rows l regs with
  | some q => q.2.1
  | none => regs
def quV (P : Program) (ops : Array Oper) (rows : List Row) (l : List Oper) (regs : List AVal) : List AVal := match runQ P ops rows l regs with
  | some q => q.2.2.map (·.1)
  | none => []
theorem DerQ.callDI {P : Program} {ops : Array Oper} {o : Oper} {l : List Oper} {st : St} {K : St → Prop} {f : FuncId} {args : List AVal} {r : AVal} (he : EvD P f args r) (h : wantA ops o st.regs = some true ∧ Abs.callA P o (ev st.regs) = some (f, args)) (hk : DerQ P ops l (st.put o.dst r st.rows) K) : DerQ P ops (o :: l) st K :=
  DerQ.callD he _ ⟨h.1, h.2, rfl⟩ hk
theorem DerQ.callEI {P : Program} {ops : Array Oper} {o : Oper} {l : List Oper} {st : St} {K : St → Prop} {f : FuncId} {args : List AVal} {r : AVal} (he : EvD P f args r) (h : wantA ops o st.regs = some true ∧ Abs.callB P o (ev st.regs) = some (f, args)) (hk : DerQ P ops l (st.put o.dst r st.rows) K) : DerQ P ops (o :: l) st K := by
  obtain ⟨args', h1, h2⟩ := callB_of h.2
  exact DerQ.callE he args' _ ⟨h.1, h1, h2, rfl⟩ hk
theorem DerX.callDI {P : Program} {ops : Array Oper} {o : Oper} {l : List Oper} {st : St} {K : St → Prop} {F : Oper → Bool} {R : List Row} {f : FuncId} {args : List AVal} {r : AVal} (he : EvD P f args r) (h : wantA ops o st.regs = some true ∧ Abs.callA P o (ev st.regs) = some (f, args)) (hk : DerX P F ops R l (st.put o.dst r st.rows) K) : DerX P F ops R (o :: l) st K :=
  DerX.callD he _ ⟨h.1, h.2, rfl⟩ hk
theorem DerX.callEI {P : Program} {ops : Array Oper} {o : Oper} {l : List Oper} {st : St} {K : St → Prop} {F : Oper → Bool} {R : List Row} {f : FuncId} {args : List AVal} {r : AVal} (he : EvD P f args r) (h : wantA ops o st.regs = some true ∧ Abs.callB P o (ev st.regs) = some (f, args)) (hk : DerX P F ops R l (st.put o.dst r st.rows) K) : DerX P F ops R (o :: l) st K := by
  obtain ⟨args', h1, h2⟩ := callB_of h.2
  exact DerX.callE he args' _ ⟨h.1, h1, h2, rfl⟩ hk
theorem DerX.quietI {P : Program} {ops : Array Oper} {o : Oper} {l : List Oper} {st : St} {K : St → Prop} {F : Oper → Bool} {R : List Row} (c : Prop) (h : ∀ ext, sop P o (ev st.regs) (R ++ ext) = some ⟨c, sopV P o st, R ++ ext⟩) (hw : wantA ops o st.regs = some true) (hc : c) (hk : DerX P F ops R l (st.put o.dst (sopV P o st) st.rows) K) : DerX P F ops R (o :: l) st K :=
  DerX.quiet c _ _ h ⟨hw, rfl⟩ hc hk
theorem DerX.preI {P : Program} {ops : Array Oper} {l : List Oper} {st : St} {K : St → Prop} {F : Oper → Bool} {R : List Row} (n : Nat) (c : Prop) (h : ∀ ext, runQ P ops (R ++ ext) (l.take n) st.regs = some (c, quR P ops st.rows (l.take n) st.regs, (quV P ops st.rows (l.take n) st.regs).map fun v => (v, R ++ ext))) (hc : c)
    (hk : DerX P F ops R (l.drop n) ⟨quR P ops st.rows (l.take n) st.regs, st.rows⟩ K) : DerX P F ops R l st K :=
  DerX.pre n c _ ⟨quR P ops st.rows (l.take n) st.regs, st.rows⟩ h rfl hc hk
/-- what is born -/
def bornR (P : Program) (o : Oper) (ρ : Operand → AVal) : Row := match birthA P o ρ with
  | some q => ⟨q.1, q.2, .fresh⟩
  | none => ub
def bornB (P : Program) (o : Oper) (ρ : Operand → AVal) : Bool := match birthA P o ρ with
  | some _ => true
  | none => false
end Go.Abs
