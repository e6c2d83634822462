/- Library: an abstract machine over the model, part 15. -/
import Derived.Test.YtmcjdeiicbgmhabAbs14
import Derived.Laws.IdiomStrings
import Derived.Laws.BytesString
set_option linter.unusedVariables false
set_option linter.unusedSimpArgs false
namespace Go.Abs
open Go

/-! ### against nil -/
def outB (op : BinOp) (b : Bool) : Option AVal := match op with | .eql => some (.sc (.bool b)) | .neq => some (.sc (.bool (!b))) | _ => none

theorem run_eq_of {P : Program} {op : BinOp} {t : TypeId} {ox oy : Operand} {v u : Value} {b : Bool} {w : World} {r : AVal}
    (hg' : (eqGuard op t ox oy v u).run P w = .ok () w) (he : (Op.equal t v u).run P w = .ok b w)
    (h1 : binOp .eql t v u = (do pure (.bool (← Op.equal t v u)))) (h2 : binOp .neq t v u = (do pure (.bool (!(← Op.equal t v u)))))
    (hr : outB op b = some r) (E : Env) :
    ∃ q, (do eqGuard op t ox oy v u; binOp op t v u : Sem Value).run P w = .ok q w ∧ V E r q := by
  unfold outB at hr
  split at hr
  · simp at hr; subst hr
    exact ⟨_, run_guarded hg' (by rw [h1]; simp only [Sem.run_bind, he, Result.andThen_ok, Sem.run_pure]), .sc _ rfl⟩
  · simp at hr; subst hr
    exact ⟨_, run_guarded hg' (by rw [h2]; simp only [Sem.run_bind, he, Result.andThen_ok, Sem.run_pure]), .sc _ rfl⟩
  · simp at hr

section
variable {P : Program} {t : TypeId} {w : World}
theorem equal_slice_nil {e : TypeId} (h : P.underlying t = some (.slice e)) (a : Option Addr) (n c n' c' : Nat) : (Op.equal t (.slice a n c) (.slice none n' c')).run P w = .ok a.isNone w := by
  have : ∀ d, (Op.equalIn (d + 1) t (.slice a n c) (.slice none n' c')).run P w = .ok a.isNone w := fun d => by cases a <;> simp [Op.equalIn, run_underlying h]
  exact this 9999
theorem equal_ptr_nil {e : TypeId} (h : P.underlying t = some (.pointer e)) (a : Option Addr) : (Op.equal t (.pointer a) (.pointer none)).run P w = .ok a.isNone w := by
  have : ∀ d, (Op.equalIn (d + 1) t (.pointer a) (.pointer none)).run P w = .ok a.isNone w := fun d => by cases a <;> simp [Op.equalIn, run_underlying h]
  exact this 9999
theorem equal_map_nil {k e : TypeId} (h : P.underlying t = some (.map k e)) (a : Option Nat) : (Op.equal t (.map a) (.map none)).run P w = .ok a.isNone w := by
  have : ∀ d, (Op.equalIn (d + 1) t (.map a) (.map none)).run P w = .ok a.isNone w := fun d => by cases a <;> simp [Op.equalIn, run_underlying h]
  exact this 9999
theorem equal_func_nil {ps rs : Array TypeId} {vv : Bool} (h : P.underlying t = some (.func ps rs vv)) (f : Fn) (x y : Array Value) : (Op.equal t (.func f x y) .nilFunc).run P w = .ok false w := by
  have : ∀ d, (Op.equalIn (d + 1) t (.func f x y) .nilFunc).run P w = .ok false w := fun d => by simp [Op.equalIn, run_underlying h]
  exact this 9999
theorem equal_nilfunc_nil {ps rs : Array TypeId} {vv : Bool} (h : P.underlying t = some (.func ps rs vv)) : (Op.equal t .nilFunc .nilFunc).run P w = .ok true w := by
  have : ∀ d, (Op.equalIn (d + 1) t .nilFunc .nilFunc).run P w = .ok true w := fun d => by simp [Op.equalIn, run_underlying h]
  exact this 9999
theorem equal_ifc_nil {ms : Array (String × TypeId)} (h : P.underlying t = some (.interface ms)) (d : TypeId) (x : Value) : (Op.equal t (.iface d x) .nilIface).run P w = .ok false w := by
  have : ∀ n, (Op.equalIn (n + 1) t (.iface d x) .nilIface).run P w = .ok false w := fun n => by simp [Op.equalIn, run_underlying h]
  exact this 9999
theorem equal_nilifc_nil {ms : Array (String × TypeId)} (h : P.underlying t = some (.interface ms)) : (Op.equal t .nilIface .nilIface).run P w = .ok true w := by
  have : ∀ n, (Op.equalIn (n + 1) t .nilIface .nilIface).run P w = .ok true w := fun n => by simp [Op.equalIn, run_underlying h]
  exact this 9999
end

def nilA (P : Program) (op : BinOp) (t : TypeId) (rows : List Row) (oy : Operand) (x y : AVal) : Option (Prop × AVal) :=
  match P.underlying t with
  | some (.interface _) => match oy, x, y with
    | .const _, .ifc _ _, .sc .nilIface => (outB op false).map fun v => (True, v)
    | .const _, .sc .nilIface, .sc .nilIface => (outB op true).map fun v => (True, v)
    | _, _, _ => none
  | some (.slice _) => match x, y with
    | .sl _ n k, .sl [] 0 .nil => match k with
      | .nil => (outB op true).map fun v => (True, v)
      | .nn => (outB op false).map fun v => (True, v)
      | _ => (outB op false).map fun v => (0 < n, v)
    | _, _ => none
  | some (.pointer _) => match x, y with
    | .ptr id off, .sc (.pointer none) => if standsB rows (.ptr id off) then (outB op false).map fun v => (True, v) else none
    | .dptr _, .sc (.pointer none) => (outB op false).map fun v => (True, v)
    | .sc (.pointer none), .sc (.pointer none) => (outB op true).map fun v => (True, v)
    | _, _ => none
  | some (.func _ _ _) => match x, y with
    | .fn _ _, .sc .nilFunc => (outB op false).map fun v => (True, v)
    | .sc .nilFunc, .sc .nilFunc => (outB op true).map fun v => (True, v)
    | _, _ => none
  | some (.map _ _) => match x, y with
    | .mp _, .sc (.map none) => (outB op false).map fun v => (True, v)
    | .sc (.map none), .sc (.map none) => (outB op true).map fun v => (True, v)
    | _, _ => none
  | _ => none

theorem out_map {op : BinOp} {b : Bool} {c2 c : Prop} {r : AVal} (h : (outB op b).map (fun v => (c2, v)) = some (c, r)) : c2 = c ∧ outB op b = some r := by
  cases hq : outB op b with
  | none => simp [hq] at h
  | some z =>
    rw [hq] at h
    simp only [Option.map_some, Option.some.injEq, Prod.mk.injEq] at h
    exact ⟨h.1, by rw [h.2]⟩

theorem nil_spec {P : Program} {op : BinOp} {t : TypeId} {rows : List Row} {ox oy : Operand} {x y r : AVal} {c : Prop} (h : nilA P op t rows oy x y = some (c, r)) (hc : c) {X : Nat → Nat → Prop} {m : Nat → Option Nat} {w : World} {v u : Value}
    (hv : V ⟨rows, m, w, X⟩ x v) (hu : V ⟨rows, m, w, X⟩ y u) :
    ∃ q, (do eqGuard op t ox oy v u; binOp op t v u : Sem Value).run P w = .ok q w ∧ V ⟨rows, m, w, X⟩ r q := by
  unfold nilA at h
  split at h
  · rename_i ms ht
    split at h
    · rename_i cv d x'
      obtain ⟨rfl, ho⟩ := out_map h
      obtain ⟨v', rfl, _⟩ := hv.ifc_inv
      have := hu.sc_inv; subst this
      exact run_eq_of (by cases op <;> simp [eqGuard]) (equal_ifc_nil ht _ _) rfl rfl ho _
    · rename_i cv
      obtain ⟨rfl, ho⟩ := out_map h
      have := hv.sc_inv; subst this
      have := hu.sc_inv; subst this
      refine run_eq_of ?_ (equal_nilifc_nil ht) rfl rfl ho _
      cases op <;> simp [eqGuard]
    · simp at h
  · rename_i e ht
    split at h
    · rename_i cells n k
      have hu' : ∃ c', u = .slice none 0 c' := by
        rcases hu.sl_inv with ⟨rfl, _⟩ | ⟨b, o, cap, vs, rfl, _, _, hk, _⟩
        · exact ⟨0, rfl⟩
        · exact absurd rfl hk
      obtain ⟨c', rfl⟩ := hu'
      have go : ∀ (a : Option Addr) (n' c'' : Nat) (b : Bool), v = .slice a n' c'' → a.isNone = b → outB op b = some r → ∃ q, (do eqGuard op t ox oy v (.slice none 0 c'); binOp op t v (.slice none 0 c') : Sem Value).run P w = .ok q w ∧ V ⟨rows, m, w, X⟩ r q := by
        rintro a n' c'' b rfl rfl ho
        exact run_eq_of (by cases op <;> rfl) (equal_slice_nil ht _ _ _ _ _) rfl rfl ho _
      split at h
      · obtain ⟨rfl, ho⟩ := out_map h
        rcases hv.sl_inv with ⟨rfl, _⟩ | ⟨b, o, cap, vs, rfl, _, _, hk, _⟩
        · exact go none _ _ _ rfl rfl ho
        · exact absurd rfl hk
      · obtain ⟨rfl, ho⟩ := out_map h
        rcases hv.sl_inv with ⟨rfl, _, _, hk⟩ | ⟨b, o, cap, vs, rfl, _⟩
        · exact absurd rfl hk
        · exact go _ _ _ _ rfl rfl ho
      · obtain ⟨rfl, ho⟩ := out_map h
        rcases hv.sl_inv with ⟨rfl, _, rfl, hk⟩ | ⟨b, o, cap, vs, rfl, _⟩
        · exact absurd hc (Nat.lt_irrefl 0)
        · exact go _ _ _ _ rfl rfl ho
    · simp at h
  · rename_i e ht
    split at h
    · rename_i id off
      split at h
      · rename_i hst
        obtain ⟨rfl, ho⟩ := out_map h
        obtain ⟨r2, h1, h2⟩ := stands_spec hst id off rfl
        obtain ⟨b, rfl, _⟩ := hv.ptr_inv h1 h2
        have := hu.sc_inv; subst this
        exact run_eq_of (by cases op <;> rfl) (equal_ptr_nil ht _) rfl rfl ho _
      · simp at h
    · obtain ⟨rfl, ho⟩ := out_map h
      obtain ⟨b, o, vs, rfl, _⟩ := hv.dptr_inv
      have := hu.sc_inv; subst this
      exact run_eq_of (by cases op <;> rfl) (equal_ptr_nil ht _) rfl rfl ho _
    · obtain ⟨rfl, ho⟩ := out_map h
      have := hv.sc_inv; subst this
      have := hu.sc_inv; subst this
      exact run_eq_of (by cases op <;> rfl) (equal_ptr_nil ht _) rfl rfl ho _
    · simp at h
  · rename_i ps rs vv ht
    split at h
    · obtain ⟨rfl, ho⟩ := out_map h
      obtain ⟨vs, rfl, _⟩ := hv.fn_inv
      have := hu.sc_inv; subst this
      exact run_eq_of (by cases op <;> rfl) (equal_func_nil ht _ _ _) rfl rfl ho _
    · obtain ⟨rfl, ho⟩ := out_map h
      have := hv.sc_inv; subst this
      have := hu.sc_inv; subst this
      exact run_eq_of (by cases op <;> rfl) (equal_nilfunc_nil ht) rfl rfl ho _
    · simp at h
  · rename_i k e ht
    split at h
    · rename_i id
      obtain ⟨rfl, ho⟩ := out_map h
      have hb : ∃ b, v = .map (some b) := by
        generalize hx : AVal.mp id = z at hv
        cases hv <;> simp at hx
        exact ⟨_, rfl⟩
      obtain ⟨b, rfl⟩ := hb
      have := hu.sc_inv; subst this
      exact run_eq_of (by cases op <;> rfl) (equal_map_nil ht _) rfl rfl ho _
    · obtain ⟨rfl, ho⟩ := out_map h
      have := hv.sc_inv; subst this
      have := hu.sc_inv; subst this
      exact run_eq_of (by cases op <;> rfl) (equal_map_nil ht _) rfl rfl ho _
    · simp at h
  · simp at h

/-! ### convert -/
def isByteA : AVal → Bool
  | .sc (.int .u8 _) => true
  | _ => false
def byteOf1 : AVal → UInt8
  | .sc (.int .u8 n) => UInt8.ofNat n.toNat
  | _ => 0
def strOf (cells : List AVal) : ByteArray := ⟨(cells.map byteOf1).toArray⟩

def convertA (P : Program) (s d : TypeId) (x : AVal) (rows : List Row) : Option (Prop × AVal) :=
  match P.underlying s, P.underlying d, x with
  | some (.int _), some (.int k), .sc (.int _ n) => some (True, .sc (.int k (k.wrap n)))
  | some .string, some .string, .sc (.string b) => some (True, .sc (.string b))
  | some .string, some (.slice e), .sc (.string b) => match P.underlying e with
    | some (.int .u8) => some (True, .sl (b.data.toList.map byteV) b.size .nn)
    | _ => none
  | some (.slice e), some .string, .sl cells n _ => match P.underlying e with
    | some (.int .u8) => some (n = cells.length ∧ ∀ i, i < cells.length → isByteA (cells.getD i .undef) = true, .sc (.string (strOf cells)))
    | _ => none
  | some (.slice e), some .string, .row id off n => match P.underlying e, rows[id]? with
    | some (.int .u8), some r => match r.st with
      | .map => none
      | _ => some (r.esz = 1 ∧ off + n ≤ r.cells.length ∧ ∀ i, i < r.cells.length → isByteA (r.cells.getD i .undef) = true, .sc (.string (strOf ((r.cells.drop off).take n))))
    | _, _ => none
  | _, _, _ => none

theorem foldl_push_ints : ∀ (l : List Int) (r : ByteArray), l.foldl (fun r n => r.push (UInt8.ofNat n.toNat)) r = ⟨r.data ++ (l.map fun n => UInt8.ofNat n.toNat).toArray⟩
  | [], r => by simp
  | b :: l, r => by
    simp only [List.foldl_cons]
    rw [foldl_push_ints l]
    simp [ByteArray.push]

def intOf1 : AVal → Int
  | .sc (.int .u8 n) => n
  | _ => 0
/-- Cells that are bytes, as a text. -/
theorem bytes_run {P : Program} {E : Env} {cells : List AVal} {b o cap : Nat} {vs : Nat → Value} (hb : ∀ i, i < cells.length → isByteA (cells.getD i .undef) = true) (hv : ∀ i, i < cells.length → V E (cells.getD i .undef) (vs i))
    (hc : ∀ i, i < cells.length → E.w.cell? ⟨b, o + i, none⟩ = some (vs i)) : (Conv.bytesToString (.slice (some ⟨b, o, none⟩) cells.length cap)).run P E.w = .ok (.string (strOf cells)) E.w := by
  have hvi : ∀ i, i < cells.length → vs i = .int .u8 (intOf1 (cells.getD i .undef)) := by
    intro i hi
    have h1 := hb i hi
    have h2 := hv i hi
    revert h1 h2
    generalize cells.getD i .undef = x
    intro h1 h2
    unfold isByteA at h1
    split at h1
    · exact h2.sc_inv
    · simp at h1
  have hl : (loadCells ⟨b, o, none⟩ cells.length).run P E.w = .ok ((cells.map intOf1).map (Value.int .u8)).toArray E.w := by
    rw [run_loadCells E.w ⟨b, o, none⟩ cells.length vs (fun j hj => by rw [addr_add]; exact hc j hj)]
    congr 2
    apply List.ext_getElem
    · simp
    · intro i h1 h2
      have hi : i < cells.length := by simpa using h1
      have := hvi i hi
      simpa [List.getD_eq_getElem?_getD, hi] using this
  rw [run_bytesToString E.w _ _ cap _ hl, foldl_push_ints]
  have hmap : (cells.map intOf1).map (fun n => UInt8.ofNat n.toNat) = cells.map byteOf1 := by
    rw [List.map_map]
    apply List.map_congr_left
    intro x hx
    obtain ⟨i, hi, rfl⟩ := List.mem_iff_getElem.1 hx
    have h1 := hb i hi
    rw [List.getD_eq_getElem?_getD, List.getElem?_eq_getElem hi] at h1
    simp only [Option.getD_some] at h1
    revert h1
    generalize cells[i] = y
    intro h1
    unfold isByteA at h1
    split at h1
    · rfl
    · simp at h1
  rw [hmap]
  have : (ByteArray.empty.data ++ (cells.map byteOf1).toArray) = (cells.map byteOf1).toArray := by
    show (#[] ++ _) = _
    simp
  rw [this]
  rfl

theorem convert_spec {P : Program} {s d : TypeId} {x r : AVal} {rows : List Row} {c : Prop} (h : convertA P s d x rows = some (c, r)) (hc : c) {X : Nat → Nat → Prop} {m : Nat → Option Nat} {w : World} {v : Value} (hrel : Rel ⟨rows, m, w, X⟩) (hv : V ⟨rows, m, w, X⟩ x v) :
    ∃ q w', (convert s d v).run P w = .ok q w' ∧ Rel ⟨rows, m, w', X⟩ ∧ V ⟨rows, m, w', X⟩ r q ∧ Evo rows.length ⟨rows, m, w, X⟩ ⟨rows, m, w', X⟩ := by
  unfold convertA at h
  split at h
  · rename_i k0 k k1 n hs hd
    simp only [Option.some.injEq, Prod.mk.injEq] at h
    obtain ⟨rfl, rfl⟩ := h
    have := hv.sc_inv; subst this
    exact ⟨_, w, by simp [convert, run_underlying hs, run_underlying hd, Conv.intToInt], hrel, .sc _ rfl, Evo.refl _ _⟩
  · rename_i b hs hd
    simp only [Option.some.injEq, Prod.mk.injEq] at h
    obtain ⟨rfl, rfl⟩ := h
    have := hv.sc_inv; subst this
    exact ⟨_, w, by simp [convert, run_underlying hs, run_underlying hd], hrel, .sc _ rfl, Evo.refl _ _⟩
  · rename_i e b hs hd
    split at h
    · rename_i he
      simp only [Option.some.injEq, Prod.mk.injEq] at h
      obtain ⟨rfl, rfl⟩ := h
      have := hv.sc_inv; subst this
      obtain ⟨hreld, hevd⟩ := same_heap (E := ⟨rows, m, w, X⟩) hrel (w' := w.drew) rfl rfl rfl rfl rows.length
      have hcap : b.size ≤ grownCap w b.size 0 e := by unfold grownCap; show _ ≤ _ + _; omega
      have hbs : (b.data.toList.map byteV).length = b.data.size := by simp
      have hrow : bytesRow b (grownCap w b.size 0 e) = b.data.map (fun (x : UInt8) => Value.int .u8 x.toNat) ++ Array.replicate (grownCap w b.size 0 e - b.size) (.int .u8 0) := rfl
      obtain ⟨k1, k2, k3⟩ := newSl hreld (b.data.toList.map byteV) (bytesRow b (grownCap w b.size 0 e)) e ((bytesRow b (grownCap w b.size 0 e)).size, (bytesRow b (grownCap w b.size 0 e)).size + 1) b.size _ hcap
        (by rw [dataAll_iff]; intro i hi; rw [hbs] at hi; rw [(bytes_getD b.data i hi).1]; rfl)
        (by rw [hbs, hrow]; simp)
        (fun i hi => by
          rw [hbs] at hi
          rw [(bytes_getD b.data i hi).1]
          have e1 : (bytesRow b (grownCap w b.size 0 e)).getD i Go.undef = .int .u8 (b.data[i]).toNat := by
            rw [hrow, Array.getD_eq_getD_getElem?, Array.getElem?_append_left (by simpa using hi)]
            rw [← Array.getD_eq_getD_getElem?]; exact (bytes_getD b.data i hi).2
          rw [e1]; exact .sc _ rfl)
      exact ⟨_, _, run_bytes_of_string w s d e b hs hd he, k1, k3, hevd.trans (k2 _)⟩
    · simp at h
  · rename_i e cells n k hs hd
    split at h
    · rename_i he
      simp only [Option.some.injEq, Prod.mk.injEq] at h
      obtain ⟨rfl, rfl⟩ := h
      obtain ⟨h1, h2⟩ := hc
      subst h1
      rcases hv.sl_inv with ⟨rfl, h0, _⟩ | ⟨b, o, cap, vs, rfl, hn, _, _, hdd, hvv, hmm⟩
      · subst h0
        exact ⟨.string .empty, w, by rw [run_convert_bytes_string w s d e none 0 0 hs he hd]; rfl, hrel, .sc _ rfl, Evo.refl _ _⟩
      · refine ⟨_, w, ?_, hrel, .sc _ rfl, Evo.refl _ _⟩
        rw [run_convert_bytes_string w s d e _ _ _ hs he hd]
        exact bytes_run (E := ⟨rows, m, w, X⟩) h2 hvv (fun i hi => (hmm i hi).1)
    · simp at h
  · rename_i e id off n hs hd
    split at h
    · rename_i row he hrow
      have hmain : some (row.esz = 1 ∧ off + n ≤ row.cells.length ∧ ∀ i, i < row.cells.length → isByteA (row.cells.getD i .undef) = true, AVal.sc (.string (strOf ((row.cells.drop off).take n)))) = some (c, r) := by
        cases hst : row.st <;> simp only [hst] at h <;> first | exact h | simp at h
      simp only [Option.some.injEq, Prod.mk.injEq] at hmain
      obtain ⟨rfl, rfl⟩ := hmain
      obtain ⟨c1, c2, c3⟩ := hc
      have hl : ((row.cells.drop off).take n).length = n := by simp; omega
      have hget : ∀ i, i < n → ((row.cells.drop off).take n).getD i .undef = row.cells.getD (off + i) .undef := by
        intro i hi; simp [List.getD_eq_getElem?_getD, List.getElem?_take, hi]
      have fin : ∀ (b o cap : Nat) (vs : Nat → Value), v = .slice (some ⟨b, o, none⟩) n cap → (∀ i, i < n → V ⟨rows, m, w, X⟩ (row.cells.getD (off + i) .undef) (vs i)) → (∀ i, i < n → w.cell? ⟨b, o + i, none⟩ = some (vs i)) →
          ∃ q w', (convert s d v).run P w = .ok q w' ∧ Rel ⟨rows, m, w', X⟩ ∧ V ⟨rows, m, w', X⟩ (.sc (.string (strOf ((row.cells.drop off).take n)))) q ∧ Evo rows.length ⟨rows, m, w, X⟩ ⟨rows, m, w', X⟩ := by
        rintro b o cap vs rfl h1 h2
        refine ⟨_, w, ?_, hrel, .sc _ rfl, Evo.refl _ _⟩
        rw [run_convert_bytes_string w s d e _ _ _ hs he hd]
        have := bytes_run (P := P) (E := ⟨rows, m, w, X⟩) (cells := (row.cells.drop off).take n) (b := b) (o := o) (cap := cap) (vs := vs) (fun i hi => by rw [hl] at hi; rw [hget i hi]; exact c3 _ (by omega)) (fun i hi => by rw [hl] at hi; rw [hget i hi]; exact h1 i hi) (fun i hi => by rw [hl] at hi; exact h2 i hi)
        rw [hl] at this; exact this
      generalize hxx : AVal.row id off n = y at hv
      cases hv <;> simp at hxx
      · rename_i b cap r2 hr2 hs2 hm2 hn2 ho2 hcc2
        obtain ⟨rfl, rfl, rfl⟩ := hxx
        rw [hrow] at hr2; cases hr2
        obtain ⟨cc, e', hb, hbl, hbv⟩ := hrel.block hrow (.inl hs2) hm2
        exact fin b off cap (fun i => cc.getD (off + i) Go.undef) rfl (fun i hi => hbv _ (by omega)) (fun i hi => cell_getD hb (by omega))
      · rename_i r2 bs hr2 hs2
        obtain ⟨rfl, rfl, rfl⟩ := hxx
        refine ⟨.string (strOf []), w, ?_, hrel, .sc _ rfl, Evo.refl _ _⟩
        rw [run_convert_bytes_string w s d e _ _ _ hs he hd]
        cases bs with
        | none => rfl
        | some p =>
          have := bytes_run (P := P) (E := ⟨rows, m, w, X⟩) (cells := []) (b := p.1) (o := p.2) (cap := 0) (vs := fun _ => Go.undef) (fun i hi => by simp at hi) (fun i hi => by simp at hi) (fun i hi => by simp at hi)
          exact this
      · rename_i b o cap r2 vs hr2 hs2 hn2 ho2 hd2 hvv hmm he2
        obtain ⟨rfl, rfl, rfl⟩ := hxx
        rw [hrow] at hr2; cases hr2
        rw [c1] at hvv hmm
        exact fin b o cap vs rfl (fun i hi => hvv i (by omega)) (fun i hi => (hmm i (by omega)).1)
    · simp at h
  · simp at h
end Go.Abs
