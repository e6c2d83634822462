/- Library: an abstract machine over the model, part 16. -/
import Derived.Test.YtmcjdeiicbgmhabAbs15
set_option linter.unusedVariables false
set_option linter.unusedSimpArgs false
namespace Go.Abs
open Go

/-! ### whole structs and arrays, cell by cell -/
/-- The kinds of the cells of a type that is made of numbers, bools and texts. -/
def flatT (P : Program) : Nat → TypeId → Option (List TypeDesc)
  | 0, _ => none
  | d + 1, t => match P.underlying t with
    | some .bool => some [.bool]
    | some (.int k) => some [.int k]
    | some .string => some [.string]
    | some (.struct fs) => fs.toList.foldl (fun acc f => match acc, flatT P d f.type with
      | some l, some l2 => if f.offset = l.length ∧ tyS P f.type = some l2.length ∧ f.name ≠ "_" then some (l ++ l2) else none
      | _, _ => none) (some [])
    | some (.array n e) => match flatT P d e with
      | some l => if tyS P e = some l.length then some ((List.replicate n l).flatten) else none
      | none => none
    | _ => none

/-! ### makeSlice, min, max, len -/
def lenA (P : Program) (t : TypeId) (x : AVal) : Option AVal :=
  match P.underlying t, x with
  | some .string, .sc (.string s) => some (.sc (.int .i64 s.size))
  | some (.array n _), _ => some (.sc (.int .i64 n))
  | some (.slice _), .sl _ n _ => some (.sc (.int .i64 n))
  | some (.slice _), .row _ _ n => some (.sc (.int .i64 n))
  | some (.pointer a), _ => match P.underlying a with
    | some (.array n _) => some (.sc (.int .i64 n))
    | _ => none
  | _, _ => none
theorem len_spec {P : Program} {ts : Array TypeId} {t ty : TypeId} {x r : AVal} (ht : ts[0]? = some t) (h : lenA P t x = some r) {E : Env} {v : Value} (hv : V E x v) (w : World) : ∃ q, (Builtin.len_ ts ty #[v]).run P w = .ok q w ∧ V E r q := by
  unfold lenA at h
  split at h
  · rename_i s hu
    simp at h; subst h
    have := hv.sc_inv; subst this
    exact ⟨_, by simp [Builtin.len_, ht, run_underlying hu]; rfl, .sc _ rfl⟩
  · rename_i n e hu
    simp at h; subst h
    exact ⟨_, by simp [Builtin.len_, ht, run_underlying hu]; rfl, .sc _ rfl⟩
  · rename_i e cells n k hu
    simp at h; subst h
    rcases hv.sl_inv with ⟨rfl, _, rfl, _⟩ | ⟨b, o, cap, vs, rfl, _⟩
    · exact ⟨_, by simp [Builtin.len_, ht, run_underlying hu]; rfl, .sc _ rfl⟩
    · exact ⟨_, by simp [Builtin.len_, ht, run_underlying hu]; rfl, .sc _ rfl⟩
  · rename_i e id off n hu
    simp at h; subst h
    generalize hxx : AVal.row id off n = y at hv
    cases hv <;> simp at hxx <;> obtain ⟨rfl, rfl, rfl⟩ := hxx
    all_goals exact ⟨_, by simp [Builtin.len_, ht, run_underlying hu]; rfl, .sc _ rfl⟩
  · rename_i a hu
    split at h
    · rename_i n e ha
      simp at h; subst h
      exact ⟨_, by simp [Builtin.len_, ht, run_underlying hu, run_underlying ha]; rfl, .sc _ rfl⟩
    · simp at h
  · simp at h

/-! ### all of it -/
def capsA (ρ : Operand → AVal) (l : List Operand) : List AVal := l.map ρ

def sop (P : Program) (o : Oper) (ρ : Operand → AVal) (rows : List Row) : Option Res :=
  match o.op with
  | .move x => some ⟨True, ρ x, rows⟩
  | .assign x => some ⟨True, ρ x, rows⟩
  | .pick c a b => match ρ c with
    | .sc (.bool t) => some ⟨True, (match t with | true => ρ a | false => ρ b), rows⟩
    | _ => none
  | .alloc e => match zeroA P e, eszOf P e with
    | some z, some s => match z.cellsA with
      | some cs => if standsB rows z then some ⟨True, .ptr rows.length 0, rows ++ [⟨cs, s, .fresh⟩]⟩ else none
      | none => none
    | _, _ => none
  | .box e x => match (ρ x).cellsA, eszOf P e with
    | some cs, some s => if standsB rows (ρ x) then some ⟨True, .ptr rows.length 0, rows ++ [⟨cs, s, .fresh⟩]⟩ else none
    | _, _ => none
  | .build t parts => match P.underlying t, zeroA P t, partsA ρ parts.toList with
    | some (.struct fs), some (.agg z), some ps =>
      if (parts.toList.all fun p => standsB rows (ρ p.2)) = true ∧ (fs.toList.all fun f => (tyS P f.type).isSome) = true then
      match fillA (fun i => (fs[i]?).map fun f => (f.offset, (tyS P f.type).getD 0)) z ps with
      | some cs => some ⟨True, .agg cs, rows⟩
      | none => none
      else none
    | some (.array _ el), some (.agg z), some ps => match tyS P el with
      | some s => if (parts.toList.all fun p => standsB rows (ρ p.2)) = true then match fillA (fun i => some (i * s, s)) z ps with
        | some cs => some ⟨True, .agg cs, rows⟩
        | none => none
        else none
      | none => none
    | _, _, _ => none
  | .buildSlice t len parts => (buildSliceA P t len ρ parts.toList rows).map fun q => ⟨True, q.1, q.2⟩
  | .load t a => (loadA P t rows (ρ a)).map fun q => ⟨q.1, q.2, rows⟩
  | .store t a x => (storeA P t rows (ρ a) (ρ x)).map fun q => ⟨q.1, .tup [], q.2⟩
  | .nilCheck x => match ρ x with
    | .ptr id off => if standsB rows (.ptr id off) then some ⟨True, .ptr id off, rows⟩ else none
    | .dptr cs => some ⟨True, .dptr cs, rows⟩
    | .ifc t v => some ⟨True, .ifc t v, rows⟩
    | .fn f cs => some ⟨True, .fn f cs, rows⟩
    | _ => none
  | .binOp op t x y _ => match ρ x, ρ y with
    | .sc a, .sc b => match binV P op t a b with
      | some (c, v) => some ⟨c, .sc v, rows⟩
      | none => (nilA P op t rows y (.sc a) (.sc b)).map fun q => ⟨q.1, q.2, rows⟩
    | a, b => (nilA P op t rows y a b).map fun q => ⟨q.1, q.2, rows⟩
  | .unOp op _ x => match ρ x with
    | .sc a => (unV op a).map fun v => ⟨True, .sc v, rows⟩
    | _ => none
  | .convert s d x => (convertA P s d (ρ x) rows).map fun q => ⟨q.1, q.2, rows⟩
  | .makeInterface t x => match P.underlying t with
    | some (.interface _) => none
    | some _ => some ⟨True, .ifc t (ρ x), rows⟩
    | none => none
  | .makeFunc (.func f) first cap => if first.size = 0 then some ⟨True, .fn f (cap.toList.map ρ), rows⟩ else none
  | .slice t x lo hi mx => (sliceA P t ρ (ρ x) lo hi mx rows).map fun q => ⟨q.1, q.2, rows⟩
  | .fieldAddr s x f => (fieldAddrA P s (ρ x) f rows).map fun q => ⟨q.1, q.2, rows⟩
  | .field t x f => (fieldA P t (ρ x) f).map fun q => ⟨q.1, q.2, rows⟩
  | .indexAddr t x i => (indexAddrA P t (ρ x) (ρ i) rows).map fun q => ⟨q.1, q.2, rows⟩
  | .index t x i => (indexA P t (ρ x) (ρ i)).map fun q => ⟨q.1, q.2, rows⟩
  | .extract x i => match ρ x with
    | .tup vs => match vs[i]? with
      | some v => some ⟨True, v, rows⟩
      | none => none
    | _ => none
  | .call c => match c.callee with
    | .builtin .len => match c.args.toList, c.argTypes[0]? with
      | [x], some t => (lenA P t (ρ x)).map fun v => ⟨True, v, rows⟩
      | _, _ => none
    | .builtin .append => match c.args.toList with
      | [x, y] => (appendA P c.argTypes (ρ x) (ρ y) rows).map fun q => ⟨q.1, q.2.1, q.2.2⟩
      | _ => none
    | .builtin .min => match c.args.toList with
      | [x, y] => match ρ x, ρ y with
        | .sc (.int k a), .sc (.int _ b) => some ⟨True, .sc (.int k (if b < a then b else a)), rows⟩
        | _, _ => none
      | _ => none
    | .builtin .max => match c.args.toList with
      | [x, y] => match ρ x, ρ y with
        | .sc (.int k a), .sc (.int _ b) => some ⟨True, .sc (.int k (if b > a then b else a)), rows⟩
        | _, _ => none
      | _ => none
    | _ => none
  | _ => none

theorem map_some' {α β : Type} {x : Option α} {f : α → β} {y : β} (h : x.map f = some y) : ∃ q, x = some q ∧ f q = y := by
  cases x with
  | none => simp at h
  | some q => exact ⟨q, rfl, by simpa using h⟩

theorem run_builtin {P : Program} {a : Act} {o : Oper} {c : Call} {b : Builtin} {xs : List Operand} {w w' : World} {q : Value} (ho : o.op = .call c) (hc : c.callee = .builtin b) (hx : c.args.toList = xs)
    (h : (builtin b c.argTypes o.type (c.args.map fun | .const _ => true | _ => false) (xs.map a.eval).toArray).run P w = .ok (.value q) w') : (execOp a.eval o).run P w = .ok (.value q) w' := by
  have e : c.args.map a.eval = (xs.map a.eval).toArray := by
    rw [← hx]; apply Array.ext'; simp
  simp only [execOp, ho, resolve, hc, Sem.run_bind, Sem.run_pure, Result.andThen_ok, invoke, e]
  exact h

set_option maxHeartbeats 1000000 in
theorem sop_spec {P : Program} {o : Oper} {ρ : Operand → AVal} {rows : List Row} {q : Res} (h : sop P o ρ rows = some q) (hq : q.ok) : OpS P o ρ rows q.v q.rows := by
  unfold sop at h
  split at h
  · rename_i x ho
    simp at h; subst h
    exact OpS.quiet fun X m w a hrel hv => ⟨a.eval x, by simp [execOp, ho], hv x (by rw [ho]; simp [Op.operands])⟩
  · rename_i x ho
    simp at h; subst h
    exact OpS.quiet fun X m w a hrel hv => ⟨a.eval x, by simp [execOp, ho], hv x (by rw [ho]; simp [Op.operands])⟩
  · rename_i c a b ho
    split at h
    · rename_i t ht
      simp at h; subst h
      refine OpS.quiet fun X m w act hrel hv => ?_
      have h1 := hv c (by rw [ho]; simp [Op.operands])
      have h2 := hv a (by rw [ho]; simp [Op.operands])
      have h3 := hv b (by rw [ho]; simp [Op.operands])
      rw [ht] at h1
      have h1' := h1.sc_inv
      cases t with
      | true => exact ⟨act.eval a, by simp [execOp, ho, h1', asBool], h2⟩
      | false => exact ⟨act.eval b, by simp [execOp, ho, h1', asBool], h3⟩
    · simp at h
  · rename_i e ho
    split at h
    · rename_i z s hz hs
      split at h
      · rename_i cs hcs
        split at h
        · rename_i hst
          simp at h; subst h
          refine OpS.of_run fun X m w a hrel hv => ?_
          obtain ⟨zv, hzr, hzV⟩ := run_zero hz w
          have hvc := (hzV ⟨rows, m, w, X⟩).cells hcs (stands_spec hst)
          obtain ⟨w', m', k1, k2, k3, k4, k5⟩ := newRow_spec (P := P) hrel hvc s e
          refine ⟨.pointer (some ⟨w.heap.size, 0, none⟩), w', m', ?_, k2, .ptr _ _ ⟨cs, s, .fresh⟩ _ (by simp) rfl k3, by simp, k4⟩
          simp only [execOp, ho, Sem.run_bind, Instr.alloc, hzr, Result.andThen_ok, newVar, k1, Sem.run_pure]
        · simp at h
      · simp at h
    · simp at h
  · rename_i e x ho
    split at h
    · rename_i cs s hcs hs
      split at h
      · rename_i hst
        simp at h; subst h
        refine OpS.of_run fun X m w a hrel hv => ?_
        have hvc := (hv x (by rw [ho]; simp [Op.operands])).cells hcs (stands_spec hst)
        obtain ⟨w', m', k1, k2, k3, k4, k5⟩ := newRow_spec (P := P) hrel hvc s e
        refine ⟨.pointer (some ⟨w.heap.size, 0, none⟩), w', m', ?_, k2, .ptr _ _ ⟨cs, s, .fresh⟩ _ (by simp) rfl k3, by simp, k4⟩
        simp only [execOp, ho, Sem.run_bind, Instr.box, newVar, k1, Result.andThen_ok, Sem.run_pure]
      · simp at h
    · simp at h
  · rename_i t parts ho
    have core : ∀ {z : List AVal} {ps : List (Nat × List AVal)} {place : Nat → Option (Nat × Nat)} {cs : List AVal}, zeroA P t = some (.agg z) → partsA ρ parts.toList = some ps → (parts.toList.all fun p => standsB rows (ρ p.2)) = true → fillA place z ps = some cs →
        (∀ (w : World) (zv : Value) (c' : Array Value) (pv : Array (Nat × Value)), (zeroValue t).run P w = .ok zv w → Instr.fill place zv.cells pv.toList = some c' → (Instr.build t pv).run P w = .ok (.agg c') w) → OpS P o ρ rows (.agg cs) rows := by
      intro z ps place cs hz hp hst hf hrun
      refine OpS.quiet fun X m w a hrel hv => ?_
      obtain ⟨zv, hzr, hzV⟩ := run_zero hz w
      have hzc := (hzV ⟨rows, m, w, X⟩).cells (cs := z) rfl (fun id off he => by cases he)
      have hparts := parts_spec (E := ⟨rows, m, w, X⟩) (τ := a.eval) parts.toList hp (fun x hx => ⟨hv x (by rw [ho]; simpa [Op.operands] using hx), by
        obtain ⟨q, hq, rfl⟩ := List.mem_map.1 hx
        exact List.all_eq_true.1 hst q hq⟩)
      obtain ⟨c', hf1, hf2⟩ := fill_spec ps _ z zv.cells hparts.1 hparts.2 hzc hf
      refine ⟨.agg c', ?_, ?_⟩
      · simp only [execOp, ho, Sem.run_bind]
        have e : (parts.map fun (p : Nat × Operand) => match p with | (i, x) => (i, a.eval x)) = parts.map fun p => (p.1, a.eval p.2) := rfl
        rw [e, hrun w zv c' (parts.map fun p => (p.1, a.eval p.2)) hzr (by rw [Array.toList_map]; exact hf1)]
        rfl
      · have := V.agg (E := ⟨rows, m, w, X⟩) cs c'.toList (by simpa using hf2.1) (fun i hi => by
          have := hf2.2 i hi
          simpa [List.getD_eq_getElem?_getD, Array.getD_eq_getD_getElem?] using this)
        simpa using this
    split at h
    · rename_i fs z ps ht hz hp
      split at h
      · rename_i hc
        split at h
        · rename_i cs hf
          simp at h; subst h
          refine core hz hp hc.1 hf fun w zv c' pv hzr hfr => ?_
          have hm : ∀ (l : List Field), (l.all fun f => (tyS P f.type).isSome) = true → (l.mapM (fun f => do pure (f.offset, ← sizeOf f.type) : Field → Sem (Nat × Nat))).run P w = .ok (l.map fun f => (f.offset, (tyS P f.type).getD 0)) w := by
            intro l
            induction l with
            | nil => intro _; rfl
            | cons f l ih =>
              intro hl
              simp only [List.all_cons, Bool.and_eq_true, Option.isSome_iff_exists] at hl
              obtain ⟨⟨s, hs⟩, hl⟩ := hl
              simp only [List.mapM_cons, Sem.run_bind, run_sizeOf' hs, Result.andThen_ok, Sem.run_pure]
              rw [ih (by simpa [List.all_eq_true, Option.isSome_iff_exists] using hl)]
              simp [hs]
          have hm2 : (fs.mapM (fun f => do pure (f.offset, ← sizeOf f.type) : Field → Sem (Nat × Nat))).run P w = .ok (fs.map fun f => (f.offset, (tyS P f.type).getD 0)) w := by
            have e1 : fs.mapM (fun f => do pure (f.offset, ← sizeOf f.type) : Field → Sem (Nat × Nat)) = List.toArray <$> fs.toList.mapM (fun f => do pure (f.offset, ← sizeOf f.type) : Field → Sem (Nat × Nat)) := by
              rw [← List.mapM_toArray]
            rw [e1, Sem.run_map, hm _ hc.2]
            simp only [Result.andThen_ok]
            congr 1
            apply Array.ext'; simp
          have hpl : (fun (i : Nat) => (fs.map fun (f : Field) => (f.offset, (tyS P f.type).getD 0))[i]?) = fun (i : Nat) => (fs[i]?).map fun (f : Field) => (f.offset, (tyS P f.type).getD 0) := by
            funext i; simp
          simp only [Instr.build, Sem.run_bind, hzr, Result.andThen_ok, run_underlying ht, hm2, hpl, hfr, Sem.run_pure]
        · simp at h
      · simp at h
    · rename_i n el z ps ht hz hp
      split at h
      · rename_i s hs
        split at h
        · rename_i hc
          split at h
          · rename_i cs hf
            simp at h; subst h
            refine core hz hp hc hf fun w zv c' pv hzr hfr => ?_
            simp only [Instr.build, Sem.run_bind, hzr, Result.andThen_ok, run_underlying ht, run_sizeOf' hs, hfr, Sem.run_pure]
          · simp at h
        · simp at h
      · simp at h
    · simp at h
  · rename_i t len parts ho
    obtain ⟨⟨r, rows'⟩, hb, rfl⟩ := map_some' h
    refine OpS.of_run fun X m w a hrel hv => ?_
    obtain ⟨v, w', m', k1, k2, k3, k4, k5⟩ := buildSlice_spec (τ := a.eval) hb hrel (fun x hx => hv x (by rw [ho]; simpa [Op.operands] using hx))
    refine ⟨v, w', m', ?_, k2, k3, k4, k5⟩
    simp only [execOp, ho, Sem.run_bind]
    have : (parts.map fun (p : Nat × Operand) => match p with | (i, x) => (i, a.eval x)) = parts.map fun p => (p.1, a.eval p.2) := rfl
    rw [this, k1]; rfl
  · rename_i t x ho
    obtain ⟨⟨c, r⟩, hb, rfl⟩ := map_some' h
    refine OpS.quiet fun X m w a hrel hv => ?_
    obtain ⟨u, k1, k2⟩ := load_spec hb hq hrel (hv x (by rw [ho]; simp [Op.operands]))
    exact ⟨u, by simp only [execOp, ho, Sem.run_bind, k1]; rfl, k2⟩
  · rename_i t p x ho
    obtain ⟨⟨c, rows'⟩, hb, rfl⟩ := map_some' h
    refine OpS.of_skip fun X m w a hrel hv => ?_
    obtain ⟨w', m', k1, k2, k3, k4⟩ := store_spec hb hq hrel (hv p (by rw [ho]; simp [Op.operands])) (hv x (by rw [ho]; simp [Op.operands]))
    exact ⟨w', m', by simp only [execOp, ho, Sem.run_bind, k1]; rfl, k2, k3, k4⟩
  · rename_i x ho
    have key : ∀ {y : AVal}, ρ x = y → (∀ (X : Nat → Nat → Prop) (m : Nat → Option Nat) (w : World) (v : Value), V ⟨rows, m, w, X⟩ y v → (∃ a, v = .pointer (some a)) ∨ (∃ t u, v = .iface t u) ∨ (∃ f cs, v = .func (.func f) #[] cs)) → OpS P o ρ rows y rows := by
      intro y hy hk
      refine OpS.quiet fun X m w a hrel hv => ?_
      have h1 := hv x (by rw [ho]; simp [Op.operands])
      rw [hy] at h1
      refine ⟨a.eval x, ?_, h1⟩
      rcases hk X m w _ h1 with ⟨b, hb⟩ | ⟨t, u, hb⟩ | ⟨f, cs, hb⟩ <;> simp [execOp, ho, hb]
    split at h
    · rename_i id off hx
      split at h
      · rename_i hst
        simp at h; subst h
        obtain ⟨r2, h1, h2⟩ := stands_spec hst id off rfl
        exact key hx fun X m w v hv => .inl (by obtain ⟨b, rfl, _⟩ := hv.ptr_inv h1 h2; exact ⟨_, rfl⟩)
      · simp at h
    · rename_i cs hx
      simp at h; subst h
      exact key hx fun X m w v hv => .inl (by obtain ⟨b, o, vs, rfl, _⟩ := hv.dptr_inv; exact ⟨_, rfl⟩)
    · rename_i t v hx
      simp at h; subst h
      exact key hx fun X m w v hv => .inr (.inl (by obtain ⟨u, rfl, _⟩ := hv.ifc_inv; exact ⟨_, _, rfl⟩))
    · rename_i f cs hx
      simp at h; subst h
      exact key hx fun X m w v hv => .inr (.inr (by obtain ⟨vs, rfl, _⟩ := hv.fn_inv; exact ⟨_, _, rfl⟩))
    · simp at h
  · rename_i op t x y yt ho
    have hnil : ∀ {a b r : AVal} {c : Prop}, ρ x = a → ρ y = b → nilA P op t rows y a b = some (c, r) → c → OpS P o ρ rows r rows := by
      intro a b r c hx hy hn hc
      refine OpS.quiet fun X m w act hrel hv => ?_
      have h1 := hv x (by rw [ho]; simp [Op.operands])
      have h2 := hv y (by rw [ho]; simp [Op.operands])
      rw [hx] at h1; rw [hy] at h2
      obtain ⟨q, k1, k2⟩ := nil_spec (ox := x) hn hc h1 h2
      refine ⟨q, ?_, k2⟩
      simp only [execOp, ho]
      rw [Sem.run_bind, k1]; rfl
    split at h
    · rename_i a b hx hy
      split at h
      · rename_i c v hb
        simp at h; subst h
        refine OpS.quiet fun X m w act hrel hv => ?_
        have h1 := hv x (by rw [ho]; simp [Op.operands])
        have h2 := hv y (by rw [ho]; simp [Op.operands])
        rw [hx] at h1; rw [hy] at h2
        have e1 := h1.sc_inv
        have e2 := h2.sc_inv
        obtain ⟨k1, k2⟩ := binV_spec (px := x) (py := y) hb hq w
        refine ⟨v, ?_, .sc v k2⟩
        simp only [execOp, ho, e1, e2]
        rw [Sem.run_bind, k1]; rfl
      · obtain ⟨⟨c, r⟩, hb, rfl⟩ := map_some' h
        exact hnil hx hy hb hq
    · obtain ⟨⟨c, r⟩, hb, rfl⟩ := map_some' h
      exact hnil rfl rfl hb hq
  · rename_i op t x ho
    split at h
    · rename_i a hx
      obtain ⟨v, hb, rfl⟩ := map_some' h
      refine OpS.quiet fun X m w act hrel hv => ?_
      have h1 := hv x (by rw [ho]; simp [Op.operands])
      rw [hx] at h1
      have e1 := h1.sc_inv
      obtain ⟨k1, k2⟩ := unV_spec (P := P) hb w
      refine ⟨v, ?_, .sc v k2⟩
      simp only [execOp, ho, e1, Sem.run_bind, k1]; rfl
    · simp at h
  · rename_i s d x ho
    obtain ⟨⟨c, r⟩, hb, rfl⟩ := map_some' h
    refine OpS.of_run fun X m w a hrel hv => ?_
    obtain ⟨u, w', k1, k2, k3, k4⟩ := convert_spec hb hq hrel (hv x (by rw [ho]; simp [Op.operands]))
    exact ⟨u, w', m, by simp only [execOp, ho, Sem.run_bind, k1]; rfl, k2, k3, Nat.le_refl _, k4⟩
  · rename_i t x ho
    split at h
    · simp at h
    · rename_i d hne hd
      simp at h; subst h
      refine OpS.quiet fun X m w a hrel hv => ⟨.iface t (a.eval x), ?_, .ifc t _ _ (hv x (by rw [ho]; simp [Op.operands]))⟩
      cases d <;> simp [execOp, ho, Instr.makeInterface, run_underlying hd]
      rename_i ms; exact absurd rfl (hne ms)
    · simp at h
  · rename_i f first cap ho
    split at h
    · rename_i hf
      simp at h; subst h
      have hf' : first = #[] := Array.eq_empty_of_size_eq_zero hf
      subst hf'
      refine OpS.quiet fun X m w a hrel hv => ⟨.func (.func f) #[] (cap.toList.map a.eval).toArray, ?_, ?_⟩
      · simp only [execOp, ho, Instr.makeFunc]
        have : cap.map a.eval = (cap.toList.map a.eval).toArray := by apply Array.ext'; simp
        rw [this]
        simp
      · obtain ⟨k1, k2⟩ := VL.map (E := ⟨rows, m, w, X⟩) (ρ := ρ) (τ := a.eval) cap.toList (fun x hx => hv x (by rw [ho]; simpa [Op.operands] using hx))
        exact .fn f _ _ k1 k2
    · simp at h
  · rename_i t x lo hi mx ho
    obtain ⟨⟨c, r⟩, hb, rfl⟩ := map_some' h
    refine OpS.quiet fun X m w a hrel hv => ?_
    obtain ⟨u, k1, k2⟩ := slice_spec (a := a) hb hq hrel (hv x (by rw [ho]; simp [Op.operands])) (fun y hy => hv y (by
      rw [ho]; simp only [Op.operands]
      rcases hy with rfl | rfl | rfl <;> simp))
    exact ⟨u, by simp only [execOp, ho, Sem.run_bind, k1]; rfl, k2⟩
  · rename_i s x f ho
    obtain ⟨⟨c, r⟩, hb, rfl⟩ := map_some' h
    refine OpS.quiet fun X m w a hrel hv => ?_
    obtain ⟨u, k1, k2⟩ := fieldAddr_spec hb hq hrel (hv x (by rw [ho]; simp [Op.operands]))
    exact ⟨u, by simp only [execOp, ho, Sem.run_bind, k1]; rfl, k2⟩
  · rename_i t x f ho
    obtain ⟨⟨c, r⟩, hb, rfl⟩ := map_some' h
    refine OpS.quiet fun X m w a hrel hv => ?_
    obtain ⟨u, k1, k2⟩ := field_spec hb hq (hv x (by rw [ho]; simp [Op.operands])) w
    exact ⟨u, by simp only [execOp, ho, Sem.run_bind, k1]; rfl, k2⟩
  · rename_i t x i ho
    obtain ⟨⟨c, r⟩, hb, rfl⟩ := map_some' h
    refine OpS.quiet fun X m w a hrel hv => ?_
    obtain ⟨u, k1, k2⟩ := indexAddr_spec hb hq hrel (hv x (by rw [ho]; simp [Op.operands])) (hv i (by rw [ho]; simp [Op.operands]))
    exact ⟨u, by simp only [execOp, ho, Sem.run_bind, k1]; rfl, k2⟩
  · rename_i t x i ho
    obtain ⟨⟨c, r⟩, hb, rfl⟩ := map_some' h
    refine OpS.quiet fun X m w a hrel hv => ?_
    obtain ⟨u, k1, k2⟩ := index_spec hb hq (hv x (by rw [ho]; simp [Op.operands])) (hv i (by rw [ho]; simp [Op.operands])) w
    exact ⟨u, by simp only [execOp, ho, Sem.run_bind, k1]; rfl, k2⟩
  · rename_i x i ho
    split at h
    · rename_i vs hx
      split at h
      · rename_i v hi
        simp at h; subst h
        refine OpS.quiet fun X m w a hrel hv => ?_
        have h1 := hv x (by rw [ho]; simp [Op.operands])
        rw [hx] at h1
        obtain ⟨us, e1, hl, hvv⟩ := h1.tup_inv
        have hlt := (List.getElem?_eq_some_iff.1 hi).1
        have hlt2 : i < us.length := by omega
        have := hvv i hlt
        have ev : vs.getD i .undef = v := by simp [List.getD_eq_getElem?_getD, hi]
        rw [ev] at this
        refine ⟨us.getD i Go.undef, ?_, this⟩
        simp [execOp, ho, e1, Instr.extract, hlt2, List.getD_eq_getElem?_getD]
      · simp at h
    · simp at h
  · rename_i c ho
    split at h
    · rename_i hc
      split at h
      · rename_i x t hx ht
        obtain ⟨v, hb, rfl⟩ := map_some' h
        refine OpS.quiet fun X m w a hrel hv => ?_
        obtain ⟨u, k1, k2⟩ := len_spec (ty := o.type) ht hb (hv x (by rw [ho]; exact mem_args (by rw [hx]; simp))) w
        refine ⟨u, run_builtin ho hc hx ?_, k2⟩
        simp only [builtin, List.map_cons, List.map_nil, Sem.run_bind, k1]; rfl
      · simp at h
    · rename_i hc
      split at h
      · rename_i x y hx
        obtain ⟨⟨c2, r, rows'⟩, hb, rfl⟩ := map_some' h
        refine OpS.of_run fun X m w a hrel hv => ?_
        obtain ⟨u, w', m', k1, k2, k3, k4, k5⟩ := append_spec (ty := o.type) hb hq hrel (hv x (by rw [ho]; exact mem_args (by rw [hx]; simp))) (hv y (by rw [ho]; exact mem_args (by rw [hx]; simp)))
        refine ⟨u, w', m', run_builtin ho hc hx ?_, k2, k3, k4, k5⟩
        simp only [builtin, List.map_cons, List.map_nil, Sem.run_bind, k1]; rfl
      · simp at h
    · rename_i hc
      split at h
      · rename_i x y hx
        split at h
        · rename_i k a k' b h1 h2
          simp at h; subst h
          refine OpS.quiet fun X m w act hrel hv => ?_
          have e1 := hv x (by rw [ho]; exact mem_args (by rw [hx]; simp))
          have e2 := hv y (by rw [ho]; exact mem_args (by rw [hx]; simp))
          rw [h1] at e1; rw [h2] at e2
          refine ⟨_, run_builtin ho hc hx ?_, .sc _ rfl⟩
          simp only [builtin, List.map_cons, List.map_nil, e1.sc_inv, e2.sc_inv, Sem.run_bind, run_min_int2]; rfl
        · simp at h
      · simp at h
    · rename_i hc
      split at h
      · rename_i x y hx
        split at h
        · rename_i k a k' b h1 h2
          simp at h; subst h
          refine OpS.quiet fun X m w act hrel hv => ?_
          have e1 := hv x (by rw [ho]; exact mem_args (by rw [hx]; simp))
          have e2 := hv y (by rw [ho]; exact mem_args (by rw [hx]; simp))
          rw [h1] at e1; rw [h2] at e2
          refine ⟨_, run_builtin ho hc hx ?_, .sc _ rfl⟩
          simp only [builtin, List.map_cons, List.map_nil, e1.sc_inv, e2.sc_inv, Sem.run_bind, run_max_int2]; rfl
        · simp at h
      · simp at h
    · simp at h
  · simp at h
end Go.Abs
