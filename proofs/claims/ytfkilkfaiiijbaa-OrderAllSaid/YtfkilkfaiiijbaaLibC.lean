/- Library: an abstract machine over the model, part C. -/
import Derived.Deep.RegionLaw
import Derived.Lib.AppendZerosOnto
import Derived.Lib.JoinLaws
import Derived.Lib.Overlaps
import Derived.RangeFuncFrom
import Derived.RangeFuncLeaves
import Derived.RangeFuncRecord
import Derived.Shelf.Spec.SlicesInsertGrow
import Derived.Test.YtfkilkfaiiijbaaLibB
set_option linter.unusedVariables false
set_option linter.unusedSimpArgs false
namespace Go.Abs
open Go
theorem frzQ_length : ∀ {l : List Nat} {rows rows' : List Row} {x x' : AVal} {c : Prop}, frzQ l rows x = some (c, rows', x') → rows'.length = rows.length
  | [], rows, rows', x, x', c, h => by simp [frzQ] at h; obtain ⟨_, rfl, rfl⟩ := h; rfl
  | id :: l, rows, rows', x, x', c, h => by
    simp only [frzQ] at h
    split at h
    · rename_i r hr
      split at h
      · split at h
        · rename_i c2 p h2
          simp only [Option.some.injEq, Prod.mk.injEq] at h
          obtain ⟨rfl, rfl⟩ := h
          rw [frzQ_length h2]; simp [frzRows]
        · simp at h
      · split at h
        · rename_i c2 p h2
          simp only [Option.some.injEq, Prod.mk.injEq] at h
          obtain ⟨rfl, rfl⟩ := h
          rw [frzQ_length h2]; simp [frzRows]
        · simp at h
      · simp at h
    · simp at h
/-- Rows that nobody stores into any more become data, in all registers. -/
theorem AWP.fro {P : Program} {N : Nat} {c : Code} {Q : Exit → St → Prop} {st : St} (l : List Nat) (cc : Prop) (st1 : St) (hf : frzQ l st.rows (.tup st.regs) = some (cc, st1.rows, .tup st1.regs)) (hc : cc) (h : AWP P N c Q st1) : AWP P N c Q st := by
  refine AWP.weaken ?_ h
  intro hN
  refine ⟨by rw [frzQ_length hf]; exact hN, fun ds X m w a ha => ?_⟩
  have hv : V ⟨st.rows, m, w, X⟩ (.tup st.regs) (.tuple a.tmps.toList.toArray) := V.tup _ _ (by simp [ha.len]) (fun i hi => by
    have := ha.regs i hi
    simpa [Array.getD_eq_getD_getElem?, List.getD_eq_getElem?_getD] using this)
  obtain ⟨m2, k1, k2, k3, k4⟩ := frzQ_spec (N := N) hf hc X m w _ ha.rel hv hN
  refine ⟨m2, ?_, k4⟩
  generalize ht : Value.tuple a.tmps.toList.toArray = t at k2
  cases k2 with
  | tup _ vs' hl hv' =>
    have hh : a.tmps = vs'.toArray := by simpa using ht
    have hh : a.tmps.toList = vs' := by rw [hh]
    subst hh
    refine ⟨k1, by simpa using hl, fun i hi => ?_, ha.defers⟩
    have := hv' i hi
    simpa [Array.getD_eq_getD_getElem?, List.getD_eq_getElem?_getD] using this
end Go.Abs

set_option linter.unusedVariables false
set_option linter.unusedSimpArgs false
namespace Go.Abs
open Go
/-! Short names for steps that are taken often. -/
theorem RT {P : Program} {ops : Array Oper} {l : List Oper} {st : St} {K : St → Prop} (n : Nat) (hk : K (runS P ops l st)) (h : runC P ops l st = some (TT n) := by kernel_rfl) : DerQ P ops l st K := DerQ.runI (TT n) h (tt n) hk
theorem RI {P : Program} {ops : Array Oper} {l : List Oper} {st : St} {K : St → Prop} (c : Prop) (hc : c) (hk : K (runS P ops l st)) (h : runC P ops l st = some c := by kernel_rfl) : DerQ P ops l st K := DerQ.runI c h hc hk
theorem PT {P : Program} {ops : Array Oper} {l : List Oper} {st : St} {K : St → Prop} (n k : Nat) (hk : DerQ P ops (l.drop n) (runS P ops (l.take n) st) K) (h : runC P ops (l.take n) st = some (TT k) := by kernel_rfl) : DerQ P ops l st K := DerQ.preI n (TT k) h (tt k) hk
theorem PI {P : Program} {ops : Array Oper} {l : List Oper} {st : St} {K : St → Prop} (n : Nat) (c : Prop) (hc : c) (hk : DerQ P ops (l.drop n) (runS P ops (l.take n) st) K) (h : runC P ops (l.take n) st = some c := by kernel_rfl) : DerQ P ops l st K := DerQ.preI n c h hc hk
theorem KL {P : Program} {N : Nat} {c : Code} {Q : Exit → St → Prop} {st : St} (l : List Nat) (st' : St) (h : AWP P N c Q st') (he : (⟨killL l st.regs, st.rows⟩ : St) = st' := by kernel_rfl) : AWP P N c Q st := AWP.kill l st' he h
theorem SQ {P : Program} {N : Nat} {Q : Exit → St → Prop} {st : St} {id : Nat} {l : List Oper} {y : Code} (h : DerQ P l.toArray l st (thenQ (AWP P N y Q) Q .normal)) : AWP P N (.seq (.region id l.toArray false) y) Q st := AWP.seq (AWP.reg h)
theorem TO {P : Program} {N : Nat} {c : Code} {Q : Exit → St → Prop} {st : St} (st' : St) (k : AWP P N c Q st') (h : st = st' := by kernel_rfl) : AWP P N c Q st := h ▸ k
theorem CD {P : Program} {ops : Array Oper} {o : Oper} {l : List Oper} {st : St} {K : St → Prop} {f : FuncId} {args : List AVal} {r : AVal} (he : EvD P f args r) (hk : DerQ P ops l (st.put o.dst r st.rows) K) (h1 : wantA ops o st.regs = some true := by kernel_rfl) (h2 : Abs.callA P o (ev st.regs) = some (f, args) := by kernel_rfl) : DerQ P ops (o :: l) st K := DerQ.callDI he ⟨h1, h2⟩ hk
theorem FI {P : Program} {N : Nat} {rs : Array ResultVar} {st : St} {rows' : List Row} {r : AVal} {e : Exit} (r1 : AVal) (hs : Shrink N st.rows r1 rows' r) (he : e = .normal ∨ e = .ret := by simp) (h : resA' P rs st = some r1 := by kernel_rfl) : (e = .normal ∨ e = .ret) ∧ ∃ r1, resA' P rs st = some r1 ∧ Shrink N st.rows r1 rows' r := ⟨he, r1, h, hs⟩
theorem FA {P : Program} {rs : Array ResultVar} {st : St} {r : AVal} {e : Exit} (hd : r.data = true := by rfl) (he : e = .normal ∨ e = .ret := by simp) (h : resA' P rs st = some r := by kernel_rfl) : (e = .normal ∨ e = .ret) ∧ ∃ r1, resA' P rs st = some r1 ∧ Shrink 0 st.rows r1 [] r := ⟨he, r, h, Shrink.all rfl hd⟩
theorem CN {P : Program} {N : Nat} {Q : Exit → St → Prop} {st : St} {c : Operand} {x y : Code} (b : Bool) (ht : b = true → AWP P N x Q st) (hf : b = false → AWP P N y Q st) (hc : ev st.regs c = .sc (.bool b) := by kernel_rfl) : AWP P N (.cond c x y) Q st := AWP.cond (b := b) hc ht hf
/-- numbers one behind the other -/
def NN (a n : Nat) : List Nat := List.range' a n
end Go.Abs

set_option linter.unusedVariables false
set_option linter.unusedSimpArgs false
namespace Go.Abs
open Go
end Go.Abs

set_option linter.unusedVariables false
set_option linter.unusedSimpArgs false
namespace Go.Abs
open Go
/-! ### What is no cells may turn -/
theorem grown_cell {w w' : World} {row : Option Nat} (hg : w.grownBy w' row) (hrow : ∀ r, row = some r → ∃ o : Obj, w.heap[r]? = some o ∧ o.isCells = false) {a : Addr} {v : Value} (h : w.cell? a = some v) : w'.cell? a = some v := cell_kept h hg hrow
theorem grown_block {w w' : World} {row : Option Nat} (hg : w.grownBy w' row) (hrow : ∀ r, row = some r → ∃ o : Obj, w.heap[r]? = some o ∧ o.isCells = false) {b : Nat} {c : Array Value} {e : TypeId} {f : Nat × Nat} (h : w.heap[b]? = some (.cells c e f)) : w'.heap[b]? = some (.cells c e f) :=
  (grownBy_keeps_cells hg hrow h rfl).trans h
/-- A new block, or a turn of a block that is no cells: all that is said of the rows stays. -/
theorem calm_step {E : Env} (hE : Rel E) (hnm : ∀ (i : Nat) (r : Row), E.rows[i]? = some r → r.st ≠ .map) {w' : World} {row : Option Nat} (hg : E.w.grownBy w' row) (hrow : ∀ r, row = some r → ∃ o : Obj, E.w.heap[r]? = some o ∧ o.isCells = false) :
    let E' : Env := ⟨E.rows, E.m, w', E.x⟩
    Rel E' ∧ (∀ x v, V E x v → V E' x v) ∧ (∀ b o v, Imm E b o → E.w.cell? ⟨b, o, none⟩ = some v → Imm E' b o ∧ w'.cell? ⟨b, o, none⟩ = some v) := by
  intro E'
  have hI : ∀ b o v, Imm E b o → E.w.cell? ⟨b, o, none⟩ = some v → Imm E' b o ∧ w'.cell? ⟨b, o, none⟩ = some v :=
    fun b o v h1 h2 => ⟨⟨Nat.lt_of_lt_of_le h1.1 hg.size, h1.2.1, h1.2.2⟩, grown_cell hg hrow h2⟩
  have hV : ∀ x v, V E x v → V E' x v := fun x v h =>
    V.mono (E := E) (E' := E') (N := E.rows.length) hI (fun i s _ hs => ⟨s, hs, RowEvo.keep rfl (fun _ b o _ hc => by
      obtain ⟨u, hu⟩ := Option.isSome_iff_exists.1 hc
      show (w'.cell? _).isSome = true
      rw [grown_cell hg hrow hu]; rfl)⟩) h h.refLt
  refine ⟨⟨fun b o h => Nat.lt_of_lt_of_le (hE.xlt b o h) hg.size, hE.xr, hE.inj, ?_, hE.grown, fun i r h1 h2 => absurd h2 (hnm i r h1)⟩, hV, hI⟩
  intro i r h1 h2 h3
  rcases hE.own i r h1 h2 h3 with h | ⟨b, c, e, k1, k2, k3, k4⟩
  · exact .inl h
  · exact .inr ⟨b, c, e, k1, grown_block hg hrow k2, k3, fun j hj => hV _ _ (k4 j hj)⟩
theorem Free.of_other {E : Env} (hE : Rel E) (hnm : ∀ (i : Nat) (r : Row), E.rows[i]? = some r → r.st ≠ .map) {b : Nat} {o : Obj} (h : E.w.heap[b]? = some o) (ho : o.isCells = false) : Free E b := by
  intro id r h1 h2 h3
  rcases hE.own id r h1 h2 (hnm id r h1) with h4 | ⟨b', c, e, k1, k2, _⟩
  · rw [h4.1] at h3; simp at h3
  · rw [k1] at h3
    simp only [Option.some.injEq] at h3
    subst h3
    rw [k2] at h
    cases h
    simp [Obj.isCells] at ho
/-- From a world on that lies ahead: a turn of what came behind it. -/
theorem Evo.calm {N : Nat} {E0 E : Env} (h : Evo N E0 E) (hE : Rel E) (hnm : ∀ (i : Nat) (r : Row), E.rows[i]? = some r → r.st ≠ .map) {w' : World} {row : Option Nat} (hg : E.w.grownBy w' row) (hrow : ∀ r, row = some r → E0.w.heap.size ≤ r ∧ ∃ o : Obj, E.w.heap[r]? = some o ∧ o.isCells = false) :
    Evo N E0 ⟨E.rows, E.m, w', E.x⟩ := by
  obtain ⟨k1, k2, k3⟩ := calm_step hE hnm hg (fun r e => (hrow r e).2)
  refine ⟨fun x v hv hb => k2 x v (h.val x v hv hb), Nat.le_trans h.size hg.size, fun b hb hf => ?_, hg.os.trans h.os, hg.tape.trans h.tape, hg.output.trans h.output, fun b o v a c => let ⟨a1, c1⟩ := h.imm b o v a c; k3 b o v a1 c1⟩
  obtain ⟨f1, f2⟩ := h.free b hb hf
  refine ⟨?_, f2⟩
  have hlt : b < E.w.heap.size := Nat.lt_of_lt_of_le hb h.size
  show w'.heap[b]? = _
  rw [hg.block b hlt (fun e => by have := (hrow b e.symm).1; omega)]
  exact f1
end Go.Abs

set_option linter.unusedVariables false
set_option linter.unusedSimpArgs false
namespace Go.Abs
open Go
/-! ### An iterator's function: its own code, and the rounds that it asks for -/
/-- No rows of one's own. -/
def E0 (W : World) (X : Nat → Nat → Prop) : Env := ⟨[], fun _ => none, W, X⟩

/-- What the caller of an iterator keeps: it abides what is laid behind it. -/
def Calm {β : Type} (J : List β → (Nat → Nat → Prop) → World → Prop) : Prop := ∀ s X W W', J s X W → W.grownBy W' none → J s X W'
/-- What a round brings about. -/
def Rounds {β : Type} (P : Program) (l : Nat) (J : List β → (Nat → Nat → Prop) → World → Prop) (items : List β) (enc : β → List AVal) : Prop :=
  ∀ (pre : List β) (x : β) (rest : List β) (X : Nat → Nat → Prop) (W : World) (vs : List Value), items = pre ++ x :: rest → J pre X W → (∀ b o, X b o → b < W.heap.size) → VL (E0 W X) (enc x) vs →
    YieldAt (Fw none) 0 P l vs.toArray W fun e W' => e = .returned (.bool true) ∧ ∃ X', J (pre ++ [x]) X' W' ∧ (∀ b o, X' b o → b < W'.heap.size) ∧ ∀ x v, V (E0 W X) x v → V (E0 W' X') x v
/-- An iterator: which items come, one by one. -/
def IterD {β : Type} (P : Program) (f : FuncId) (cap : List AVal) (items : List β) (enc : β → List AVal) : Prop :=
  ∀ (l : Nat) (J : List β → (Nat → Nat → Prop) → World → Prop) (X : Nat → Nat → Prop) (W : World) (vs : List Value), Calm J → Rounds P l J items enc → J [] X W → (∀ b o, X b o → b < W.heap.size) → VL (E0 W X) cap vs →
    CallsIn (Fw none) 0 P f (#[.func (.yield l) #[] #[]] ++ vs.toArray) W fun e W' => (∃ v, e = .returned v) ∧ ∃ X', J items X' W'

/-- A piece of an iterator's code. -/
def AWJ {β : Type} (P : Program) (l : Nat) (items : List β) (enc : β → List AVal) (c : Code) (Q : Exit → List β → St → Prop) (pre : List β) (st : St) : Prop :=
  st.rows = [] → ∀ (J : List β → (Nat → Nat → Prop) → World → Prop) (X : Nat → Nat → Prop) (W : World) (a : Act) (m : Nat → Option Nat), Calm J → Rounds P l J items enc → J pre X W → RelSt [] X st m W a →
    c.wpIn (Fw none) 0 P (fun e a' W' => ∃ pre' st' X' m', Q e pre' st' ∧ st'.rows = [] ∧ J pre' X' W' ∧ RelSt [] X' st' m' W' a') a W

def thenJ {β : Type} (next : List β → St → Prop) (Q : Exit → List β → St → Prop) : Exit → List β → St → Prop
  | .normal, p, st => next p st
  | e, p, st => Q e p st
def inBlockJ {β : Type} (id : Nat) (Q : Exit → List β → St → Prop) : Exit → List β → St → Prop
  | .exit id', p, st => if id' = id then Q .normal p st else Q (.exit id') p st
  | e, p, st => Q e p st

section
variable {β : Type} {P : Program} {l : Nat} {items : List β} {enc : β → List AVal} {Q : Exit → List β → St → Prop} {pre : List β} {st : St}

end

/-! The region that calls yield. -/
theorem Der.wpApp {P : Program} {ops : Array Oper} {l l2 : List Nat} {st st' : St} (h : Der P ops l st st') : ∀ {ds : List Deferred} {X : Nat → Nat → Prop} {m : Nat → Option Nat} {w : World} {a : Act} {Q : Exit → Act → World → Prop} {rd : Option Nat}, RelSt ds X st m w a →
    (∀ m' w' a', RelSt ds X st' m' w' a' → st.rows.length ≤ st'.rows.length → Evo st.rows.length ⟨st.rows, m, w, X⟩ ⟨st'.rows, m', w', X⟩ → wpOpsIn (Fw rd) 0 P ops Q l2 a' w') → wpOpsIn (Fw rd) 0 P ops Q (l ++ l2) a w := by
  induction h with
  | nil st => exact fun hr hq => hq _ _ _ hr (Nat.le_refl _) (Evo.refl _ _)
  | op i rest st st' o res rows' ho hw hs _ ih =>
    intro ds X m w a Q rd hr hq
    simp only [List.cons_append, wpOpsIn, ho]
    rw [if_pos (wantA_spec hr hw)]
    refine hs X m w a hr.rel (fun x _ => hr.eval x) _ _ (fun v m' w' h1 h2 h3 h4 => ?_) rd
    have hput := hr.put h1 h4 o.dst h2
    refine ih hput fun m2 w2 a2 k1 k2 k3 => ?_
    have hrows : (st.put o.dst res rows').rows = rows' := by cases o.dst <;> rfl
    rw [hrows] at k2 k3
    exact hq _ _ _ k1 (Nat.le_trans h3 k2) (h4.trans (k3.mono h3))
  | skip i rest st st' o ho hw _ ih =>
    intro ds X m w a Q rd hr hq
    simp only [List.cons_append, wpOpsIn, ho]
    rw [if_neg (by rw [wantA_spec hr hw]; simp)]
    refine ⟨fun _ _ => trivial, ?_⟩
    have hput := hr.put hr.rel (Evo.refl _ _) o.dst (V.undefTup _)
    refine ih hput fun m2 w2 a2 k1 k2 k3 => ?_
    have hrows : (st.put o.dst (.tup []) st.rows).rows = st.rows := by cases o.dst <;> rfl
    rw [hrows] at k2 k3
    exact hq _ _ _ k1 k2 k3

theorem DerL.derP {P : Program} {ops : Array Oper} : ∀ {l : List Oper} {st st' : St} (k : Nat), (∀ j, j < l.length → l[j]? = ops[k + j]?) → DerL P ops l st st' → Der P ops (List.range' k l.length) st st'
  | [], st, st', k, _, h => by cases h; exact .nil _
  | o :: l, st, st', k, hk, h => by
    have h0 : ops[k]? = some o := by simpa using (hk 0 (by simp)).symm
    have hk' : ∀ j, j < l.length → l[j]? = ops[k + 1 + j]? := fun j hj => by have := hk (j + 1) (by simp; omega); simpa [Nat.add_assoc, Nat.add_comm 1 j] using this
    rw [List.length_cons, List.range'_succ]
    cases h with
    | op _ _ _ _ res rows' hw hs h => exact .op k _ _ _ o res rows' h0 hw hs (DerL.derP (k + 1) hk' h)
    | skip _ _ _ _ hw h => exact .skip k _ _ _ o h0 hw (DerL.derP (k + 1) hk' h)

/-- Which loop's yield is called, with what. -/
def callY (o : Oper) (ρ : Operand → AVal) : Option (Nat × List AVal) :=
  match o.op with
  | .call c => match c.callee with
    | .value fop => match ρ fop with
      | .sc (.func (.yield l) _ _) => some (l, c.args.toList.map ρ)
      | _ => none
    | _ => none
  | _ => none

theorem V.sc_ok {E : Env} {u v : Value} (h : V E (.sc u) v) : v = u ∧ scOk u = true := by
  generalize hx : AVal.sc u = x at h
  cases h <;> simp at hx
  subst hx
  exact ⟨rfl, by assumption⟩

/-- A call of yield. -/
theorem yield_wp {P : Program} {o : Oper} {l : Nat} {args : List AVal} {X : Nat → Nat → Prop} {m : Nat → Option Nat} {w : World} {a : Act} {st : St} (hr : RelSt [] X st m w a) (h : callY o (ev st.regs) = some (l, args)) {K : Act → World → Prop} {Q : Exit → Act → World → Prop}
    (hy : ∀ vs, VL ⟨st.rows, m, w, X⟩ args vs → YieldAt (Fw none) 0 P l vs.toArray w fun e w' => ∃ v, e = .returned v ∧ K (a.put o.dst v) w') : o.wpIn (Fw none) 0 P a w K Q := by
  unfold callY at h
  split at h
  · rename_i c ho
    split at h
    · rename_i fop hc
      split at h
      · rename_i l' c1 c2 hf
        simp only [Option.some.injEq, Prod.mk.injEq] at h
        obtain ⟨rfl, rfl⟩ := h
        have hfv := hr.eval fop
        rw [hf] at hfv
        obtain ⟨hu, hok⟩ := hfv.sc_ok
        simp only [scOk, Bool.and_eq_true, Array.isEmpty_iff] at hok
        obtain ⟨e1, e2⟩ := hok
        rw [e1, e2] at hu
        obtain ⟨fn, tmps, assign, body, hrun, hround⟩ := hy (c.args.toList.map a.eval) (VL.map _ fun x _ => hr.eval x)
        have hrun' : (execOp a.eval o).run P w = .ok (.round l' fn tmps assign body) w := by
          simp only [execOp, ho, resolve, hc, Deferred.ofValue, hu, Sem.run_bind, Sem.run_pure, Result.andThen_ok, invoke]
          have e3 : (c.args.toList.map a.eval).toArray = c.args.map a.eval := by rw [← Array.toList_map]
          rw [e3] at hrun
          simpa using hrun
        unfold Oper.wpIn
        refine ⟨fun _ _ => trivial, ?_⟩
        rw [Oper.semAt_eq _ _ _ (by rw [ho]; intro c; simp), hrun', Oper.uponIn_round]
        refine ⟨fun h => by simp [Fw] at h, ?_⟩
        refine hround.mono ?_
        rintro e w' ⟨v, rfl, hk⟩
        exact hk
      · simp at h
    · simp at h
  · simp at h

end Go.Abs

set_option linter.unusedVariables false
set_option linter.unusedSimpArgs false
namespace Go.Abs
open Go
/-! ### Code that holds a range over a function -/
def NoMap (rows : List Row) : Prop := ∀ (i : Nat) (r : Row), rows[i]? = some r → r.st ≠ .map
def mark (D : Nat) : Deferred := { target := .collected D, args := #[] }
/-- The blocks for the rounds' deferred calls, and their marks. -/
def MarksOk (B : Nat) (ds : List Deferred) (w : World) : Prop :=
  ∃ Ds : List Nat, ds = Ds.map mark ∧ Ds.Nodup ∧ ∀ D ∈ Ds, B ≤ D ∧ w.heap[D]? = some (.deferred (some []))
def AWM (P : Program) (N : Nat) (c : Code) (Q : Exit → St → Prop) (st : St) : Prop :=
  N ≤ st.rows.length → NoMap st.rows → ∀ (B : Nat) (ds : List Deferred) (X : Nat → Nat → Prop) (m : Nat → Option Nat) (w : World) (a : Act), RelSt ds X st m w a → MarksOk B ds w → B ≤ w.heap.size →
    c.wpIn (Fw none) 0 P (fun e a' w' => ∃ st' m' ds', Q e st' ∧ NoMap st'.rows ∧ N ≤ st'.rows.length ∧ RelSt ds' X st' m' w' a' ∧ MarksOk B ds' w' ∧ Evo N ⟨st.rows, m, w, X⟩ ⟨st'.rows, m', w', X⟩) a w

theorem MarksOk.evo {B N : Nat} {ds : List Deferred} {E E' : Env} (h : MarksOk B ds E.w) (hE : Rel E) (hnm : NoMap E.rows) (he : Evo N E E') : MarksOk B ds E'.w := by
  obtain ⟨Ds, k1, k2, k3⟩ := h
  refine ⟨Ds, k1, k2, fun D hD => ⟨(k3 D hD).1, ?_⟩⟩
  have h1 := (k3 D hD).2
  rw [(he.free D (lt_of_heap h1) (Free.of_other hE hnm h1 rfl)).1]
  exact h1

section
variable {P : Program} {N : Nat} {Q : Exit → St → Prop} {st : St}
theorem AWM.of {c : Code} (h : AWP P N c (fun e s => Q e s ∧ NoMap s.rows) st) : AWM P N c Q st := by
  intro hN hnm B ds X m w a hr hm hB
  refine wpIn_mono (h hN none ds X m w a hr) ?_
  rintro e a' w' ⟨s, m', ⟨hq, hs⟩, hN', hr', hev⟩
  exact ⟨s, m', ds, hq, hs, hN', hr', hm.evo (E := ⟨st.rows, m, w, X⟩) hr.rel hnm hev, hev⟩
theorem AWM.mono {c : Code} {Q' : Exit → St → Prop} (h : AWM P N c Q st) (hq : ∀ e s, Q e s → Q' e s) : AWM P N c Q' st :=
  fun hN hnm B ds X m w a hr hm hB => wpIn_mono (h hN hnm B ds X m w a hr hm hB) fun e _ _ ⟨s, m', ds', k1, k2⟩ => ⟨s, m', ds', hq _ _ k1, k2⟩
theorem AWM.seq {x y : Code} (h : AWM P N x (thenQ (AWM P N y Q) Q) st) : AWM P N (.seq x y) Q st := by
  intro hN hnm B ds X m w a hr hm hB
  refine wpIn_seq (wpIn_mono (h hN hnm B ds X m w a hr hm hB) ?_)
  rintro e a' w' ⟨st', m', ds', hq, hnm', hN', hr', hm', hev⟩
  cases e with
  | normal => exact wpIn_mono (hq hN' hnm' B ds' X m' w' a' hr' hm' (Nat.le_trans hB hev.size)) fun e _ _ ⟨s2, m2, ds2, k1, k2, k3, k4, k5, k6⟩ => ⟨s2, m2, ds2, k1, k2, k3, k4, k5, hev.trans k6⟩
  | exit id => exact ⟨st', m', ds', hq, hnm', hN', hr', hm', hev⟩
  | goto l => exact ⟨st', m', ds', hq, hnm', hN', hr', hm', hev⟩
  | ret => exact ⟨st', m', ds', hq, hnm', hN', hr', hm', hev⟩
  | panic ch => exact ⟨st', m', ds', hq, hnm', hN', hr', hm', hev⟩
  | outgrown => exact ⟨st', m', ds', hq, hnm', hN', hr', hm', hev⟩
theorem AWM.block {id : Nat} {c : Code} (h : AWM P N c (inBlockQ id Q) st) : AWM P N (.block id c) Q st := by
  intro hN hnm B ds X m w a hr hm hB
  refine wpIn_block (wpIn_mono (h hN hnm B ds X m w a hr hm hB) ?_)
  rintro e a' w' ⟨s, m', ds', hq, hx⟩
  cases e with
  | exit id' =>
    simp only [inBlockQ] at hq
    simp only [Exit.inBlock]
    split
    · rename_i he; rw [if_pos he] at hq; exact ⟨s, m', ds', hq, hx⟩
    · rename_i he; rw [if_neg he] at hq; exact ⟨s, m', ds', hq, hx⟩
  | normal => exact ⟨s, m', ds', hq, hx⟩
  | goto l => exact ⟨s, m', ds', hq, hx⟩
  | ret => exact ⟨s, m', ds', hq, hx⟩
  | panic ch => exact ⟨s, m', ds', hq, hx⟩
  | outgrown => exact ⟨s, m', ds', hq, hx⟩
theorem AWM.weaken {c : Code} {st' : St} (hw : Weak N st st') (hs : NoMap st'.rows) (h : AWM P N c Q st') : AWM P N c Q st := by
  intro hN hnm B ds X m w a hr hm hB
  obtain ⟨hN', hw'⟩ := hw hN
  obtain ⟨m', hr', hev⟩ := hw' ds X m w a hr
  exact wpIn_mono (h hN' hs B ds X m' w a hr' (hm.evo (E := ⟨st.rows, m, w, X⟩) hr.rel hnm hev) hB) fun e _ _ ⟨s2, m2, ds2, k1, k2, k3, k4, k5, k6⟩ => ⟨s2, m2, ds2, k1, k2, k3, k4, k5, hev.trans k6⟩
end

/-- The marks are come to, one by one. -/
theorem marks_leave {P : Program} {fn : Func} {tmps : Array Value} {R : Ending → World → Prop} {B : Nat} {I : World → Prop} (hI : ∀ W D o, I W → B ≤ D → W.heap[D]? = some o → o.isCells = false → I (W.putObj D (.deferred none)))
    (hR : ∀ W, I W → ∃ v, (results fn tmps).run P W = .ok v W ∧ R (.returned v) W) : ∀ (Ds : List Nat) (w : World), Ds.Nodup → (∀ D ∈ Ds, B ≤ D ∧ w.heap[D]? = some (.deferred (some []))) → I w →
    LeavesInM (Fw none) 0 P fn tmps R (Ds.map mark) .returning w
  | [], w, _, _, hi => hR w hi
  | D :: Ds, w, hn, hd, hi => by
    obtain ⟨h1, h2⟩ := hd D (by simp)
    refine ⟨by simp, .inl ⟨D, _, rfl, run_takeDeferred h2, ?_⟩⟩
    simp only [List.nodup_cons] at hn
    refine marks_leave hI hR Ds _ hn.2 (fun D' hD' => ⟨(hd D' (by simp [hD'])).1, ?_⟩) (hI _ _ _ hi h1 h2 rfl)
    have hne : D' ≠ D := fun e => hn.1 (by rw [← e]; exact hD')
    exact (World.putObj_heap_other hne).trans (hd D' (by simp [hD'])).2

/-- A function's body that holds a range over a function. -/
theorem EvD.bodyM {P : Program} {f : FuncId} {fn : Func} {c : Code} {args : List AVal} {r : AVal} (hf : P.funcs[f]? = some fn) (hb : fn.body = some c) (hd : dataAll args = true) (hr : r.data = true)
    (h : AWM P 0 c (fun e st' => (e = .normal ∨ e = .ret) ∧ ∃ r1, resA' P fn.results st' = some r1 ∧ Shrink 0 st'.rows r1 [] r) ⟨args ++ List.replicate (fn.ntmps - args.length) .undef, []⟩) : EvD P f args r := by
  refine EvD.of hd hr ?_
  intro X m w vs hrel hvl
  refine calls_out (n := 0) (callsIn_of_wp_marks hf hb trivial ?_)
  have hst : RelSt [] X ⟨args ++ List.replicate (fn.ntmps - args.length) .undef, []⟩ m w { tmps := vs.toArray ++ Array.replicate (fn.ntmps - vs.toArray.size) Go.undef, defers := [] } := by
    refine ⟨hrel, by simp [hvl.1], ?_, rfl⟩
    intro i hi
    rcases Nat.lt_or_ge i args.length with h' | h'
    · have e1 : (args ++ List.replicate (fn.ntmps - args.length) AVal.undef).getD i .undef = args.getD i .undef := by
        rw [List.getD_eq_getElem?_getD, List.getD_eq_getElem?_getD, List.getElem?_append_left h']
      have e2 : (vs.toArray ++ Array.replicate (fn.ntmps - vs.toArray.size) Go.undef).getD i Go.undef = vs.getD i Go.undef := by
        have hv : i < vs.length := by rw [← hvl.1]; exact h'
        simp [Array.getD_eq_getD_getElem?, List.getD_eq_getElem?_getD, Array.getElem?_append, hv]
      show V _ _ _
      rw [e1, e2]; exact hvl.2 i h'
    · have e1 : (args ++ List.replicate (fn.ntmps - args.length) AVal.undef).getD i .undef = .undef := by
        rw [List.getD_eq_getElem?_getD, List.getElem?_append_right h', List.getElem?_replicate]
        split <;> rfl
      rw [e1]; exact .undef _
  refine wpIn_mono (h (Nat.zero_le _) (fun i r h => by simp at h) w.heap.size [] X m w _ hst ⟨[], rfl, List.nodup_nil, fun D h => by simp at h⟩ (Nat.le_refl _)) ?_
  rintro e a' w' ⟨st', m', ds', ⟨he, r1, hr1, hsh⟩, hnm, _, hr', ⟨Ds, k1, k2, k3⟩, hev⟩
  have key : LeavesInM (Fw none) 0 P fn a'.tmps (fun e w' => ∃ v m', e = .returned v ∧ Rel ⟨[], m', w', X⟩ ∧ V ⟨[], m', w', X⟩ r v ∧ 0 ≤ 0 ∧ Evo 0 ⟨[], m, w, X⟩ ⟨[], m', w', X⟩) a'.defers .returning w' := by
    rw [hr'.defers, k1]
    refine marks_leave (B := w.heap.size) (I := fun W => RelSt ds' X st' m' W a' ∧ Evo 0 ⟨[], m, w, X⟩ ⟨st'.rows, m', W, X⟩) ?_ ?_ Ds w' k2 k3 ⟨hr', hev⟩
    · rintro W D o ⟨q1, q2⟩ hB hh ho
      have hg := grownBy_putObj' W D (.deferred none)
      obtain ⟨c1, c2, _⟩ := calm_step (E := ⟨st'.rows, m', W, X⟩) q1.rel hnm hg (fun r e => by cases e; exact ⟨o, hh, ho⟩)
      exact ⟨⟨c1, q1.len, fun i hi => c2 _ _ (q1.regs i hi), q1.defers⟩, q2.calm q1.rel hnm hg (fun r e => by cases e; exact ⟨hB, o, hh, ho⟩)⟩
    · rintro W ⟨q1, q2⟩
      obtain ⟨v, hv1, hv2⟩ := results_spec (P := P) q1 hr1
      obtain ⟨m2, j1, j2, j3, j4⟩ := hsh X m' W v q1.rel hv2 (Nat.zero_le _)
      exact ⟨v, hv1, v, m2, rfl, j1, j2, Nat.le_refl _, q2.trans j4⟩
  rcases he with rfl | rfl
  · exact key
  · exact key
end Go.Abs

set_option linter.unusedVariables false
set_option linter.unusedSimpArgs false
namespace Go.Abs
open Go
/-! ### The statement 'for .. := range f' -/
/-- What of the caller's cells may yet be written. -/
def Xof (rows : List Row) (m : Nat → Option Nat) (X : Nat → Nat → Prop) (b o : Nat) : Prop :=
  X b o ∨ ∃ (id : Nat) (r : Row), rows[id]? = some r ∧ r.st ≠ .frozen ∧ m id = some b ∧ ¬ (r.st = .grown ∧ o < r.cells.length)
theorem grown_trans {a b c : World} {row : Option Nat} (h : a.grownBy b row) (k : b.grownBy c row) : a.grownBy c row :=
  ⟨k.os.trans h.os, k.tape.trans h.tape, k.output.trans h.output, Nat.le_trans h.size k.size, fun j hj hn => (k.block j (Nat.lt_of_lt_of_le hj h.size) hn).trans (h.block j hj hn)⟩
def setAll (regs : List AVal) (l : List (Nat × AVal)) : List AVal := l.foldl (fun t q => t.set q.1 q.2) regs
theorem RelSt.fold {ds : List Deferred} {X : Nat → Nat → Prop} {m : Nat → Option Nat} {w : World} {rows : List Row} : ∀ (ps : List Nat) (xs : List AVal) (vs : List Value) (regs : List AVal) (t : Array Value), RelSt ds X ⟨regs, rows⟩ m w ⟨t, ds⟩ →
    xs.length = ps.length → xs.length = vs.length → (∀ i, i < xs.length → V ⟨rows, m, w, X⟩ (xs.getD i .undef) (vs.getD i Go.undef)) → RelSt ds X ⟨setAll regs (ps.zip xs), rows⟩ m w ⟨(ps.zip vs).foldl (fun t q => t.setIfInBounds q.1 q.2) t, ds⟩
  | [], xs, vs, regs, t, h, h1, h2, h3 => by
    have : xs = [] := List.eq_nil_of_length_eq_zero h1
    subst this
    exact h
  | p :: ps, xs, vs, regs, t, h, h1, h2, h3 => by
    match xs, vs, h1, h2, h3 with
    | x :: xs, v :: vs, h1, h2, h3 =>
      simp only [List.length_cons, Nat.add_right_cancel_iff] at h1 h2
      have hp : RelSt ds X ⟨regs.set p x, rows⟩ m w ⟨t.setIfInBounds p v, ds⟩ := h.put (dst := some p) h.rel (Evo.refl _ _) (by simpa using h3 0 (by simp))
      exact RelSt.fold ps xs vs _ _ hp h1 h2 (fun i hi => by simpa using h3 (i + 1) (by simp; omega))

end Go.Abs

set_option linter.unusedVariables false
set_option linter.unusedSimpArgs false
namespace Go.Abs
open Go
/-! ### nil in a variable of a row is a row of its own -/
theorem relabel_step {E : Env} (hE : Rel E) {id : Nat} {r : Row} (hr : E.rows[id]? = some r) (hs : r.st = .fresh) (j : Nat) (y : AVal) (hj : j < r.cells.length) (hy : ∀ v, V E (r.cells.getD j .undef) v → V E y v) :
    let E' : Env := ⟨E.rows.set id ⟨r.cells.set j y, r.esz, r.st⟩, E.m, E.w, E.x⟩
    Rel E' ∧ Evo E.rows.length E E' := by
  intro E'
  have hlt : id < E.rows.length := lt_of_get hr
  have hsame : ∀ (i : Nat) (s : Row), E'.rows[i]? = some s → (i ≠ id ∧ E.rows[i]? = some s) ∨ (i = id ∧ s = ⟨r.cells.set j y, r.esz, r.st⟩) := by
    intro i s h
    change (E.rows.set id _)[i]? = some s at h
    by_cases e : i = id
    · subst e
      rw [List.getElem?_set_self hlt] at h
      exact .inr ⟨rfl, by simpa using h.symm⟩
    · rw [List.getElem?_set_ne (fun h => e h.symm)] at h
      exact .inl ⟨e, h⟩
  have hrow : ∀ (i : Nat) (s : Row), E.rows[i]? = some s → ∃ s' : Row, E'.rows[i]? = some s' ∧ RowEvo E E' i s s' := by
    intro i s h
    by_cases e : i = id
    · subst e
      have : s = r := by rw [hr] at h; simpa using h.symm
      subst this
      refine ⟨⟨s.cells.set j y, s.esz, s.st⟩, ?_, .fresh hs hs rfl rfl (by simp) (fun _ _ _ h => h)⟩
      show (E.rows.set i _)[i]? = _
      rw [List.getElem?_set_self hlt]
    · refine ⟨s, ?_, RowEvo.keep rfl (fun _ _ _ _ h => h)⟩
      show (E.rows.set id _)[i]? = _
      rw [List.getElem?_set_ne (fun h => e h.symm)]; exact h
  have hst : ∀ (i : Nat) (s : Row), E'.rows[i]? = some s → ∃ s0 : Row, E.rows[i]? = some s0 ∧ s0.st = s.st ∧ s0.cells.length = s.cells.length := by
    intro i s h
    rcases hsame i s h with ⟨_, h⟩ | ⟨rfl, rfl⟩
    · exact ⟨s, h, rfl, rfl⟩
    · exact ⟨r, hr, rfl, by simp⟩
  have hst' : ∀ (i : Nat) (s : Row), E.rows[i]? = some s → ∃ s0 : Row, E'.rows[i]? = some s0 ∧ s0.st = s.st ∧ s0.cells.length = s.cells.length := by
    intro i s h
    by_cases e : i = id
    · subst e
      have : s = r := by rw [hr] at h; simpa using h.symm
      subst this
      exact ⟨⟨s.cells.set j y, s.esz, s.st⟩, by show (E.rows.set i _)[i]? = _; rw [List.getElem?_set_self hlt], rfl, by simp⟩
    · exact ⟨s, by show (E.rows.set id _)[i]? = _; rw [List.getElem?_set_ne (fun h => e h.symm)]; exact h, rfl, rfl⟩
  have hI : ∀ b o v, Imm E b o → E.w.cell? ⟨b, o, none⟩ = some v → Imm E' b o ∧ E'.w.cell? ⟨b, o, none⟩ = some v := by
    intro b o v h hc
    refine ⟨⟨h.1, h.2.1, fun i s hs' hns hm => ?_⟩, hc⟩
    obtain ⟨s0, q1, q2, q3⟩ := hst i s hs'
    have := h.2.2 i s0 q1 (by rw [q2]; exact hns) hm
    rwa [q2, q3] at this
  have hV : ∀ x v, V E x v → V E' x v := fun x v h => V.mono (N := E.rows.length) hI (fun i s _ h => hrow i s h) h h.refLt
  refine ⟨⟨hE.xlt, ?_, ?_, ?_, ?_, ?_⟩, ⟨fun x v h _ => hV x v h, Nat.le_refl _, ?_, rfl, rfl, rfl, hI⟩⟩
  · intro i s b h hns hm
    obtain ⟨s0, q1, q2, _⟩ := hst i s h
    exact hE.xr i s0 b q1 (by rw [q2]; exact hns) hm
  · intro i k s t b h1 h2 n1 n2 m1 m2
    obtain ⟨s0, q1, q2, _⟩ := hst i s h1
    obtain ⟨t0, p1, p2, _⟩ := hst k t h2
    exact hE.inj i k s0 t0 b q1 p1 (by rw [q2]; exact n1) (by rw [p2]; exact n2) m1 m2
  · intro i s h hns hnm
    rcases hsame i s h with ⟨_, h⟩ | ⟨rfl, rfl⟩
    · rcases hE.own i s h hns hnm with h' | ⟨b, c, e, k1, k2, k3, k4⟩
      · exact .inl h'
      · exact .inr ⟨b, c, e, k1, k2, k3, fun q hq => hV _ _ (k4 q hq)⟩
    · rcases hE.own i r hr (by rw [hs]; simp) (by rw [hs]; simp) with h' | ⟨b, c, e, k1, k2, k3, k4⟩
      · rw [h'.2] at hj; simp at hj
      · refine .inr ⟨b, c, e, k1, k2, by simpa using k3, fun q hq => ?_⟩
        have hq' : q < r.cells.length := by simpa using hq
        by_cases eq : q = j
        · subst eq
          have e1 : (r.cells.set q y).getD q .undef = y := by simp [List.getD_eq_getElem?_getD, hq']
          show V E' ((r.cells.set q y).getD q .undef) _
          rw [e1]
          exact hV _ _ (hy _ (k4 q hq'))
        · have e1 : (r.cells.set j y).getD q .undef = r.cells.getD q .undef := by simp [List.getD_eq_getElem?_getD, List.getElem?_set, show ¬ j = q from fun h => eq h.symm]
          show V E' ((r.cells.set j y).getD q .undef) _
          rw [e1]
          exact hV _ _ (k4 q hq')
  · intro i s h hg
    rcases hsame i s h with ⟨_, h⟩ | ⟨rfl, rfl⟩
    · exact hE.grown i s h hg
    · rw [hs] at hg; simp at hg
  · intro i s h hm
    rcases hsame i s h with ⟨_, h⟩ | ⟨rfl, rfl⟩
    · obtain ⟨b, es, k, k1, k2, k3, k4⟩ := hE.map i s h hm
      exact ⟨b, es, k, k1, k2, k3, fun q hq => ⟨hV _ _ (k4 q hq).1, hV _ _ (k4 q hq).2⟩⟩
    · rw [hs] at hm; simp at hm
  · intro b hb hf
    refine ⟨rfl, fun i s h hns => ?_⟩
    obtain ⟨s0, q1, q2, _⟩ := hst i s h
    exact hf i s0 q1 (by rw [q2]; exact hns)

theorem Weak.virtC {N : Nat} {st : St} (id j esz : Nat) (r : Row) (st' : St)
    (h : st.rows[id]? = some r ∧ r.st = .fresh ∧ r.cells[j]? = some (.sl [] 0 .nil) ∧ (⟨st.regs, (st.rows ++ [(⟨[], esz, .fresh⟩ : Row)]).set id { cells := r.cells.set j (.row st.rows.length 0 0), esz := r.esz, st := r.st }⟩ : St) = st') : Weak N st st' := by
  obtain ⟨h1, h2, h3, rfl⟩ := h
  intro hN
  refine ⟨by simp; omega, fun ds X m w a ha => ?_⟩
  obtain ⟨k1, k2⟩ := virtual_step ha.rel esz
  have hj : j < r.cells.length := by
    rcases Nat.lt_or_ge j r.cells.length with h' | h'
    · exact h'
    · rw [List.getElem?_eq_none h'] at h3; simp at h3
  have ecell : r.cells.getD j .undef = .sl [] 0 .nil := by rw [List.getD_eq_getElem?_getD, h3]; rfl
  obtain ⟨q1, q2⟩ := relabel_step k1 (id := id) (r := r) (by show (st.rows ++ [(⟨[], esz, .fresh⟩ : Row)])[id]? = _; rw [List.getElem?_append_left (lt_of_get h1)]; exact h1) h2 j (.row st.rows.length 0 0) hj (fun v hv => by
    rw [ecell] at hv
    have hb : ∃ base : Option Addr, v = .slice base 0 0 := by
      generalize hx : AVal.sl [] 0 .nil = x at hv
      cases hv <;> simp at hx
      · exact ⟨none, rfl⟩
      · rename_i hk3 a; exact ⟨some a, rfl⟩
      · rename_i b o cap vs hk2 hn hd hv hm
        obtain ⟨rfl, rfl, rfl⟩ := hx
        simp at hk2
    obtain ⟨base, rfl⟩ := hb
    exact .rowV st.rows.length ⟨[], esz, .fresh⟩ base (by simp) (.inr (.inl ⟨.inl rfl, by simp⟩)))
  refine ⟨_, ⟨q1, ha.len, fun i hi => ?_, ha.defers⟩, ?_⟩
  · exact q2.val _ _ (k2.val _ _ (ha.regs i hi) (ha.regs i hi).refLt) (AVal.lt_mono (by simp) _ (ha.regs i hi).refLt)
  · exact (k2.mono hN).trans (q2.mono (by simp; omega))
theorem Weak.refl (N : Nat) (st : St) : Weak N st st := fun hN => ⟨hN, fun ds X m w a ha => ⟨m, ha, Evo.refl _ _⟩⟩
theorem Weak.trans {N : Nat} {A B C : St} (h : Weak N A B) (k : Weak N B C) : Weak N A C := fun hN =>
  let ⟨h1, h2⟩ := h hN; let ⟨k1, k2⟩ := k h1
  ⟨k1, fun ds X m w a ha => let ⟨m1, a1, e1⟩ := h2 ds X m w a ha; let ⟨m2, a2, e2⟩ := k2 ds X m1 w a a1; ⟨m2, a2, e1.trans e2⟩⟩
end Go.Abs
namespace Go.Abs
open Go
theorem Weak.kill {N : Nat} {st : St} (l : List Nat) : Weak N st ⟨killL l st.regs, st.rows⟩ := by
  intro hN
  refine ⟨hN, fun ds X m w a ha => ⟨m, ⟨ha.rel, by rw [killL_length]; exact ha.len, fun i hi => ?_, ha.defers⟩, Evo.refl _ _⟩⟩
  rcases killL_get l st.regs i with h | h
  · show V _ ((killL l st.regs).getD i .undef) _
    rw [h]; exact ha.reg i
  · show V _ ((killL l st.regs).getD i .undef) _
    rw [h]; exact .undef _
end Go.Abs
namespace Go.Abs
open Go
theorem WfRows.of {rows : List Row} {n : Nat} (h : ∀ r ∈ rows, ltAll n r.cells = true) : WfRows n rows := fun i r hi _ => h r (List.mem_of_getElem? hi)
theorem Weak.cutW {N : Nat} {st : St} {rows2 : List Row} (k : Nat) (h2 : st.rows.take k = rows2) (hN : N ≤ rows2.length) (hr : ltAll rows2.length st.regs = true)
    (hd : WfRows rows2.length rows2) : Weak N st ⟨st.regs, rows2⟩ := by
  refine Weak.of_shrink ?_ rfl hN
  have e : st.rows = rows2 ++ st.rows.drop k := by rw [← h2, List.take_append_drop]
  rw [e]
  exact Shrink.drop hN hd hr
theorem Weak.grow {N : Nat} {st : St} (id : Nat) (r : Row) (st' : St) (h : st.rows[id]? = some r ∧ (⟨st.regs, st.rows.set id { r with st := .grown }⟩ : St) = st') (hs : r.st = .fresh) (hd : dataAll r.cells = true) : Weak N st st' := by
  obtain ⟨h1, rfl⟩ := h
  intro hN
  refine ⟨by simpa using hN, fun ds X m w a ha => ?_⟩
  obtain ⟨a1, a2⟩ := grow_step (E := ⟨st.rows, m, w, X⟩) ha.rel h1 hs hd
  exact ⟨m, ⟨a1, ha.len, fun i hi => a2.val _ _ (ha.regs i hi) (ha.regs i hi).refLt, ha.defers⟩, a2.mono hN⟩
theorem NoMap.of {rows : List Row} (h : rows.all (fun r => decide (r.st ≠ .map)) = true) : NoMap rows := fun i r hi => by
  have := List.all_eq_true.1 h r (List.mem_of_getElem? hi)
  simpa using this
end Go.Abs
namespace Go.Abs
open Go
end Go.Abs

/-! Rows that are lost; what Insert and Delete of slices do to the memory. -/
set_option linter.unusedVariables false
set_option linter.unusedSimpArgs false
namespace Go.Abs
open Go
theorem run_copyK {P : Program} (w : World) (dT sT ty elem : TypeId) (b o dLen dCap : Nat) (a : Addr) (sLen sCap sz k : Nat) (cs : List Value)
    (hu : P.underlying dT = some (.slice elem)) (hs : (P.info? elem).map (·.size) = some sz) (hk : Nat.min sLen dLen = k) (hn : cs.length = k * sz)
    (hsrc : ∀ j v, cs[j]? = some v → w.cell? (a.add j) = some v) (hc : ∀ j, j < cs.length → (w.cell? ⟨b, o + j, none⟩).isSome = true) (hf : ∀ j, j < cs.length → w.frozen? ⟨b, o + j, none⟩ = false) (h1 : ∀ v ∈ cs, v.oneCell' = true) :
    (Builtin.copy_ #[dT, sT] ty #[.slice (some ⟨b, o, none⟩) dLen dCap, .slice (some a) sLen sCap]).run P w = .ok (goInt k) (w.setCells b o cs) := by
  subst hk
  have hl := run_loadCells_list (P := P) w a cs hsrc
  have hst := run_storeCells_cells (P := P) b o cs 0 w (by simpa using hc) (by simpa using hf) h1
  cases hq : P.info? elem with
  | none => simp [hq] at hs
  | some i =>
    have hi : i.size = sz := by simpa [hq] using hs
    simp [Builtin.copy_, run_underlying hu, Builtin.lenOf, Builtin.firstCells, sizeOf, typeInfo, hq, hi, ← hn, hl, hst]
theorem setCells_heap (b : Nat) : ∀ (vs : List Value) (o : Nat) (w : World), (w.setCells b o vs).heap.size = w.heap.size ∧ (∀ k, k ≠ b → (w.setCells b o vs).heap[k]? = w.heap[k]?) ∧ (w.setCells b o vs).os = w.os ∧ (w.setCells b o vs).tape = w.tape ∧ (w.setCells b o vs).output = w.output
  | [], o, w => ⟨rfl, fun _ _ => rfl, rfl, rfl, rfl⟩
  | v :: r, o, w => by
    obtain ⟨h1, h2, h3, h4, h5⟩ := setCells_heap b r (o + 1) (w.setCell ⟨b, o, none⟩ v)
    refine ⟨?_, fun k hk => ?_, ?_, ?_, ?_⟩
    · rw [World.setCells, h1]; simp
    · rw [World.setCells, h2 k hk]; exact heap_setCell_other w _ k v hk
    · rw [World.setCells, h3]; rfl
    · rw [World.setCells, h4]; rfl
    · rw [World.setCells, h5]; rfl
/-- A row is lost, and its block is anybody's. -/
theorem dead_step {E : Env} (hE : Rel E) {id : Nat} {r : Row} (hr : E.rows[id]? = some r) (hnm : r.st ≠ .map) (hnu : r.st ≠ .unborn) {w' : World} (hsz : E.w.heap.size ≤ w'.heap.size)
    (hold : ∀ b', b' < E.w.heap.size → (E.m id = some b' → r.st = .frozen) → w'.heap[b']? = E.w.heap[b']?) (hos : w'.os = E.w.os) (htp : w'.tape = E.w.tape) (hout : w'.output = E.w.output)
    (hgr : r.st = .grown → w' = E.w) :
    Rel ⟨E.rows.set id ⟨[], r.esz, .dead⟩, fun i => if i = id then none else E.m i, w', E.x⟩ ∧ Evo E.rows.length E ⟨E.rows.set id ⟨[], r.esz, .dead⟩, fun i => if i = id then none else E.m i, w', E.x⟩ := by
  have hother : ∀ (i : Nat) (s : Row) (b : Nat), i ≠ id → E.rows[i]? = some s → s.st ≠ .frozen → E.m i = some b → E.m id = some b → r.st = .frozen := fun i s b hne h hn hm hm2 =>
    Classical.byContradiction fun hns => hne (hE.inj i id s r b h hr hn hns hm hm2)
  have hI : ∀ b o v, Imm E b o → E.w.cell? ⟨b, o, none⟩ = some v → Imm ⟨E.rows.set id ⟨[], r.esz, .dead⟩, fun i => if i = id then none else E.m i, w', E.x⟩ b o ∧ w'.cell? ⟨b, o, none⟩ = some v := by
    intro b o v hi hc
    refine ⟨⟨Nat.lt_of_lt_of_le hi.1 hsz, hi.2.1, fun i s h1 h2 h3 => ?_⟩, ?_⟩
    · rcases get_set_cases h1 with ⟨rfl, rfl, _⟩ | ⟨hne, h1'⟩
      · simp at h3
      · have h3' : E.m i = some b := by simpa [hne] using h3
        exact hi.2.2 i s h1' h2 h3'
    · by_cases hm : E.m id = some b
      · by_cases hns : r.st = .frozen
        · rw [cell_congr (hold b hi.1 (fun _ => hns))]; exact hc
        · have hg := (hi.2.2 id r hr hns hm).1
          rw [hgr hg]; exact hc
      · rw [cell_congr (hold b hi.1 (fun h => absurd h hm))]; exact hc
  have hR : ∀ (i : Nat) (s : Row), i < E.rows.length → E.rows[i]? = some s → ∃ s', (E.rows.set id ⟨[], r.esz, .dead⟩)[i]? = some s' ∧ RowEvo E ⟨E.rows.set id ⟨[], r.esz, .dead⟩, fun i => if i = id then none else E.m i, w', E.x⟩ i s s' := by
    intro i s _ h
    by_cases e : i = id
    · subst e
      rw [hr] at h; cases h
      exact ⟨_, get_set_same hr, .dead hnm hnu rfl (.inl rfl)⟩
    · refine ⟨s, by rw [get_set_other e]; exact h, RowEvo.keep (by simp [e]) (fun hst b o hm hc => ?_)⟩
      have hb : E.m id = some b → r.st = .frozen := hother i s b e h (by rcases hst with h | h <;> simp [h]) hm
      have hlt := hE.lt h (by rcases hst with h | h <;> simp [h]) hm
      show (w'.cell? _).isSome = true
      rw [cell_congr (hold b hlt hb)]; exact hc
  have hV : ∀ x v, V E x v → V ⟨E.rows.set id ⟨[], r.esz, .dead⟩, fun i => if i = id then none else E.m i, w', E.x⟩ x v := fun x v h => V.mono (N := E.rows.length) hI (fun i s hi hs => hR i s hi hs) h h.refLt
  refine ⟨⟨?_, ?_, ?_, ?_, ?_, ?_⟩, ⟨fun x v h _ => hV x v h, hsz, ?_, hos, htp, hout, hI⟩⟩
  · intro b o hx; exact Nat.lt_of_lt_of_le (hE.xlt b o hx) hsz
  · intro i s b h1 h2 h3 o
    rcases get_set_cases h1 with ⟨rfl, rfl, _⟩ | ⟨hne, h1'⟩
    · simp at h3
    · exact hE.xr i s b h1' h2 (by simpa [hne] using h3) o
  · intro i j s t b h1 h2 n1 n2 m1 m2
    rcases get_set_cases h1 with ⟨rfl, rfl, _⟩ | ⟨hne, h1'⟩
    · simp at m1
    · rcases get_set_cases h2 with ⟨rfl, rfl, _⟩ | ⟨hne2, h2'⟩
      · simp at m2
      · exact hE.inj i j s t b h1' h2' n1 n2 (by simpa [hne] using m1) (by simpa [hne2] using m2)
  · intro i s h1 n1 n2
    rcases get_set_cases h1 with ⟨rfl, rfl, _⟩ | ⟨hne, h1'⟩
    · exact .inl ⟨by simp, rfl⟩
    · rcases hE.own i s h1' n1 n2 with ⟨h, h'⟩ | ⟨b, c, e, k1, k2, k3, k4⟩
      · exact .inl ⟨by simpa [hne] using h, h'⟩
      · have hb : E.m id = some b → r.st = .frozen := hother i s b hne h1' n1 k1
        refine .inr ⟨b, c, e, by simpa [hne] using k1, ?_, k3, fun j hj => hV _ _ (k4 j hj)⟩
        show w'.heap[b]? = _
        rw [hold b (lt_of_heap k2) hb]; exact k2
  · intro i s h1 hg
    rcases get_set_cases h1 with ⟨rfl, rfl, _⟩ | ⟨hne, h1'⟩
    · simp at hg
    · exact hE.grown i s h1' hg
  · intro i s h1 hm
    rcases get_set_cases h1 with ⟨rfl, rfl, _⟩ | ⟨hne, h1'⟩
    · simp at hm
    · obtain ⟨b, es, k, k1, k2, k3, k4⟩ := hE.map i s h1' hm
      have hb : E.m id = some b → r.st = .frozen := hother i s b hne h1' (by simp [hm]) k1
      refine ⟨b, es, k, by simpa [hne] using k1, ?_, k3, fun j hj => ⟨hV _ _ (k4 j hj).1, hV _ _ (k4 j hj).2⟩⟩
      show w'.heap[b]? = _
      rw [hold b (lt_of_heap k2) hb]; exact k2
  · intro b hb hf
    have hm : E.m id = some b → r.st = .frozen := fun hm => Classical.byContradiction fun hns => hf id r hr hns hm
    refine ⟨hold b hb hm, fun i s h1 h2 h3 => ?_⟩
    rcases get_set_cases h1 with ⟨rfl, rfl, _⟩ | ⟨hne, h1'⟩
    · simp at h3
    · exact hf i s h1' h2 (by simpa [hne] using h3)
/-- A slice of what lies in a block that is nobody's. -/
theorem V.ofBlock {E : Env} {cells : List AVal} {n b o cap : Nat} (hn : n ≤ cap) (hd : dataAll cells = true) (hb : b < E.w.heap.size) (hx : ∀ o, ¬ E.x b o) (hf : Free E b) (vs : Nat → Value)
    (hc : ∀ i, i < cells.length → E.w.cell? ⟨b, o + i, none⟩ = some (vs i)) (hv : ∀ i, i < cells.length → V E (cells.getD i .undef) (vs i)) : V E (.sl cells n .any) (.slice (some ⟨b, o, none⟩) n cap) :=
  .sl cells n .any b o cap vs (.inl rfl) hn hd hv (fun i hi => ⟨hc i hi, hf.imm hb (hx _)⟩)
end Go.Abs

/-! slices.Insert into a fresh row. -/
set_option linter.unusedVariables false
set_option linter.unusedSimpArgs false
namespace Go.Abs
open Go
theorem run_overlaps_target {P : Program} (w : World) (tS tR e : TypeId) (ht : P.underlying tS = some (.slice e)) (size : Nat) (hz : ∀ w, (Go.sizeOf e).run P w = .ok size w)
    (a b : Addr) (la ca lb cb : Nat) (hne : a.block ≠ b.block) (tA tB : TypeId) (kA kB : Nat)
    (hsa : w.shape? a.block = some (tA, kA)) (hsb : w.shape? b.block = some (tB, kB)) (hkA : kA ≠ 0) (hkB : kB ≠ 0)
    (hfb : w.frozen? b = false) (hfe : w.frozen? { block := b.block, off := kB } = false) :
    (Extern.SlicesOverlaps.overlaps #[tS, tS] #[tR] #[.slice (some a) la ca, .slice (some b) lb cb]).run P w = .ok (.bool false) w := by
  have hnb : (a.block != b.block) = true := by simpa using hne
  have hnb' : (a.block == b.block) = false := by simpa using hne
  change Sem.run P (α := Value) (do
    let some t := (#[tS, tS] : Array TypeId)[0]? | stuck "slices.overlaps: no parameter types"
    let .slice elem ← underlying t | stuck "slices.overlaps: slice type expected"
    let size ← sizeOf elem
    match (some a : Option Addr), (some b : Option Addr) with
    | some a, some b =>
      if la = 0 ∨ lb = 0 ∨ size = 0 then pure (Value.bool false)
      else if a.block != b.block && (← frozen a) && (← frozen b) then unsupported .addressObserved
      else do
        if a.block != b.block then do
          noView a; noView b
          if ← mayBeOne a b then return Value.bool ((← choose (.extern "sameAddr.stringBytes" 2)) == 1)
        pure (Value.bool (a.block == b.block && a.off < b.off + lb * size && b.off < a.off + la * size))
    | _, _ => pure (Value.bool false)) w = _
  by_cases h0 : la = 0 ∨ lb = 0 ∨ size = 0
  · simp [run_underlying ht, hz, h0]
  · cases kB with
    | zero => exact absurd rfl hkB
    | succ kB =>
      cases kA with
      | zero => exact absurd rfl hkA
      | succ kA =>
      cases hfa : w.frozen? a <;> cases hfa2 : w.frozen? { block := a.block, off := kA + 1 } <;>
      simp [run_underlying ht, hz, h0, hnb, hnb', frozen, noView, viewAt, mayBeOne, stringish, shape, Sem.run, hsa, hsb, hfb, hfe, hfa, hfa2]
/-- What slices.Insert does to the memory. -/
structure InsRaw (P : Program) (f TS TE K B : Nat) : Prop where
  und : P.underlying TS = some (.slice TE)
  inf : (P.info? TE).bind (fun i => i.zero.map fun z => (i.size, i.bytes, z.cells.size)) = some (K, B, K)
  room : ∀ (b n c i vb vo vc : Nat) (cs vs : List Value) (w : World) (hi : i < n) (hroom : n + 1 ≤ c) (hn9 : n ≤ 1000000000) (hvb : vb ≠ b) (hcl : cs.length = n * K) (hvl : vs.length = K)
    (hcs : ∀ j v, cs[j]? = some v → w.cell? ⟨b, j, none⟩ = some v) (hsp : ∀ j, j < (n + 1) * K → (w.cell? ⟨b, j, none⟩).isSome = true) (hfz : ∀ j, w.frozen? ⟨b, j, none⟩ = false)
    (hvs : ∀ j v, vs[j]? = some v → w.cell? ⟨vb, vo + j, none⟩ = some v) (h1c : ∀ v ∈ cs, v.oneCell' = true) (h1v : ∀ v ∈ vs, v.oneCell' = true)
    (tA tB : TypeId) (kA kB : Nat) (hsa : w.shape? vb = some (tA, kA)) (hsb : w.shape? b = some (tB, kB)) (hkA : kA ≠ 0) (hkB : kB ≠ 0),
    Calls P f #[.slice (some ⟨b, 0, none⟩) n c, .int .i64 i, .slice (some ⟨vb, vo, none⟩) 1 vc] w fun e w' =>
      e = .returned (.slice (some ⟨b, 0, none⟩) (n + 1) c) ∧ w' = (w.drew.setCells b ((i + 1) * K) (cs.drop (i * K))).setCells b (i * K) vs
  grow : ∀ (b n c i vb vo vc : Nat) (cs vs : List Value) (w : World) (hi : i < n) (hnc : n ≤ c) (hroom : c < n + 1) (hbig : (n + 1) * B ≤ 140737488355328) (hvb : vb ≠ b) (hcl : cs.length = n * K) (hvl : vs.length = K)
    (hcs : ∀ j v, cs[j]? = some v → w.cell? ⟨b, j, none⟩ = some v)
    (hvs : ∀ j v, vs[j]? = some v → w.cell? ⟨vb, vo + j, none⟩ = some v) (h1c : ∀ v ∈ cs, v.oneCell' = true) (h1v : ∀ v ∈ vs, v.oneCell' = true),
    Calls P f #[.slice (some ⟨b, 0, none⟩) n c, .int .i64 i, .slice (some ⟨vb, vo, none⟩) 1 vc] w fun e w' =>
      ∃ G, ∃ R : Array Value, n + 1 ≤ G ∧ (n + 1) * K ≤ R.size ∧ (∀ (j : Nat) (v : Value), (cs.take (i * K))[j]? = some v → R[j]? = some v) ∧ e = .returned (.slice (some ⟨w.heap.size, 0, none⟩) (n + 1) G) ∧
      w' = (((w.drew.alloc (.cells R TE)).setCells w.heap.size (i * K) vs).drew).setCells w.heap.size ((i + 1) * K) (cs.drop (i * K))
  fin : ∀ (base vbase : Option Addr) (n c vc : Nat) (w w' : World) (q : Value) (hnc : n ≤ c) (hnil : base = none → c = 0)
    (hrun : (Builtin.append_ #[TS, TS] TS #[.slice base n c, .slice vbase 1 vc]).run P w = .ok q w'),
    Calls P f #[.slice base n c, .int .i64 n, .slice vbase 1 vc] w fun e W => e = .returned q ∧ W = w'
end Go.Abs

set_option linter.unusedVariables false
set_option linter.unusedSimpArgs false
namespace Go.Abs
open Go
theorem V.rowF_inv {E : Env} {id off n : Nat} {v : Value} {r : Row} (h : V E (.row id off n) v) (hr : E.rows[id]? = some r) (hs : r.st = .fresh) :
    (∃ b cap, v = .slice (some ⟨b, off, none⟩) n cap ∧ E.m id = some b ∧ n ≤ cap ∧ off + n * r.esz ≤ r.cells.length ∧ ∀ i, i < cap * r.esz → (E.w.cell? ⟨b, off + i, none⟩).isSome = true) ∨
    (∃ base, v = .slice base 0 0 ∧ off = 0 ∧ n = 0 ∧ E.m id = none) := by
  generalize hx : AVal.row id off n = x at h
  cases h <;> simp at hx
  · rename_i b cap r2 hr2 hs2 hm hn ho hc
    obtain ⟨rfl, rfl, rfl⟩ := hx
    rw [hr] at hr2; cases hr2
    exact .inl ⟨b, cap, rfl, hm, hn, ho, hc⟩
  · rename_i r2 base hr2 hs2
    obtain ⟨rfl, rfl, rfl⟩ := hx
    rw [hr] at hr2; cases hr2
    rcases hs2 with h | h | h
    · simp [hs] at h
    · exact .inr ⟨base, rfl, rfl, rfl, h.2⟩
    · simp [hs] at h
  · rename_i b o cap r2 vs hr2 hs2 hn ho hd2 hv hm he
    obtain ⟨rfl, rfl, rfl⟩ := hx
    rw [hr] at hr2; cases hr2
    rcases hs2 with h | h <;> simp [hs] at h
  · rename_i r2 hr2 hs2 h02 hv2
    obtain ⟨rfl, rfl, rfl⟩ := hx
    rw [hr] at hr2; cases hr2
    simp [hs] at hs2
theorem ins_getD {α : Type} (l x : List α) (a j : Nat) (d : α) (ha : a ≤ l.length) : (l.take a ++ x ++ l.drop a).getD j d = if j < a then l.getD j d else if j < a + x.length then x.getD (j - a) d else l.getD (j - x.length) d := by
  simp only [List.getD_eq_getElem?_getD, List.append_assoc]
  have h1 : (l.take a).length = a := by rw [List.length_take]; omega
  by_cases h : j < a
  · rw [if_pos h, List.getElem?_append_left (by omega), List.getElem?_take, if_pos h]
  · rw [if_neg h, List.getElem?_append_right (by omega), h1]
    by_cases h2 : j < a + x.length
    · rw [if_pos h2, List.getElem?_append_left (by omega)]
    · rw [if_neg h2, List.getElem?_append_right (by omega), List.getElem?_drop]
      congr 2; omega
theorem V.one_of {E : Env} {x : AVal} {v : Value} (h : V E x v) (h1 : x.one = true) (hd : x.data = true) : v.oneCell' = true :=
  V.oneCell h h1 (fun id off e => by subst e; simp [AVal.data] at hd)
theorem getD_mem {l : List AVal} (h : dataAll l = true) {j : Nat} (hj : j < l.length) : (l.getD j .undef).data = true := (dataAll_iff l).1 h j hj
theorem dataAll_ins {l x : List AVal} (hl : dataAll l = true) (hx : dataAll x = true) (a : Nat) : dataAll (l.take a ++ x ++ l.drop a) = true := by
  rw [dataAll_append, dataAll_append, dataAll_take _ hl, hx, dataAll_drop _ hl]; rfl
theorem shape_of_cell {w : World} {b o : Nat} {v : Value} (h : w.cell? ⟨b, o, none⟩ = some v) : ∃ t k, w.shape? b = some (t, k) ∧ k ≠ 0 := by
  simp only [World.cell?] at h
  cases hb : w.heap[b]? with
  | none => rw [hb] at h; simp at h
  | some ob =>
    rw [hb] at h
    cases ob with
    | cells c e fr =>
      refine ⟨e, c.size, by simp [World.shape?, hb], fun h0 => ?_⟩
      have : c = #[] := Array.eq_empty_of_size_eq_zero h0
      subst this
      simp at h
    | _ => simp at h
theorem InsRaw.ev {P : Program} {f TS TE K B : Nat} (h : InsRaw P f TS TE K B) (hK : 0 < K) (hB : 0 < B ∧ B ≤ 1000) {rows : List Row} {id n i : Nat} {cells xs : List AVal} {k : SlK} (hr : rows[id]? = some ⟨cells, K, .fresh⟩) (hl : cells.length = n * K)
    (hd : dataAll cells = true) (ho : ∀ j, j < cells.length → (cells.getD j .undef).one = true) (hx : xs.length = K) (hxd : dataAll xs = true) (hxo : ∀ j, j < xs.length → (xs.getD j .undef).one = true) (hi : i ≤ n) (hn : n ≤ 100000) :
    EvF P f [.row id 0 n, .sc (.int .i64 i), .sl xs 1 k] rows (.sl (cells.take (i * K) ++ xs ++ cells.drop (i * K)) (n + 1) .any) (rows.set id ⟨[], K, .dead⟩) := by
  intro X m w vs hrel hvl
  obtain ⟨hlen, hv⟩ := hvl
  match vs, hlen, hv with
  | [v0, v1, v2], _, hv =>
  have hv0 : V ⟨rows, m, w, X⟩ (.row id 0 n) v0 := hv 0 (by simp)
  have hv1 : V ⟨rows, m, w, X⟩ (.sc (.int .i64 i)) v1 := hv 1 (by simp)
  have hv2 : V ⟨rows, m, w, X⟩ (.sl xs 1 k) v2 := hv 2 (by simp)
  have e1 := hv1.sc_inv
  subst e1
  obtain ⟨vb, vo, vc, us, rfl, hvn, _, _, _, huv, hum⟩ : ∃ (vb vo vc : Nat) (us : Nat → Value), v2 = .slice (some ⟨vb, vo, none⟩) 1 vc ∧ 1 ≤ vc ∧ True ∧ True ∧ True ∧ (∀ j, j < xs.length → V ⟨rows, m, w, X⟩ (xs.getD j .undef) (us j)) ∧ (∀ j, j < xs.length → w.cell? ⟨vb, vo + j, none⟩ = some (us j) ∧ Imm ⟨rows, m, w, X⟩ vb (vo + j)) := by
    rcases hv2.sl_inv with ⟨_, h0, _⟩ | ⟨b, o, cap, us, rfl, hn, _, _, _, hvv, hmm⟩ | ⟨ad, _, h0, _⟩
    · subst h0; simp at hx; omega
    · exact ⟨b, o, cap, us, rfl, hn, trivial, trivial, trivial, hvv, hmm⟩
    · subst h0; simp at hx; omega
  have hinf : ∃ i0 z, P.info? TE = some i0 ∧ i0.zero = some z ∧ i0.size = K ∧ i0.bytes = B ∧ z.cells.size = K := by
    have h := h.inf
    cases hq : P.info? TE with
    | none => rw [hq] at h; cases h
    | some i0 =>
      rw [hq] at h
      cases hq2 : i0.zero with
      | none => simp [hq2] at h
      | some z =>
        simp [hq2] at h
        exact ⟨i0, z, rfl, hq2, h.1, h.2.1, h.2.2⟩
  obtain ⟨i0, z, hi0, hz0, hzs, hzb, hzc⟩ := hinf
  let E : Env := ⟨rows, m, w, X⟩
  have hid : id < rows.length := lt_of_get hr
  rcases Nat.lt_or_ge i n with hin | hin
  · -- in the middle
    obtain ⟨b, cap, rfl, hm, hcap, hoo, hcc⟩ : ∃ b cap, v0 = .slice (some ⟨b, 0, none⟩) n cap ∧ m id = some b ∧ n ≤ cap ∧ True ∧ ∀ j, j < cap * K → (w.cell? ⟨b, j, none⟩).isSome = true := by
      rcases hv0.rowF_inv hr rfl with ⟨b, cap, rfl, h1, h2, h3, h4⟩ | ⟨base, rfl, _, h0, _⟩
      · exact ⟨b, cap, rfl, h1, h2, trivial, fun j hj => by have := h4 j hj; rwa [Nat.zero_add] at this⟩
      · omega
    obtain ⟨c, e, hbk, hbl, hbv⟩ := hrel.block (E := E) hr (.inl rfl) hm
    have hbl : cells.length ≤ c.size := hbl
    have hblt : b < w.heap.size := lt_of_heap hbk
    let cs : List Value := c.toList.take (n * K)
    let ws : List Value := (List.range K).map us
    have hcsl : cs.length = n * K := by show (c.toList.take (n * K)).length = _; rw [List.length_take, Array.length_toList]; omega
    have hwsl : ws.length = K := by simp [ws]
    have hcsg : ∀ j, j < n * K → cs.getD j Go.undef = c.getD j Go.undef := fun j hj => by
      simp only [cs, List.getD_eq_getElem?_getD, List.getElem?_take, if_pos hj, Array.getD_eq_getD_getElem?, Array.getElem?_toList]
    have hwsg : ∀ j, j < K → ws.getD j Go.undef = us j := fun j hj => by simp [ws, List.getD_eq_getElem?_getD, hj]
    have getd : ∀ (l : List Value) (j : Nat) (v : Value), l[j]? = some v → j < l.length ∧ v = l.getD j Go.undef := fun l j v h0 => by
      rcases Nat.lt_or_ge j l.length with h1 | h1
      · exact ⟨h1, by rw [List.getD_eq_getElem?_getD, h0]; rfl⟩
      · rw [List.getElem?_eq_none h1] at h0; cases h0
    have hcs : ∀ (j : Nat) (v : Value), cs[j]? = some v → w.cell? ⟨b, j, none⟩ = some v := fun j v h0 => by
      obtain ⟨h1, rfl⟩ := getd _ _ _ h0
      rw [hcsl] at h1
      rw [hcsg j h1]
      exact cell_getD hbk (by omega)
    have hws : ∀ (j : Nat) (v : Value), ws[j]? = some v → w.cell? ⟨vb, vo + j, none⟩ = some v := fun j v h0 => by
      obtain ⟨h1, rfl⟩ := getd _ _ _ h0
      rw [hwsl] at h1
      rw [hwsg j h1]
      exact (hum j (by omega)).1
    have h1c : ∀ v ∈ cs, v.oneCell' = true := fun v h0 => by
      obtain ⟨j, hj⟩ := List.mem_iff_getElem?.1 h0
      obtain ⟨h1, rfl⟩ := getd _ _ _ hj
      rw [hcsl] at h1
      rw [hcsg j h1]
      exact V.one_of (hbv j (by show j < cells.length; omega)) (ho j (by omega)) (getD_mem hd (by omega))
    have h1v : ∀ v ∈ ws, v.oneCell' = true := fun v h0 => by
      obtain ⟨j, hj⟩ := List.mem_iff_getElem?.1 h0
      obtain ⟨h1, rfl⟩ := getd _ _ _ hj
      rw [hwsl] at h1
      rw [hwsg j h1]
      exact V.one_of (huv j (by omega)) (hxo j (by omega)) (getD_mem hxd (by omega))
    have hvb : vb ≠ b := fun e0 => by
      have := ((hum 0 (by omega)).2.2.2 id ⟨cells, K, .fresh⟩ hr (by simp) (by rw [e0]; exact hm)).1
      simp at this
    have hfz : ∀ j, w.frozen? ⟨b, j, none⟩ = false := fun j => by
      have hbk' : w.heap[b]? = some (.cells c e (0, 0)) := hbk
      simp [World.frozen?, hbk']
    obtain ⟨tA, kA, hsa, hkA⟩ := shape_of_cell (hum 0 (by omega)).1
    have hn0 : 0 < n * K := Nat.mul_pos (by omega) hK
    obtain ⟨tB, kB, hsb, hkB⟩ := shape_of_cell (w := w) (b := b) (o := 0) (cell_getD (o := 0) hbk (by omega))
    have hiK : (i + 1) * K = i * K + K := by rw [Nat.add_mul, Nat.one_mul]
    have hiK2 : i * K + K ≤ n * K := by rw [← hiK]; exact Nat.mul_le_mul_right _ (by omega)
    have hnK : (n + 1) * K = n * K + K := by rw [Nat.add_mul, Nat.one_mul]
    have hdl : (cs.drop (i * K)).length = n * K - i * K := by rw [List.length_drop, hcsl]
    -- what both roads come to
    have fin : ∀ (b' cap' : Nat) (w' : World), n + 1 ≤ cap' → w.heap.size ≤ w'.heap.size → (∀ b2, b2 < w.heap.size → m id ≠ some b2 → w'.heap[b2]? = w.heap[b2]?) → w'.os = w.os → w'.tape = w.tape → w'.output = w.output →
        b' < w'.heap.size → (∀ o, ¬ X b' o) → (∀ (i2 : Nat) (s : Row), i2 ≠ id → rows[i2]? = some s → s.st ≠ .frozen → m i2 ≠ some b') →
        (∀ j, j < (n + 1) * K → w'.cell? ⟨b', j, none⟩ = some ((cs.take (i * K) ++ ws ++ cs.drop (i * K)).getD j Go.undef)) →
        ∃ v m', Ending.returned (.slice (some ⟨b', 0, none⟩) (n + 1) cap') = Ending.returned v ∧ Rel ⟨rows.set id ⟨[], K, .dead⟩, m', w', X⟩ ∧ V ⟨rows.set id ⟨[], K, .dead⟩, m', w', X⟩ (.sl (cells.take (i * K) ++ xs ++ cells.drop (i * K)) (n + 1) .any) v ∧ rows.length ≤ (rows.set id ⟨[], K, .dead⟩).length ∧ Evo rows.length ⟨rows, m, w, X⟩ ⟨rows.set id ⟨[], K, .dead⟩, m', w', X⟩ := by
      intro b' cap' w' hcp hsz hold hos htp hout hb' hx' hf' hcell
      obtain ⟨k1, k2⟩ := dead_step (E := E) hrel hr (by simp) (by simp) (w' := w') hsz (fun b2 h2 h3 => hold b2 h2 (fun h4 => by have := h3 h4; simp at this)) hos htp hout (fun h2 => by simp at h2)
      refine ⟨_, _, rfl, k1, ?_, by simp, k2⟩
      have hcl2 : (cells.take (i * K) ++ xs ++ cells.drop (i * K)).length = (n + 1) * K := by
        simp only [List.length_append, List.length_take, List.length_drop, hl, hx]; omega
      refine V.ofBlock hcp (dataAll_ins hd hxd _) hb' hx' (fun i2 s h1 h2 h3 => ?_) (fun j => (cs.take (i * K) ++ ws ++ cs.drop (i * K)).getD j Go.undef) (fun j hj => ?_) (fun j hj => ?_)
      · rcases get_set_cases h1 with ⟨rfl, rfl, _⟩ | ⟨hne, h1'⟩
        · simp at h3
        · exact hf' i2 s hne h1' h2 (by simpa [hne] using h3)
      · rw [Nat.zero_add]; exact hcell j (by rwa [hcl2] at hj)
      · rw [hcl2] at hj
        show V _ _ ((cs.take (i * K) ++ ws ++ cs.drop (i * K)).getD j Go.undef)
        rw [ins_getD cells xs (i * K) j .undef (by omega), ins_getD cs ws (i * K) j Go.undef (by omega), hx, hwsl]
        have hV : ∀ x v, V E x v → V ⟨rows.set id ⟨[], K, .dead⟩, fun i => if i = id then none else m i, w', X⟩ x v := fun x v h => k2.val x v h h.refLt
        split
        · rw [hcsg j (by omega)]; exact hV _ _ (hbv j (by show j < cells.length; omega))
        · split
          · rw [hwsg _ (by omega)]; exact hV _ _ (huv _ (by omega))
          · rw [hcsg _ (by omega)]; exact hV _ _ (hbv _ (by show _ < cells.length; omega))
    rcases Nat.lt_or_ge cap (n + 1) with hcp | hcp
    · -- a new block
      refine (h.grow b n cap i vb vo vc cs ws w hin hcap hcp (by have : (n + 1) * B ≤ 100001 * 1000 := Nat.mul_le_mul (by omega) hB.2; omega) hvb hcsl hwsl hcs hws h1c h1v).mono ?_
      rintro e' w' ⟨G, R, hG, hR, hRt, rfl, rfl⟩
      let W1 : World := w.drew.alloc (.cells R TE)
      let W2 : World := W1.setCells w.heap.size (i * K) ws
      obtain ⟨p1, p2, p3, p4, p5⟩ := setCells_heap w.heap.size ws (i * K) W1
      obtain ⟨q1, q2, q3, q4, q5⟩ := setCells_heap w.heap.size (cs.drop (i * K)) ((i + 1) * K) W2.drew
      have hs1 : W1.heap.size = w.heap.size + 1 := by show (w.heap.push _).size = _; rw [Array.size_push]
      have hnew : ∀ j, W1.cell? ⟨w.heap.size, j, none⟩ = R[j]? := fun j => World.cell?_alloc_at (w := w.drew) R TE w.heap.size j rfl
      have hsm : ∀ j, j < (n + 1) * K → (W1.cell? ⟨w.heap.size, j, none⟩).isSome = true := fun j hj => by rw [hnew, Array.getElem?_eq_getElem (by omega)]; rfl
      refine fin _ _ _ hG ?_ ?_ ?_ ?_ ?_ ?_ ?_ ?_ ?_
      · rw [q1]; show w.heap.size ≤ W2.heap.size; rw [p1, hs1]; omega
      · intro b2 hb2 _
        rw [q2 b2 (by omega)]; show W2.heap[b2]? = _; rw [p2 b2 (by omega)]; exact alloc_old hb2
      · rw [q3]; exact p3
      · rw [q4]; exact p4
      · rw [q5]; exact p5
      · rw [q1]; show w.heap.size < W2.heap.size; rw [p1, hs1]; omega
      · intro o hx2; exact absurd (hrel.xlt _ _ hx2) (by show ¬ w.heap.size < w.heap.size; omega)
      · intro i2 s hne h1 h2 h3; exact absurd (hrel.lt (E := E) h1 h2 h3) (by show ¬ w.heap.size < w.heap.size; omega)
      · intro j hj
        rw [ins_getD cs ws (i * K) j Go.undef (by omega), hwsl]
        by_cases h1 : j < i * K
        · rw [if_pos h1, World.cell?_setCells_out _ _ _ _ _ (fun _ _ => .inl (by show j < _; omega))]
          show W2.cell? _ = _
          rw [World.cell?_setCells_out _ _ _ _ _ (fun _ _ => .inl (by show j < _; omega)), hnew]
          refine hRt j _ ?_
          rw [List.getElem?_take, if_pos h1, List.getElem?_eq_getElem (by omega), List.getD_eq_getElem?_getD, List.getElem?_eq_getElem (by omega)]; rfl
        · rw [if_neg h1]
          by_cases h2 : j < i * K + K
          · rw [if_pos h2, World.cell?_setCells_out _ _ _ _ _ (fun _ _ => .inl (by show j < _; omega))]
            show W2.cell? _ = _
            have := World.cell?_setCells_in w.heap.size ws (i * K) W1 (fun t ht => hsm _ (by omega)) (j - i * K) (by omega)
            rw [show i * K + (j - i * K) = j by omega] at this
            rw [this, List.getD_eq_getElem?_getD, List.getElem?_eq_getElem (by omega)]; rfl
          · rw [if_neg h2]
            have hs2 : ∀ t, t < (n + 1) * K → (W2.drew.cell? ⟨w.heap.size, t, none⟩).isSome = true := fun t ht => Go.Proofs.isSome_setCells w.heap.size ws (i * K) W1 (fun t ht => hsm _ (by omega)) t (hsm t ht)
            have := World.cell?_setCells_in w.heap.size (cs.drop (i * K)) ((i + 1) * K) W2.drew (fun t ht => hs2 _ (by omega)) (j - (i + 1) * K) (by omega)
            rw [show (i + 1) * K + (j - (i + 1) * K) = j by omega] at this
            rw [this, List.getElem_drop, List.getD_eq_getElem?_getD, List.getElem?_eq_getElem (by omega)]
            simp only [Option.getD_some]
            congr 2; omega
    · refine (h.room b n cap i vb vo vc cs ws w hin hcp (by omega) hvb hcsl hwsl hcs (fun j hj => hcc j (Nat.lt_of_lt_of_le hj (Nat.mul_le_mul_right _ hcp))) hfz hws h1c h1v tA tB kA kB hsa hsb hkA hkB).mono ?_
      rintro e' w' ⟨rfl, rfl⟩
      let W1 : World := w.drew.setCells b ((i + 1) * K) (cs.drop (i * K))
      obtain ⟨p1, p2, p3, p4, p5⟩ := setCells_heap b (cs.drop (i * K)) ((i + 1) * K) w.drew
      obtain ⟨q1, q2, q3, q4, q5⟩ := setCells_heap b ws (i * K) W1
      have hsm : ∀ j, j < (n + 1) * K → (w.drew.cell? ⟨b, j, none⟩).isSome = true := fun j hj => hcc j (Nat.lt_of_lt_of_le hj (Nat.mul_le_mul_right _ hcp))
      have hsm1 : ∀ j, j < (n + 1) * K → (W1.cell? ⟨b, j, none⟩).isSome = true := fun j hj => Go.Proofs.isSome_setCells b _ _ _ (fun t ht => hsm _ (by omega)) _ (hsm j hj)
      refine fin _ _ _ hcp ?_ ?_ ?_ ?_ ?_ ?_ ?_ ?_ ?_
      · rw [q1, p1]; exact Nat.le_refl _
      · intro b2 hb2 hne
        have : b2 ≠ b := fun e0 => hne (by rw [e0]; exact hm)
        rw [q2 b2 this, p2 b2 this]; rfl
      · rw [q3]; exact p3
      · rw [q4]; exact p4
      · rw [q5]; exact p5
      · rw [q1, p1]; exact hblt
      · intro o; exact hrel.xr id _ b hr (by simp) hm o
      · intro i2 s hne h1 h2 h3; exact hne (hrel.inj i2 id s _ b h1 hr h2 (by simp) h3 hm)
      · intro j hj
        rw [ins_getD cs ws (i * K) j Go.undef (by omega), hwsl]
        by_cases h1 : j < i * K
        · rw [if_pos h1, World.cell?_setCells_out _ _ _ _ _ (fun _ _ => .inl (by show j < _; omega)), World.cell?_setCells_out _ _ _ _ _ (fun _ _ => .inl (by show j < _; omega))]
          refine hcs j _ ?_
          rw [List.getD_eq_getElem?_getD, List.getElem?_eq_getElem (by omega)]; rfl
        · rw [if_neg h1]
          by_cases h2 : j < i * K + K
          · rw [if_pos h2]
            have := World.cell?_setCells_in b ws (i * K) W1 (fun t ht => hsm1 _ (by omega)) (j - i * K) (by omega)
            rw [show i * K + (j - i * K) = j by omega] at this
            rw [this, List.getD_eq_getElem?_getD, List.getElem?_eq_getElem (by omega)]; rfl
          · rw [if_neg h2, World.cell?_setCells_out _ _ _ _ _ (fun _ _ => .inr (by show _ ≤ j; omega))]
            have := World.cell?_setCells_in b (cs.drop (i * K)) ((i + 1) * K) w.drew (fun t ht => hsm _ (by omega)) (j - (i + 1) * K) (by omega)
            rw [show (i + 1) * K + (j - (i + 1) * K) = j by omega] at this
            rw [this, List.getElem_drop, List.getD_eq_getElem?_getD, List.getElem?_eq_getElem (by omega)]
            simp only [Option.getD_some]
            congr 2; omega
  · -- at the end
    have hie : i = n := by omega
    subst hie
    obtain ⟨sz, rfl⟩ : ∃ sz, K = sz + 1 := ⟨K - 1, by omega⟩
    have ha : appendA P #[TS, TS] (.row id 0 i) (.sl xs 1 k) rows = some (xs.length = 1 * (sz + 1) ∧ (sz + 1) = sz + 1 ∧ i * (sz + 1) = cells.length ∧ i + 1 ≤ 1073741824 ∧ dataAll (cells ++ xs) = true ∧ ∀ j, j < xs.length → (xs.getD j .undef).one = true, .row id 0 (i + 1), rows.set id ⟨cells ++ xs, sz + 1, .grown⟩) := by
      simp only [appendA, List.getElem?_toArray, List.getElem?_cons_zero, List.getElem?_cons_succ, h.und, hi0, hzs, hz0]
      rw [if_neg (by rw [hzb, hzc]; omega)]
      simp [srcA, h.und, hr]
    have hdx : dataAll (cells ++ xs) = true := by rw [dataAll_append, hd, hxd]; rfl
    obtain ⟨q, w', m', hrun, k1, k2, _, k3⟩ := append_spec (ty := TS) ha ⟨by omega, rfl, hl.symm, by omega, hdx, hxo⟩ hrel hv0 hv2
    have hgo : ∃ base cap, v0 = .slice base i cap ∧ i ≤ cap ∧ (base = none → cap = 0) := by
      rcases hv0.rowF_inv hr rfl with ⟨b, cap, rfl, h1, h2, h3, h4⟩ | ⟨base, rfl, _, rfl, _⟩
      · exact ⟨_, cap, rfl, h2, fun h => by cases h⟩
      · exact ⟨base, 0, rfl, Nat.le_refl _, fun _ => rfl⟩
    obtain ⟨base, cap, rfl, hic, hnil⟩ := hgo
    refine (h.fin base _ i cap vc w w' q hic hnil hrun).mono ?_
    rintro e' W ⟨rfl, rfl⟩
    let r1 : Row := ⟨cells ++ xs, sz + 1, .grown⟩
    have hr1 : (rows.set id r1)[id]? = some r1 := get_set_same hr
    obtain ⟨f1, f2⟩ := freeze_step (E := ⟨rows.set id r1, m', W, X⟩) k1 hr1 (.inr rfl) hdx
    have hr2 : ((rows.set id r1).set id { r1 with st := .frozen })[id]? = some { r1 with st := .frozen } := get_set_same hr1
    have hq := V.rowAt (f2.val _ _ k2 k2.refLt) hr2 rfl hdx
    obtain ⟨d1, d2⟩ := dead_step (E := ⟨(rows.set id r1).set id { r1 with st := .frozen }, m', W, X⟩) f1 hr2 (by simp) (by simp) (w' := W) (Nat.le_refl _) (fun _ _ _ => rfl) rfl rfl rfl (fun h => by simp at h)
    have e2 : ((rows.set id r1).set id { r1 with st := .frozen }).set id ⟨[], sz + 1, .dead⟩ = rows.set id ⟨[], sz + 1, .dead⟩ := by simp [List.set_set]
    have d1' : Rel ⟨((rows.set id r1).set id { r1 with st := .frozen }).set id ⟨[], sz + 1, .dead⟩, _, W, X⟩ := d1
    have d2' : Evo _ _ ⟨((rows.set id r1).set id { r1 with st := .frozen }).set id ⟨[], sz + 1, .dead⟩, _, W, X⟩ := d2
    have hq2 := d2'.val _ _ hq hq.refLt
    rw [e2] at d1' d2' hq2
    refine ⟨q, _, rfl, d1', ?_, by simp, (k3.trans (f2.mono (by simp))).trans (d2'.mono (by simp))⟩
    have e3 : (List.take ((i + 1) * (sz + 1)) (List.drop 0 (cells ++ xs))) = cells.take (i * (sz + 1)) ++ xs ++ cells.drop (i * (sz + 1)) := by
      have h1 : (i + 1) * (sz + 1) = i * (sz + 1) + (sz + 1) := by rw [Nat.add_mul, Nat.one_mul]
      rw [List.drop_zero, List.take_of_length_le (by rw [List.length_append]; omega), List.take_of_length_le (by omega), List.drop_of_length_le (by omega), List.append_nil]
    rw [← e3]
    exact hq2
/-- slices.Insert of one element into a fresh row. -/
theorem InsRaw.evK {P : Program} {f TS TE K B : Nat} (h : InsRaw P f TS TE K B) (hK : 0 < K) (hB : 0 < B ∧ B ≤ 1000) {n i : Nat} {cells xs out : List AVal} (hl : cells.length = n * K)
    (hd : dataAll cells = true) (ho : ∀ j, j < cells.length → (cells.getD j .undef).one = true) (hx : xs.length = K) (hxd : dataAll xs = true) (hxo : ∀ j, j < xs.length → (xs.getD j .undef).one = true) (hi : i ≤ n) (hn : n ≤ 100000) (hout : out = cells.take (i * K) ++ xs ++ cells.drop (i * K)) :
    EvK P f [.row 0 0 n, .sc (.int .i64 i), .sl xs 1 .any] ⟨cells, K, .fresh⟩ (.sl out (n + 1) .any) ⟨[], K, .dead⟩ := fun rows id hr => by
  subst hout
  exact h.ev hK hB hr hl hd ho hx hxd hxo hi hn
end Go.Abs

set_option linter.unusedVariables false
set_option linter.unusedSimpArgs false
namespace Go.Abs
open Go
end Go.Abs

set_option linter.unusedVariables false
set_option linter.unusedSimpArgs false
namespace Go.Abs
open Go
/-- What slices.Delete of one element does to the memory. -/
structure DelRaw (P : Program) (f TS TE K : Nat) : Prop where
  run : ∀ (b n c i : Nat) (cs : List Value) (w : World) (hi : i < n) (hnc : n ≤ c) (hn9 : n ≤ 1000000000) (hcl : cs.length = n * K)
    (hcs : ∀ j v, cs[j]? = some v → w.cell? ⟨b, j, none⟩ = some v) (hfz : ∀ j, w.frozen? ⟨b, j, none⟩ = false) (h1c : ∀ v ∈ cs, v.oneCell' = true),
    Calls P f #[.slice (some ⟨b, 0, none⟩) n c, .int .i64 i, .int .i64 ((i : Int) + 1)] w fun e w' =>
      e = .returned (.slice (some ⟨b, 0, none⟩) (n - 1) c) ∧ ∃ zs : List Value, zs.length = K ∧ w' = (w.drew.setCells b (i * K) (cs.drop ((i + 1) * K))).setCells b ((n - 1) * K) zs
end Go.Abs

set_option linter.unusedVariables false
set_option linter.unusedSimpArgs false
namespace Go.Abs
open Go
end Go.Abs

set_option linter.unusedVariables false
set_option linter.unusedSimpArgs false
namespace Go.Abs
open Go
/-! ### A call whose contract names all rows -/
theorem EvF.anyArgs {P : Program} {f : FuncId} {args args' : List AVal} {rows rows0 rows' : List Row} {r : AVal} (h : EvF P f args rows r rows') (ha : anyAll args' = args) (hr : rows0 = rows) : EvF P f args' rows0 r rows' := by
  subst hr ha
  exact fun X m w vs hrel hvl => h X m w vs hrel hvl.anyAll
theorem DerQ.callM {P : Program} {ops : Array Oper} {o : Oper} {l : List Oper} {st : St} {K : St → Prop} {f : FuncId} {args : List AVal} {rows rows' : List Row} {r : AVal} (he : EvF P f args rows r rows') (args' : List AVal) (st1 : St)
    (h : wantA ops o st.regs = some true ∧ Abs.callA P o (ev st.regs) = some (f, args') ∧ st.rows = rows ∧ anyAll args' = args ∧ st.put o.dst r rows' = st1) (hk : DerQ P ops l st1 K) : DerQ P ops (o :: l) st K := by
  obtain ⟨h1, h2, h3, h4, h6⟩ := h
  exact DerQ.call (he.anyArgs h4 h3) st1 ⟨h1, h2, h6⟩ hk
end Go.Abs

set_option linter.unusedVariables false
set_option linter.unusedSimpArgs false
namespace Go.Abs
open Go
/-! ### Iterators that write into rows of the caller's -/
/-- The rows that both know, as the iterator counts them. -/
structure Lay (ρ : Nat → Nat) (n : Nat) (rows : List Row) (m : Nat → Option Nat) (rs : List Row) (bs : Nat → Option Nat) : Prop where
  len : rs.length = n
  row : ∀ i r, rs[i]? = some r → rows[ρ i]? = some (r.ren ρ)
  blk : ∀ i, i < n → bs i = m (ρ i)
  inj : ∀ i j, i < n → j < n → ρ i = ρ j → i = j
def ShR (sh : List (Nat × Nat)) (rs : List Row) : Prop :=
  rs.length = sh.length ∧ ∀ i r, rs[i]? = some r → r.st = .fresh ∧ ltAll sh.length r.cells = true ∧ (r.esz, r.cells.length) = sh.getD i (0, 0) ∧ 0 < r.esz ∧ r.esz ≤ r.cells.length
/-- What of the caller's other cells may yet be written. -/
def XN (rows : List Row) (ρ : Nat → Nat) (n : Nat) (m : Nat → Option Nat) (X : Nat → Nat → Prop) (b o : Nat) : Prop :=
  X b o ∨ ∃ (j : Nat) (r : Row), (∀ i, i < n → j ≠ ρ i) ∧ rows[j]? = some r ∧ r.st ≠ .frozen ∧ m j = some b ∧ ¬ (r.st = .grown ∧ o < r.cells.length)
theorem V.renG {E0 E2 : Env} (ρ : Nat → Nat) (hw : E2.w = E0.w) (hI : ∀ b o v, Imm E0 b o → E0.w.cell? ⟨b, o, none⟩ = some v → Imm E2 b o)
    (hrow : ∀ (i : Nat) (r : Row), E0.rows[i]? = some r → E2.rows[ρ i]? = some (r.ren ρ)) (hm : ∀ (i : Nat) (r : Row), E0.rows[i]? = some r → E2.m (ρ i) = E0.m i) {x : AVal} {v : Value} (h : V E0 x v) :
    V E2 (x.ren ρ) v := by
  have hc : ∀ a, E2.w.cell? a = E0.w.cell? a := fun a => by rw [hw]
  induction h with
  | undef v => exact .undef v
  | sc v h => exact .sc v h
  | slnil k hk => exact .slnil k hk
  | slz k hk a => exact .slz k hk a
  | sl cells n kk b o cap vs hk hn hd hv hmm ih =>
    refine .sl cells n kk b o cap vs hk hn hd (fun i hi => ?_) (fun i hi => ?_)
    · have := ih i hi
      rwa [AVal.ren_data _ ((dataAll_iff cells).1 hd i hi)] at this
    · exact ⟨by rw [hc]; exact (hmm i hi).1, hI _ _ _ (hmm i hi).2 (hmm i hi).1⟩
  | agg cells vs hl hv ih => exact .agg _ vs (by rw [renAll_length]; exact hl) fun i hi => by rw [renAll_getD]; exact ih i (by rwa [renAll_length] at hi)
  | tup cells vs hl hv ih => exact .tup _ vs (by rw [renAll_length]; exact hl) fun i hi => by rw [renAll_getD]; exact ih i (by rwa [renAll_length] at hi)
  | ptr i off r b hr hs hmi => exact .ptr _ off _ b (hrow i r hr) hs (by rw [hm i r hr]; exact hmi)
  | ptrLost i off r v hr hs hu => exact .ptrLost _ off _ v (hrow i r hr) hs hu
  | dptr cells b o vs hd hv hmm ih =>
    refine .dptr cells b o vs hd (fun i hi => ?_) (fun i hi => ?_)
    · have := ih i hi
      rwa [AVal.ren_data _ ((dataAll_iff cells).1 hd i hi)] at this
    · exact ⟨by rw [hc]; exact (hmm i hi).1, hI _ _ _ (hmm i hi).2 (hmm i hi).1⟩
  | rowF i off n b cap r hr hs hmi hn ho hcc =>
    exact .rowF _ off n b cap _ (hrow i r hr) hs (by rw [hm i r hr]; exact hmi) hn (by simpa [Row.ren, renAll_length] using ho) (fun j hj => by rw [hc]; exact hcc j hj)
  | rowLost i off n r v hr hs h0 hv => exact .rowLost _ off n _ v (hrow i r hr) hs (by simp [Row.ren, h0, renAll]) hv
  | rowV i r base hr hs =>
    refine .rowV _ _ base (hrow i r hr) ?_
    rcases hs with h | ⟨h, h'⟩ | ⟨h, h'⟩
    · exact .inl h
    · exact .inr (.inl ⟨h, by rw [hm i r hr]; exact h'⟩)
    · exact .inr (.inr ⟨h, fun e => h' (List.eq_nil_of_length_eq_zero (by have := congrArg List.length e; simpa [Row.ren, renAll_length] using this))⟩)
  | rowG i off n b o cap r vs hr hs hn ho hd hv hmm he ih =>
    refine .rowG _ off n b o cap _ vs (hrow i r hr) hs hn (by simpa [Row.ren, renAll_length] using ho) (fun j hj => ?_) (fun j hj => ?_) (fun j hj => ?_) (fun a1 a2 => ?_)
    · simp only [Row.ren, renAll_getD, AVal.data_ren]; exact hd j hj
    · simp only [Row.ren, renAll_getD]; exact ih j hj
    · exact ⟨by rw [hc]; exact (hmm j hj).1, hI _ _ _ (hmm j hj).2 (hmm j hj).1⟩
    · obtain ⟨e1, e2, e3⟩ := he a1 (by simpa [Row.ren, renAll_length] using a2)
      exact ⟨by rw [hm i r hr]; exact e1, e2, fun j hj => by rw [hc]; exact e3 j hj⟩
  | fn f cap vs hl hv ih => exact .fn f _ vs (by rw [renAll_length]; exact hl) fun i hi => by rw [renAll_getD]; exact ih i (by rwa [renAll_length] at hi)
  | ifc t x v h ih => exact .ifc t _ v ih
  | mp i r b hr hs hmi => exact .mp _ _ b (hrow i r hr) hs (by rw [hm i r hr]; exact hmi)
section
variable {ρ : Nat → Nat} {sh : List (Nat × Nat)} {rows rs : List Row} {m bs : Nat → Option Nat} {X : Nat → Nat → Prop} {W : World}
theorem XN.imm (hL : Lay ρ sh.length rows m rs bs) (hS : ShR sh rs) {b o : Nat} : Imm ⟨rows, m, W, X⟩ b o ↔ Imm ⟨rs, bs, W, XN rows ρ sh.length m X⟩ b o := by
  constructor
  · rintro ⟨h1, h2, h3⟩
    refine ⟨h1, ?_, fun i s hi hns hb => ?_⟩
    · rintro (h | ⟨j, s, _, k1, k2, k3, k4⟩)
      · exact h2 h
      · exact k4 (h3 j s k1 k2 k3)
    · have hlt : i < sh.length := by rw [← hS.1]; exact lt_of_get hi
      have hb' : bs i = some b := hb
      rw [hL.blk i hlt] at hb'
      have := h3 (ρ i) _ (hL.row i s hi) hns hb'
      simpa [Row.ren, renAll_length] using this
  · rintro ⟨h1, h2, h3⟩
    refine ⟨h1, fun h => h2 (.inl h), fun j s k1 k2 k3 => ?_⟩
    by_cases hj : ∃ i, i < sh.length ∧ j = ρ i
    · obtain ⟨i, hi, rfl⟩ := hj
      have hi' : i < rs.length := by rw [hS.1]; exact hi
      have hg : rs[i]? = some rs[i] := by simp [hi']
      have h4 := hL.row i _ hg
      have k1' : rows[ρ i]? = some s := k1
      rw [h4] at k1'; cases k1'
      have k3' : m (ρ i) = some b := k3
      rw [← hL.blk i hi] at k3'
      have := h3 i _ hg k2 k3'
      simpa [Row.ren, renAll_length] using this
    · by_cases h : s.st = .grown ∧ o < s.cells.length
      · exact h
      · exact absurd (.inr ⟨j, s, fun i hi e => hj ⟨i, hi, e⟩, k1, k2, k3, h⟩) h2
theorem XN.lt (h : Rel ⟨rows, m, W, X⟩) : ∀ b o, XN rows ρ sh.length m X b o → b < W.heap.size := by
  rintro b o (h1 | ⟨j, r, _, k1, k2, k3, _⟩)
  · exact h.xlt b o h1
  · exact h.lt k1 k2 k3
/-- A caller's value, seen from the iterator. -/
theorem V.goIn (hL : Lay ρ sh.length rows m rs bs) (hS : ShR sh rs) {x : AVal} {v : Value} (h : V ⟨rows, m, W, X⟩ (x.ren ρ) v) (hx : x.refLt sh.length = true) : V ⟨rs, bs, W, XN rows ρ sh.length m X⟩ x v := by
  have h1 : V ⟨rows, m, W, XN rows ρ sh.length m X⟩ (x.ren ρ) v := by
    refine V.mono (E := ⟨rows, m, W, X⟩) (E' := ⟨rows, m, W, XN rows ρ sh.length m X⟩) (N := rows.length) (fun b o u h1 h2 => ⟨⟨h1.1, ?_, h1.2.2⟩, h2⟩) (fun i t _ ht => ⟨t, ht, RowEvo.keep rfl (fun _ _ _ _ hc => hc)⟩) h h.refLt
    rintro (h | ⟨j, s, _, k1, k2, k3, k4⟩)
    · exact h1.2.1 h
    · exact k4 (h1.2.2 j s k1 k2 k3)
  refine V.unren (E1 := ⟨rows, m, W, XN rows ρ sh.length m X⟩) (E2 := ⟨rs, bs, W, XN rows ρ sh.length m X⟩) (ρ := ρ) rfl rfl (fun i t hi => hL.row i t hi) (fun i hi => hL.blk i (by rw [← hS.1]; exact hi)) h1 x rfl (by rw [show (⟨rs, bs, W, XN rows ρ sh.length m X⟩ : Env).rows.length = sh.length from hS.1]; exact hx)
/-- An iterator's value, seen from the caller. -/
theorem V.goOut (hL : Lay ρ sh.length rows m rs bs) (hS : ShR sh rs) {x : AVal} {v : Value} (h : V ⟨rs, bs, W, XN rows ρ sh.length m X⟩ x v) : V ⟨rows, m, W, X⟩ (x.ren ρ) v :=
  V.renG (E0 := ⟨rs, bs, W, XN rows ρ sh.length m X⟩) (E2 := ⟨rows, m, W, X⟩) ρ rfl (fun b o v h1 _ => (XN.imm hL hS).2 h1) (fun i t hi => hL.row i t hi) (fun i t hi => (hL.blk i (by rw [← hS.1]; exact lt_of_get hi)).symm) h
theorem ShR.nomap {i : Nat} {r : Row} (hS : ShR sh rs) (h : rs[i]? = some r) : r.st ≠ .map := by rw [(hS.2 i r h).1]; simp
theorem ShR.nofro {i : Nat} {r : Row} (hS : ShR sh rs) (h : rs[i]? = some r) : r.st ≠ .frozen := by rw [(hS.2 i r h).1]; simp
theorem ShR.nofroR {i : Nat} {r : Row} (hS : ShR sh rs) (h : rs[i]? = some r) (ρ : Nat → Nat) : (r.ren ρ).st ≠ .frozen := by
  show r.st ≠ .frozen
  exact hS.nofro h
theorem Rel.goIn (h : Rel ⟨rows, m, W, X⟩) (hL : Lay ρ sh.length rows m rs bs) (hS : ShR sh rs) : Rel ⟨rs, bs, W, XN rows ρ sh.length m X⟩ := by
  have hlt : ∀ {i : Nat} {r : Row}, rs[i]? = some r → i < sh.length := fun hi => by rw [← hS.1]; exact lt_of_get hi
  refine ⟨fun b o hx => XN.lt h b o hx, ?_, ?_, ?_, ?_, ?_⟩
  · intro i t b hi hns hb o hx
    have hb' : bs i = some b := hb
    rw [hL.blk i (hlt hi)] at hb'
    rcases hx with hx | ⟨j, s', hj, k1, k2, k3, _⟩
    · exact h.xr (ρ i) _ b (hL.row i t hi) hns hb' o hx
    · exact hj i (hlt hi) (h.inj j (ρ i) s' _ b k1 (hL.row i t hi) k2 hns k3 hb')
  · intro i j t u b hi hj hns hnt h1 h2
    have h1' : bs i = some b := h1
    have h2' : bs j = some b := h2
    rw [hL.blk i (hlt hi)] at h1'
    rw [hL.blk j (hlt hj)] at h2'
    exact hL.inj i j (hlt hi) (hlt hj) (h.inj (ρ i) (ρ j) _ _ b (hL.row i t hi) (hL.row j u hj) hns hnt h1' h2')
  · intro i t hi h1 h2
    obtain ⟨hf, hl, he, hz, hle⟩ := hS.2 i t hi
    rcases h.own (ρ i) _ (hL.row i t hi) h1 h2 with h' | ⟨b, c, e, k1, k2, k3, k4⟩
    · have h3 := h'.2
      have : t.cells.length = 0 := by have := congrArg List.length h3; simpa [Row.ren, renAll_length] using this
      omega
    · have k1' : m (ρ i) = some b := k1
      rw [← hL.blk i (hlt hi)] at k1'
      refine .inr ⟨b, c, e, k1', k2, by simpa [Row.ren, renAll_length] using k3, fun j hj => ?_⟩
      refine V.goIn hL hS ?_ ((ltAll_iff _ _).1 hl j hj)
      have := k4 j (by simpa [Row.ren, renAll_length] using hj)
      simpa only [Row.ren, renAll_getD] using this
  · intro i t hi hg; have := (hS.2 i t hi).1; rw [this] at hg; simp at hg
  · intro i t hi hg; have := (hS.2 i t hi).1; rw [this] at hg; simp at hg
/-- What the iterator did, seen from the caller. -/
theorem goOut {rows' rs' : List Row} {W' : World} (hrel : Rel ⟨rows, m, W, X⟩) (hL : Lay ρ sh.length rows m rs bs) (hL' : Lay ρ sh.length rows' m rs' bs) (hS : ShR sh rs) (hS' : ShR sh rs')
    (hoth : ∀ j, (∀ i, i < sh.length → j ≠ ρ i) → rows'[j]? = rows[j]?)
    (h1 : Rel ⟨rs', bs, W', XN rows ρ sh.length m X⟩) (h4 : Evo sh.length ⟨rs, bs, W, XN rows ρ sh.length m X⟩ ⟨rs', bs, W', XN rows ρ sh.length m X⟩) :
    Rel ⟨rows', m, W', X⟩ ∧ Evo rows.length ⟨rows, m, W, X⟩ ⟨rows', m, W', X⟩ := by
  let E : Env := ⟨rows, m, W, X⟩
  let F : Env := ⟨rows', m, W', X⟩
  have hsz : W.heap.size ≤ W'.heap.size := h4.size
  have hge : ∀ i, i < sh.length → ∃ r, rs[i]? = some r := fun i hi => ⟨rs[i]'(by rw [hS.1]; exact hi), by simp [hS.1, hi]⟩
  have hge' : ∀ i, i < sh.length → ∃ r, rs'[i]? = some r := fun i hi => ⟨rs'[i]'(by rw [hS'.1]; exact hi), by simp [hS'.1, hi]⟩
  have hfree : ∀ b, (∀ i, i < sh.length → m (ρ i) ≠ some b) → Free ⟨rs, bs, W, XN rows ρ sh.length m X⟩ b := fun b hb i t hi _ hmm => by
    have hlt : i < sh.length := by rw [← hS.1]; exact lt_of_get hi
    have hmm : bs i = some b := hmm
    rw [hL.blk i hlt] at hmm
    exact hb i hlt hmm
  have hold : ∀ b, b < W.heap.size → (∀ i, i < sh.length → m (ρ i) ≠ some b) → W'.heap[b]? = W.heap[b]? := fun b hb hmm => (h4.free b hb (hfree b hmm)).1
  have hstay : ∀ i, i < sh.length → ∀ b, m (ρ i) = some b → ∀ o, (W.cell? ⟨b, o, none⟩).isSome = true → (W'.cell? ⟨b, o, none⟩).isSome = true := by
    intro i hi b hmb o ho
    obtain ⟨r, hr⟩ := hge i hi
    obtain ⟨r', hr'⟩ := hge' i hi
    obtain ⟨hf, hl, he, hz, hle⟩ := hS.2 i r hr
    obtain ⟨hf', hl', he', hz', hle'⟩ := hS'.2 i r' hr'
    have hee : (r.esz, r.cells.length) = (r'.esz, r'.cells.length) := he.trans he'.symm
    have e1 : r.esz = r'.esz := congrArg Prod.fst hee
    have e2 : r.cells.length = r'.cells.length := congrArg Prod.snd hee
    have hbm : bs i = some b := by rw [hL.blk i hi]; exact hmb
    obtain ⟨c0, e0, hbk0, hbl0, hbv0⟩ := hrel.block (id := ρ i) (hL.row i r hr) (.inl hf) hmb
    have hbl0 : r.cells.length ≤ c0.size := by simpa [Row.ren, renAll_length] using hbl0
    obtain ⟨c1, e1', hbk1, hbl1, hbv1⟩ := h1.block (r := r') (id := i) hr' (.inl hf') hbm
    have hbk1 : W'.heap[b]? = some (.cells c1 e1' (0, 0)) := hbk1
    have hbk0 : W.heap[b]? = some (.cells c0 e0 (0, 0)) := hbk0
    rw [isSome_cell hbk0] at ho
    have ho : o < c0.size := ho
    rcases Nat.lt_or_ge o r.cells.length with h5 | h5
    · rw [isSome_cell hbk1]
      show o < c1.size
      omega
    · have hmod : c0.size % r.esz < r.esz := Nat.mod_lt _ hz
      have hdm : r.esz * (c0.size / r.esz) + c0.size % r.esz = c0.size := Nat.div_add_mod _ _
      have hrow : V ⟨rs, bs, W, XN rows ρ sh.length m X⟩ (.row i (c0.size % r.esz) 0) (.slice (some ⟨b, c0.size % r.esz, none⟩) 0 (c0.size / r.esz)) := by
        refine .rowF i _ 0 b _ r hr hf hbm (Nat.zero_le _) (by omega) (fun k hk => ?_)
        show (W.cell? _).isSome = true
        rw [isSome_cell hbk0]
        rw [Nat.mul_comm] at hk
        show _ < c0.size
        omega
      have hrow2 := h4.val _ _ hrow (by simpa [AVal.refLt] using hi)
      rcases hrow2.rowF_inv (r := r') hr' hf' with ⟨b2, cap2, hv2, hm2, hn2, ho2, hcc2⟩ | ⟨base, hv2, _, _, _⟩
      · injection hv2 with g1 g2 g3
        injection g1 with g1
        injection g1 with g1
        subst g1 g3
        have := hcc2 (o - c0.size % r.esz) (by rw [← e1, Nat.mul_comm]; omega)
        rwa [show c0.size % r.esz + (o - c0.size % r.esz) = o by omega] at this
      · injection hv2 with _ _ h6
        have h8 : r.esz ≤ c0.size := by omega
        have := Nat.div_pos h8 hz
        omega
  have hcase : ∀ j, (∃ i, i < sh.length ∧ j = ρ i) ∨ ∀ i, i < sh.length → j ≠ ρ i := fun j => by
    by_cases h : ∃ i, i < sh.length ∧ j = ρ i
    · exact .inl h
    · exact .inr fun i hi e => h ⟨i, hi, e⟩
  have hI2 : ∀ b o u, Imm ⟨rs', bs, W', XN rows ρ sh.length m X⟩ b o → W'.cell? ⟨b, o, none⟩ = some u → Imm F b o ∧ W'.cell? ⟨b, o, none⟩ = some u := by
    intro b o u hi hc
    refine ⟨⟨hi.1, fun hx => hi.2.1 (.inl hx), fun j t hs hns hmi => ?_⟩, hc⟩
    rcases hcase j with ⟨i, hil, rfl⟩ | hj
    · obtain ⟨r', hr'⟩ := hge' i hil
      have hmi' : m (ρ i) = some b := hmi
      rw [← hL'.blk i hil] at hmi'
      have := (hi.2.2 i r' hr' (hS'.nofro hr') hmi').1
      rw [(hS'.2 i r' hr').1] at this; simp at this
    · have hs' : rows[j]? = some t := by rw [← hoth j hj]; exact hs
      by_cases hg : t.st = .grown ∧ o < t.cells.length
      · exact hg
      · exact absurd (.inr ⟨j, t, hj, hs', hns, hmi, hg⟩) hi.2.1
  have hD2 : ∀ x u, V ⟨rs', bs, W', XN rows ρ sh.length m X⟩ x u → V F (x.ren ρ) u := fun x u hv =>
    V.renG (E0 := ⟨rs', bs, W', XN rows ρ sh.length m X⟩) (E2 := F) ρ rfl (fun b o v h1 h2 => (hI2 b o v h1 h2).1) (fun i t hi => hL'.row i t hi) (fun i t hi => (hL'.blk i (by rw [← hS'.1]; exact lt_of_get hi)).symm) hv
  have hnm : ∀ b o, Imm E b o → ∀ i, i < sh.length → m (ρ i) ≠ some b := fun b o hi i hil hmm => by
    obtain ⟨r, hr⟩ := hge i hil
    have := (hi.2.2 (ρ i) _ (hL.row i r hr) (hS.nofroR hr ρ) hmm).1
    have h2 : (r.ren ρ).st = .fresh := (hS.2 i r hr).1
    rw [h2] at this; simp at this
  have hIo : ∀ b o u, Imm E b o → W.cell? ⟨b, o, none⟩ = some u → Imm F b o ∧ W'.cell? ⟨b, o, none⟩ = some u := by
    intro b o u hi hc
    refine ⟨⟨Nat.lt_of_lt_of_le hi.1 hsz, hi.2.1, fun j t hs hns hmm => ?_⟩, by rw [cell_congr (hold b hi.1 (hnm b o hi))]; exact hc⟩
    rcases hcase j with ⟨i, hil, rfl⟩ | hj
    · exact absurd hmm (hnm b o hi i hil)
    · exact hi.2.2 j t (by rw [← hoth j hj]; exact hs) hns hmm
  have hne : ∀ j t b, (∀ i, i < sh.length → j ≠ ρ i) → rows[j]? = some t → t.st ≠ .frozen → m j = some b → ∀ i, i < sh.length → m (ρ i) ≠ some b := fun j t b hj hs hns hmm i hil hm2 => by
    obtain ⟨r, hr⟩ := hge i hil
    exact hj i hil (hrel.inj j (ρ i) t _ b hs (hL.row i r hr) hns (hS.nofroR hr ρ) hmm hm2)
  have hRo : ∀ (j : Nat) (t : Row), j < rows.length → E.rows[j]? = some t → ∃ t', F.rows[j]? = some t' ∧ RowEvo E F j t t' := by
    intro j t _ hs
    rcases hcase j with ⟨i, hil, rfl⟩ | hj
    · obtain ⟨r, hr⟩ := hge i hil
      obtain ⟨r', hr'⟩ := hge' i hil
      have hs' : rows[ρ i]? = some t := hs
      rw [hL.row i r hr] at hs'; cases hs'
      obtain ⟨hf, hl, he, hz, hle⟩ := hS.2 i r hr
      obtain ⟨hf', hl', he', hz', hle'⟩ := hS'.2 i r' hr'
      have hee : (r.esz, r.cells.length) = (r'.esz, r'.cells.length) := he.trans he'.symm
      have e1 : r.esz = r'.esz := congrArg Prod.fst hee
      have e2 : r.cells.length = r'.cells.length := congrArg Prod.snd hee
      exact ⟨r'.ren ρ, hL'.row i r' hr', RowEvo.fresh hf hf' e1.symm rfl (by simp [Row.ren, renAll_length, e2]) (fun b o hmm hc => hstay i hil b hmm o hc)⟩
    · refine ⟨t, by show rows'[j]? = _; rw [hoth j hj]; exact hs, RowEvo.keep rfl ?_⟩
      intro hst b o hmm hc
      have hns : t.st ≠ .frozen := by rcases hst with h' | h' <;> simp [h']
      show (W'.cell? _).isSome = true
      rw [cell_congr (hold b (hrel.lt hs hns hmm) (hne j t b hj hs hns hmm))]; exact hc
  have hV : ∀ x u, V E x u → V F x u := fun x u hv => V.mono (N := rows.length) hIo hRo hv hv.refLt
  have key : ∀ (j : Nat) (t : Row), rows'[j]? = some t → t.st ≠ .frozen → ∃ t', rows[j]? = some t' ∧ t'.st ≠ .frozen := fun j t hs hns => by
    rcases hcase j with ⟨i, hil, rfl⟩ | hj
    · obtain ⟨r, hr⟩ := hge i hil
      exact ⟨_, hL.row i r hr, hS.nofroR hr ρ⟩
    · exact ⟨t, by rw [← hoth j hj]; exact hs, hns⟩
  refine ⟨⟨fun b o hx => Nat.lt_of_lt_of_le (hrel.xlt b o hx) hsz, ?_, ?_, ?_, ?_, ?_⟩, ⟨fun x u hv _ => hV x u hv, hsz, fun b hb hf => ?_, h4.os, h4.tape, h4.output, hIo⟩⟩
  · intro j t b hs hns hmm
    obtain ⟨t', p1, p2⟩ := key j t hs hns
    exact hrel.xr j t' b p1 p2 hmm
  · intro i j t u b hs ht hns hnt hm1 hm2
    obtain ⟨t', p1, p2⟩ := key i t hs hns
    obtain ⟨u', q1, q2⟩ := key j u ht hnt
    exact hrel.inj i j t' u' b p1 q1 p2 q2 hm1 hm2
  · intro j t hs hns hnm'
    rcases hcase j with ⟨i, hil, rfl⟩ | hj
    · obtain ⟨r', hr'⟩ := hge' i hil
      have hs' : rows'[ρ i]? = some t := hs
      rw [hL'.row i r' hr'] at hs'; cases hs'
      obtain ⟨hf', hl', he', hz', hle'⟩ := hS'.2 i r' hr'
      rcases h1.own i r' hr' (hS'.nofro hr') (hS'.nomap hr') with h' | ⟨b, c, e, k1, k2, k3, k4⟩
      · rw [h'.2] at hle'; simp at hle'; omega
      · have k1' : bs i = some b := k1
        rw [hL'.blk i hil] at k1'
        refine .inr ⟨b, c, e, k1', k2, by simpa [Row.ren, renAll_length] using k3, fun q hq => ?_⟩
        have := hD2 _ _ (k4 q (by simpa [Row.ren, renAll_length] using hq))
        simpa only [Row.ren, renAll_getD] using this
    · have hs' : rows[j]? = some t := by rw [← hoth j hj]; exact hs
      rcases hrel.own j t hs' hns hnm' with h' | ⟨b, c, e, k1, k2, k3, k4⟩
      · exact .inl h'
      · exact .inr ⟨b, c, e, k1, (hold b (lt_of_heap k2) (hne j t b hj hs' hns k1)).trans k2, k3, fun q hq => hV _ _ (k4 q hq)⟩
  · intro j t hs hg
    rcases hcase j with ⟨i, hil, rfl⟩ | hj
    · obtain ⟨r', hr'⟩ := hge' i hil
      have hs' : rows'[ρ i]? = some t := hs
      rw [hL'.row i r' hr'] at hs'; cases hs'
      have h2 : (r'.ren ρ).st = .fresh := (hS'.2 i r' hr').1
      rw [h2] at hg; simp at hg
    · exact hrel.grown j t (by rw [← hoth j hj]; exact hs) hg
  · intro j t hs hg
    rcases hcase j with ⟨i, hil, rfl⟩ | hj
    · obtain ⟨r', hr'⟩ := hge' i hil
      have hs' : rows'[ρ i]? = some t := hs
      rw [hL'.row i r' hr'] at hs'; cases hs'
      have h2 : (r'.ren ρ).st = .fresh := (hS'.2 i r' hr').1
      rw [h2] at hg; simp at hg
    · have hs' : rows[j]? = some t := by rw [← hoth j hj]; exact hs
      obtain ⟨b, es, k, k1, k2, k3, k4⟩ := hrel.map j t hs' hg
      exact ⟨b, es, k, k1, (hold b (lt_of_heap k2) (hne j t b hj hs' (by rw [hg]; simp) k1)).trans k2, k3, fun q hq => ⟨hV _ _ (k4 q hq).1, hV _ _ (k4 q hq).2⟩⟩
  · have hmne : ∀ i, i < sh.length → m (ρ i) ≠ some b := fun i hil hm2 => by
      obtain ⟨r, hr⟩ := hge i hil
      exact hf (ρ i) _ (hL.row i r hr) (hS.nofroR hr ρ) hm2
    refine ⟨hold b hb hmne, fun j t hs hns hmm => ?_⟩
    obtain ⟨t', p1, p2⟩ := key j t hs hns
    exact hf j t' p1 p2 hmm
end
end Go.Abs

set_option linter.unusedVariables false
set_option linter.unusedSimpArgs false
namespace Go.Abs
open Go
mutual
theorem AVal.ren_refLt {ρ : Nat → Nat} {N M : Nat} (h : ∀ i, i < N → ρ i < M) : ∀ x : AVal, x.refLt N = true → (x.ren ρ).refLt M = true
  | .sc _, _ => rfl
  | .sl _ _ _, _ => rfl
  | .agg cs, hx => by simp only [AVal.refLt, AVal.ren] at *; exact renAll_refLt h cs hx
  | .tup cs, hx => by simp only [AVal.refLt, AVal.ren] at *; exact renAll_refLt h cs hx
  | .dptr _, _ => rfl
  | .fn _ cs, hx => by simp only [AVal.refLt, AVal.ren] at *; exact renAll_refLt h cs hx
  | .ifc _ v, hx => by simp only [AVal.refLt, AVal.ren] at *; exact AVal.ren_refLt h v hx
  | .ptr id _, hx => by simp only [AVal.refLt, AVal.ren, decide_eq_true_eq] at *; exact h id hx
  | .row id _ _, hx => by simp only [AVal.refLt, AVal.ren, decide_eq_true_eq] at *; exact h id hx
  | .mp id, hx => by simp only [AVal.refLt, AVal.ren, decide_eq_true_eq] at *; exact h id hx
  | .undef, _ => rfl
theorem renAll_refLt {ρ : Nat → Nat} {N M : Nat} (h : ∀ i, i < N → ρ i < M) : ∀ l : List AVal, ltAll N l = true → ltAll M (renAll ρ l) = true
  | [], _ => rfl
  | x :: r, hx => by
    simp only [ltAll, renAll, Bool.and_eq_true] at *
    exact ⟨AVal.ren_refLt h x hx.1, renAll_refLt h r hx.2⟩
end
section
variable {n : Nat} {rs : List Row} {m bs : Nat → Option Nat} {W : World} {X : Nat → Nat → Prop}
theorem Imm.norm (hl : rs.length = n) (hm : ∀ i, i < n → m i = bs i) {b o : Nat} (h1 : Imm ⟨rs, m, W, X⟩ b o) : Imm ⟨rs, bs, W, X⟩ b o :=
  ⟨h1.1, h1.2.1, fun i s hi hns hb => h1.2.2 i s hi hns ((hm i (by rw [← hl]; exact lt_of_get hi)).trans hb)⟩
theorem V.norm (hl : rs.length = n) (hm : ∀ i, i < n → m i = bs i) {x : AVal} {v : Value} (h : V ⟨rs, m, W, X⟩ x v) : V ⟨rs, bs, W, X⟩ x v :=
  V.mono (E := ⟨rs, m, W, X⟩) (E' := ⟨rs, bs, W, X⟩) (N := rs.length) (fun b' o u h1 h2 => ⟨h1.norm hl hm, h2⟩) (fun i s hi hs => ⟨s, hs, RowEvo.keep (hm i (by omega)).symm (fun _ _ _ _ hc => hc)⟩) h h.refLt
theorem Rel.norm (hl : rs.length = n) (hm : ∀ i, i < n → m i = bs i) (h : Rel ⟨rs, m, W, X⟩) : Rel ⟨rs, bs, W, X⟩ := by
  have hlt : ∀ {i : Nat} {r : Row}, rs[i]? = some r → i < n := fun hi => by rw [← hl]; exact lt_of_get hi
  refine ⟨h.xlt, ?_, ?_, ?_, ?_, ?_⟩
  · intro i t b hi hns hb o
    exact h.xr i t b hi hns ((hm i (hlt hi)).trans hb) o
  · intro i j t u b hi hj h1 h2 h3 h4
    exact h.inj i j t u b hi hj h1 h2 ((hm i (hlt hi)).trans h3) ((hm j (hlt hj)).trans h4)
  · intro i t hi h1 h2
    rcases h.own i t hi h1 h2 with h' | ⟨b', c, e, k1, k2, k3, k4⟩
    · exact .inl ⟨(hm i (hlt hi)).symm.trans h'.1, h'.2⟩
    · exact .inr ⟨b', c, e, (hm i (hlt hi)).symm.trans k1, k2, k3, fun j hj => V.norm hl hm (k4 j hj)⟩
  · exact h.grown
  · intro i t hi hg
    obtain ⟨b', es, k, k1, k2, k3, k4⟩ := h.map i t hi hg
    exact ⟨b', es, k, (hm i (hlt hi)).symm.trans k1, k2, k3, fun j hj => ⟨V.norm hl hm (k4 j hj).1, V.norm hl hm (k4 j hj).2⟩⟩
theorem Evo.norm {N : Nat} {E : Env} (hl : rs.length = n) (hm : ∀ i, i < n → m i = bs i) (h : Evo N E ⟨rs, m, W, X⟩) : Evo N E ⟨rs, bs, W, X⟩ :=
  ⟨fun x v hv hb => V.norm hl hm (h.val x v hv hb), h.size, fun b' hb hf => ⟨(h.free b' hb hf).1, fun i s hi hns hb' =>
    (h.free b' hb hf).2 i s hi hns ((hm i (by rw [← hl]; exact lt_of_get hi)).trans hb')⟩, h.os, h.tape, h.output, fun b' o v h1 h2 => ⟨Imm.norm hl hm (h.imm b' o v h1 h2).1, (h.imm b' o v h1 h2).2⟩⟩
theorem RelSt.norm {regs : List AVal} {a : Act} (h : RelSt [] X ⟨regs, rs⟩ m W a) (hl : rs.length = n) (hm : ∀ i, i < n → m i = bs i) : RelSt [] X ⟨regs, rs⟩ bs W a :=
  ⟨Rel.norm hl hm h.rel, h.len, fun i hi => V.norm hl hm (h.regs i hi), h.defers⟩
end
/-- All the iterator's rows lie somewhere. -/
def Blk (n : Nat) (bs : Nat → Option Nat) : Prop := ∀ i, i < n → ∃ b, bs i = some b
theorem Evo.ptrs {sh : List (Nat × Nat)} {rs rs' ext : List Row} {bs m' : Nat → Option Nat} {W W' : World} {X X' : Nat → Nat → Prop} (hS : ShR sh rs) (hS' : ShR sh rs') (hB : Blk sh.length bs)
    (h : Evo sh.length ⟨rs, bs, W, X⟩ ⟨rs' ++ ext, m', W', X'⟩) : ∀ i, i < sh.length → m' i = bs i := by
  intro i hi
  obtain ⟨b, hb⟩ := hB i hi
  have hg : rs[i]? = some (rs[i]'(by rw [hS.1]; exact hi)) := by simp [hS.1, hi]
  have hg' : rs'[i]? = some (rs'[i]'(by rw [hS'.1]; exact hi)) := by simp [hS'.1, hi]
  have hp : V ⟨rs, bs, W, X⟩ (.ptr i 0) (.pointer (some ⟨b, 0, Option.none⟩)) := .ptr i 0 _ b hg (hS.2 i _ hg).1 hb
  have hp2 := h.val _ _ hp (by simpa [AVal.refLt] using hi)
  obtain ⟨b', e1, e2⟩ := hp2.ptr_inv (by show (rs' ++ ext)[i]? = _; rw [List.getElem?_append_left (by rw [hS'.1]; exact hi)]; exact hg') (hS'.2 i _ hg').1
  cases e1
  exact e2.trans hb.symm
/-- What the caller of an iterator keeps: it abides what the iterator does to its rows. -/
def Calm1 {β : Type} (bs : Nat → Option Nat) (sh : List (Nat × Nat)) (J : List β → List Row → (Nat → Nat → Prop) → World → Prop) : Prop := ∀ p rs rs' X W W', J p rs X W → ShR sh rs → ShR sh rs' → Rel ⟨rs, bs, W, X⟩ → Rel ⟨rs', bs, W', X⟩ → Evo sh.length ⟨rs, bs, W, X⟩ ⟨rs', bs, W', X⟩ → J p rs' X W'
def Rounds1 {β : Type} (P : Program) (l : Nat) (bs : Nat → Option Nat) (sh : List (Nat × Nat)) (J : List β → List Row → (Nat → Nat → Prop) → World → Prop) (items : List β) (enc : β → List AVal) : Prop :=
  ∀ (pre : List β) (x : β) (rest : List β) (rs : List Row) (X : Nat → Nat → Prop) (W : World) (vs : List Value), items = pre ++ x :: rest → J pre rs X W → ShR sh rs → Rel ⟨rs, bs, W, X⟩ → VL ⟨rs, bs, W, X⟩ (enc x) vs →
    YieldAt (Fw none) 0 P l vs.toArray W fun e W' => e = .returned (.bool true) ∧ ∃ X', J (pre ++ [x]) rs X' W' ∧ Rel ⟨rs, bs, W', X'⟩ ∧ ∀ x v, V ⟨rs, bs, W, X⟩ x v → V ⟨rs, bs, W', X'⟩ x v
/-- An iterator that writes into rows of the caller's. -/
def IterD1 {β : Type} (P : Program) (f : FuncId) (cap : List AVal) (sh : List (Nat × Nat)) (rs0 rs1 : List Row) (items : List β) (enc : β → List AVal) : Prop :=
  ∀ (l : Nat) (bs : Nat → Option Nat) (J : List β → List Row → (Nat → Nat → Prop) → World → Prop) (X : Nat → Nat → Prop) (W : World) (vs : List Value), Blk sh.length bs → Calm1 bs sh J → Rounds1 P l bs sh J items enc → J [] rs0 X W → Rel ⟨rs0, bs, W, X⟩ → VL ⟨rs0, bs, W, X⟩ cap vs →
    CallsIn (Fw none) 0 P f (#[.func (.yield l) #[] #[]] ++ vs.toArray) W fun e W' => (∃ v, e = .returned v) ∧ ∃ X', J items rs1 X' W'
/-- A piece of such an iterator's code. -/
def AWJ1 {β : Type} (P : Program) (l : Nat) (sh : List (Nat × Nat)) (items : List β) (enc : β → List AVal) (c : Code) (Q : Exit → List β → St → Prop) (pre : List β) (st : St) : Prop :=
  ShR sh st.rows → ∀ (bs : Nat → Option Nat) (J : List β → List Row → (Nat → Nat → Prop) → World → Prop) (X : Nat → Nat → Prop) (W : World) (a : Act), Blk sh.length bs → Calm1 bs sh J → Rounds1 P l bs sh J items enc → J pre st.rows X W → RelSt [] X st bs W a →
    c.wpIn (Fw none) 0 P (fun e a' W' => ∃ pre' st' X', Q e pre' st' ∧ ShR sh st'.rows ∧ J pre' st'.rows X' W' ∧ RelSt [] X' st' bs W' a') a W

section
variable {β : Type} {P : Program} {l : Nat} {sh : List (Nat × Nat)} {items : List β} {enc : β → List AVal} {Q : Exit → List β → St → Prop} {pre : List β} {st : St}
theorem AWJ1.of {c : Code} (h : AWP P sh.length c (fun e t => Q e pre t ∧ ShR sh t.rows) st) : AWJ1 P l sh items enc c Q pre st := by
  obtain ⟨regs, rows⟩ := st
  intro hS bs J X W a hB hc hy hj hr
  refine wpIn_mono (h (Nat.le_of_eq hS.1.symm) none [] X bs W a hr) ?_
  rintro e a' W' ⟨t, m', ⟨hq, hS'⟩, _, hr', hev⟩
  obtain ⟨regs', rows'⟩ := t
  have hm' := Evo.ptrs (ext := []) hS hS' hB (by rw [List.append_nil]; exact hev)
  have hr2 := hr'.norm hS'.1 hm'
  exact ⟨pre, _, X, hq, hS', hc _ _ _ _ _ _ hj hS hS' hr.rel hr2.rel (Evo.norm hS'.1 hm' hev), hr2⟩
theorem AWJ1.mono {c : Code} {Q' : Exit → List β → St → Prop} (h : AWJ1 P l sh items enc c Q pre st) (hq : ∀ e p t, Q e p t → Q' e p t) : AWJ1 P l sh items enc c Q' pre st :=
  fun hS bs J X W a hB hc hy hj hr => wpIn_mono (h hS bs J X W a hB hc hy hj hr) fun e _ _ ⟨p, t, X', k1, k2⟩ => ⟨p, t, X', hq _ _ _ k1, k2⟩
theorem AWJ1.seq {x y : Code} (h : AWJ1 P l sh items enc x (thenJ (AWJ1 P l sh items enc y Q) Q) pre st) : AWJ1 P l sh items enc (.seq x y) Q pre st := by
  intro hS bs J X W a hB hc hy hj hr
  refine wpIn_seq (wpIn_mono (h hS bs J X W a hB hc hy hj hr) ?_)
  rintro e a' w' ⟨p, t, X', hq, hS', hj', hr'⟩
  cases e with
  | normal => exact hq hS' bs J X' w' a' hB hc hy hj' hr'
  | exit id => exact ⟨p, t, X', hq, hS', hj', hr'⟩
  | goto l => exact ⟨p, t, X', hq, hS', hj', hr'⟩
  | ret => exact ⟨p, t, X', hq, hS', hj', hr'⟩
  | panic ch => exact ⟨p, t, X', hq, hS', hj', hr'⟩
  | outgrown => exact ⟨p, t, X', hq, hS', hj', hr'⟩
theorem AWJ1.block {id : Nat} {c : Code} (h : AWJ1 P l sh items enc c (inBlockJ id Q) pre st) : AWJ1 P l sh items enc (.block id c) Q pre st := by
  intro hS bs J X W a hB hc hy hj hr
  refine wpIn_block (wpIn_mono (h hS bs J X W a hB hc hy hj hr) ?_)
  rintro e a' w' ⟨p, t, X', hq, hx⟩
  cases e with
  | exit id' =>
    simp only [inBlockJ] at hq
    simp only [Exit.inBlock]
    split
    · rename_i he; rw [if_pos he] at hq; exact ⟨p, t, X', hq, hx⟩
    · rename_i he; rw [if_neg he] at hq; exact ⟨p, t, X', hq, hx⟩
  | normal => exact ⟨p, t, X', hq, hx⟩
  | goto l => exact ⟨p, t, X', hq, hx⟩
  | ret => exact ⟨p, t, X', hq, hx⟩
  | panic ch => exact ⟨p, t, X', hq, hx⟩
  | outgrown => exact ⟨p, t, X', hq, hx⟩
theorem AWJ1.loop {c : Code} (I : Nat → List β → St → Prop) (n₀ : Nat) (h₀ : I n₀ pre st) (round : ∀ n p t, I n p t → AWJ1 P l sh items enc c (thenJ (fun p' t' => ∃ n', n' < n ∧ I n' p' t') Q) p t) : AWJ1 P l sh items enc (.loop c) Q pre st := by
  intro hS bs J X W a hB hc hy hj hr
  refine wpIn_loop_ghost (fun n a' w' => ∃ p t X', I n p t ∧ ShR sh t.rows ∧ J p t.rows X' w' ∧ RelSt [] X' t bs w' a') n₀ ⟨pre, st, X, h₀, hS, hj, hr⟩ ?_
  rintro n a' w' ⟨p, t, X', hI, hS', hj', hr'⟩
  refine wpIn_mono (round n p t hI hS' bs J X' w' a' hB hc hy hj' hr') ?_
  rintro e a2 w2 ⟨p2, s2, X2, hq, hS2, hj2, hr2⟩
  cases e with
  | normal => obtain ⟨n', hlt, hI'⟩ := hq; exact ⟨n', hlt, p2, s2, X2, hI', hS2, hj2, hr2⟩
  | exit id => exact ⟨p2, s2, X2, hq, hS2, hj2, hr2⟩
  | goto l => exact ⟨p2, s2, X2, hq, hS2, hj2, hr2⟩
  | ret => exact ⟨p2, s2, X2, hq, hS2, hj2, hr2⟩
  | panic ch => exact ⟨p2, s2, X2, hq, hS2, hj2, hr2⟩
  | outgrown => exact ⟨p2, s2, X2, hq, hS2, hj2, hr2⟩
theorem AWJ1.to {c : Code} (st' : St) (h : st = st') (k : AWJ1 P l sh items enc c Q pre st') : AWJ1 P l sh items enc c Q pre st := h ▸ k
end

theorem AWJ1.yieldReg {β : Type} {P : Program} {lp : Nat} {sh : List (Nat × Nat)} {items : List β} {enc : β → List AVal} {Q : Exit → List β → St → Prop} {pre : List β} {st : St} {id : Nat} (l1 : List Oper) (o : Oper) (l2 : List Oper) (st1 : St) (regs2 : List AVal) (rs2 : List Row) (x : β) (rest : List β)
    (h1 : DerL P (l1 ++ o :: l2).toArray l1 st st1) (hwk : Weak sh.length st1 ⟨regs2, rs2⟩) (hS2 : ShR sh rs2) (hw : wantA (l1 ++ o :: l2).toArray o regs2 = some true) (hcall : callY o (ev regs2) = some (lp, enc x)) (hit : items = pre ++ x :: rest)
    (h3 : DerQ P (l1 ++ o :: l2).toArray l2 (St.put ⟨regs2, rs2⟩ o.dst (.sc (.bool true)) rs2) (fun t => ShR sh t.rows ∧ Q .normal (pre ++ [x]) t)) : AWJ1 P lp sh items enc (.region id (l1 ++ o :: l2).toArray false) Q pre st := by
  obtain ⟨regs, rows⟩ := st
  intro hS bs J X W a hB hc hy hj hr
  refine wpIn_region ?_
  obtain ⟨s2, d2, hS3, hq⟩ := h3
  obtain ⟨regs3, rows3⟩ := s2
  have e : List.range (l1 ++ o :: l2).toArray.size = List.range' 0 l1.length ++ (l1.length :: List.range' (l1.length + 1) l2.length) := by
    rw [List.range_eq_range']
    simp only [List.size_toArray, List.length_append, List.length_cons]
    rw [← List.range'_append_1, List.range'_succ]
    simp
  rw [e]
  have d1 := h1.derP 0 (l := l1) (ops := (l1 ++ o :: l2).toArray) (fun j hj => by simp [List.getElem?_append_left hj])
  have d2' := d2.derP (l1.length + 1) (l := l2) (ops := (l1 ++ o :: l2).toArray) (fun j hj => by
    simp only [List.getElem?_toArray]
    rw [List.getElem?_append_right (by omega), show l1.length + 1 + j - l1.length = j + 1 by omega, List.getElem?_cons_succ])
  have hops : (l1 ++ o :: l2).toArray[l1.length]? = some o := by simp
  refine d1.wpApp hr fun m1 W1 a1 q1 hle1 ev1 => ?_
  simp only [wpOpsIn, hops]
  have hN0 : rows.length = sh.length := hS.1
  have hN1 : sh.length ≤ st1.rows.length := by have : rows.length ≤ st1.rows.length := hle1; omega
  obtain ⟨_, hwk2⟩ := hwk hN1
  obtain ⟨m2, q2, ev2⟩ := hwk2 [] X m1 W1 a1 q1
  have ev1' : Evo sh.length ⟨rows, bs, W, X⟩ ⟨st1.rows, m1, W1, X⟩ := by rw [← hN0]; exact ev1
  have ev12 : Evo sh.length ⟨rows, bs, W, X⟩ ⟨rs2, m2, W1, X⟩ := ev1'.trans ev2
  have hm2 := Evo.ptrs (ext := []) hS hS2 hB (by rw [List.append_nil]; exact ev12)
  have r1 := q2.norm hS2.1 hm2
  have ev13 := Evo.norm hS2.1 hm2 ev12
  rw [if_pos (wantA_spec r1 hw)]
  have hj1 : J pre rs2 X W1 := hc _ _ _ _ _ _ hj hS hS2 hr.rel r1.rel ev13
  refine yield_wp r1 hcall fun vs hvs => ?_
  obtain ⟨fn, tmps, assign, body, k1, k2⟩ := hy pre x rest rs2 X W1 vs hit hj1 hS2 r1.rel hvs
  refine ⟨fn, tmps, assign, body, k1, k2.mono ?_⟩
  rintro e W2 ⟨rfl, X2, hj2, hrel2, hv2⟩
  refine ⟨_, rfl, ?_⟩
  have rr2 : RelSt [] X2 ⟨regs2, rs2⟩ bs W2 a1 := ⟨hrel2, r1.len, fun i hi => hv2 _ _ (r1.regs i hi), r1.defers⟩
  have rr3 : RelSt [] X2 (St.put ⟨regs2, rs2⟩ o.dst (.sc (.bool true)) rs2) bs W2 (a1.put o.dst (.bool true)) := rr2.put hrel2 (Evo.refl _ _) o.dst (.sc _ rfl)
  refine d2'.wp rr3 fun m3 W3 a3 r4 _ ev3 => ?_
  have hrows : (St.put ⟨regs2, rs2⟩ o.dst (.sc (.bool true)) rs2).rows = rs2 := by cases o.dst <;> rfl
  rw [hrows] at ev3
  have ev3 : Evo sh.length ⟨rs2, bs, W2, X2⟩ ⟨rows3, m3, W3, X2⟩ := by rw [← hS2.1]; exact ev3
  have hm3 := Evo.ptrs (ext := []) hS2 hS3 hB (by rw [List.append_nil]; exact ev3)
  have rr4 := r4.norm hS3.1 hm3
  exact ⟨pre ++ [x], _, X2, hq, hS3, hc _ _ _ _ _ _ hj2 hS2 hS3 hrel2 rr4.rel (Evo.norm hS3.1 hm3 ev3), rr4⟩

/-- Such an iterator's contract out of its body. -/
theorem IterD1.body {β : Type} {P : Program} {f : FuncId} {fn : Func} {c : Code} {cap : List AVal} {sh : List (Nat × Nat)} {rs0 rs1 : List Row} {items : List β} {enc : β → List AVal} (hf : P.funcs[f]? = some fn) (hb : fn.body = some c) (hS0 : ShR sh rs0)
    (h : ∀ l, AWJ1 P l sh items enc c (fun e p st => (e = .normal ∨ e = .ret) ∧ p = items ∧ st.rows = rs1 ∧ ∃ r, resA' P fn.results st = some r) [] ⟨.sc (.func (.yield l) #[] #[]) :: cap ++ List.replicate (fn.ntmps - (cap.length + 1)) .undef, rs0⟩) : IterD1 P f cap sh rs0 rs1 items enc := by
  intro l bs J X W vs hB hc hy hj hrel hvl
  refine callsIn_of_wp hf hb trivial ?_
  refine wpIn_mono (h l hS0 bs J X W _ hB hc hy hj ?_) ?_
  · refine ⟨hrel, by simp [hvl.1]; omega, ?_, rfl⟩
    intro i hi
    cases i with
    | zero => simp [Array.getD_eq_getD_getElem?, Array.getElem?_append]; exact .sc _ rfl
    | succ i =>
      rcases Nat.lt_or_ge i cap.length with h' | h'
      · have e1 : (AVal.sc (.func (.yield l) #[] #[]) :: cap ++ List.replicate (fn.ntmps - (cap.length + 1)) AVal.undef).getD (i + 1) .undef = cap.getD i .undef := by
          rw [List.getD_eq_getElem?_getD, List.getD_eq_getElem?_getD, List.cons_append, List.getElem?_cons_succ, List.getElem?_append_left h']
        have hv : i < vs.length := by rw [← hvl.1]; exact h'
        have e2 : (#[Value.func (.yield l) #[] #[]] ++ vs.toArray ++ Array.replicate (fn.ntmps - (#[Value.func (.yield l) #[] #[]] ++ vs.toArray).size) Go.undef).getD (i + 1) Go.undef = vs.getD i Go.undef := by
          simp only [Array.getD_eq_getD_getElem?, List.getD_eq_getElem?_getD]
          rw [Array.getElem?_append_left (by simp; omega), Array.getElem?_append_right (by simp)]
          simp
        show V _ _ _
        rw [e1, e2]
        exact hvl.2 i h'
      · have e1 : (AVal.sc (.func (.yield l) #[] #[]) :: cap ++ List.replicate (fn.ntmps - (cap.length + 1)) AVal.undef).getD (i + 1) .undef = .undef := by
          rw [List.getD_eq_getElem?_getD, List.cons_append, List.getElem?_cons_succ, List.getElem?_append_right h', List.getElem?_replicate]
          split <;> rfl
        rw [e1]; exact .undef _
  · rintro e a' W' ⟨p, st, X', ⟨he, rfl, hrow, r, hres⟩, hs, hj', hr'⟩
    rw [hrow] at hj'
    obtain ⟨v, hv1, hv2⟩ := results_spec (P := P) hr' hres
    rcases he with rfl | rfl
    · exact ⟨hr'.defers, v, hv1, ⟨v, rfl⟩, X', hj'⟩
    · exact ⟨hr'.defers, v, hv1, ⟨v, rfl⟩, X', hj'⟩
end Go.Abs

set_option linter.unusedVariables false
set_option linter.unusedSimpArgs false
namespace Go.Abs
open Go
theorem XN.congr {rows rows' : List Row} {ρ : Nat → Nat} {n : Nat} {m : Nat → Option Nat} {X : Nat → Nat → Prop} (h : ∀ j, (∀ i, i < n → j ≠ ρ i) → rows'[j]? = rows[j]?) : XN rows' ρ n m X = XN rows ρ n m X := by
  funext b o
  apply propext
  constructor
  · rintro (h1 | ⟨j, t, hj, k1, k2⟩)
    · exact .inl h1
    · exact .inr ⟨j, t, hj, by rw [← h j hj]; exact k1, k2⟩
  · rintro (h1 | ⟨j, t, hj, k1, k2⟩)
    · exact .inl h1
    · exact .inr ⟨j, t, hj, by rw [h j hj]; exact k1, k2⟩

theorem AWM.rangeF1 {β : Type} {P : Program} {N : Nat} {Q : Exit → St → Prop} {st : St} {g : Operand} {ps : Array Tmp} {assign body : Code} {gf : FuncId} {cap : List AVal} {sh : List (Nat × Nat)} {rs0 rs1 : List Row} {items : List β} {enc : β → List AVal}
    (hit : IterD1 P gf cap sh rs0 rs1 items enc) (ρ : Nat → Nat) (R : List β → List Row → List Row) (hg : ev st.regs g = .fn gf (renAll ρ cap)) (hen : enterable P gf = true) (hcap : ltAll sh.length cap = true) (hS0 : ShR sh rs0) (hS1 : ShR sh rs1)
    (hinj : ∀ i j, i < sh.length → j < sh.length → ρ i = ρ j → i = j) (hρ : ∀ i, i < sh.length → ρ i < st.rows.length)
    (h0 : R [] rs0 = st.rows) (hrow : ∀ pre rs, ShR sh rs → ∀ i r, rs[i]? = some r → (R pre rs)[ρ i]? = some (r.ren ρ)) (hoth : ∀ pre rs rs' j, ShR sh rs → ShR sh rs' → (∀ i, i < sh.length → j ≠ ρ i) → (R pre rs')[j]? = (R pre rs)[j]?)
    (hnm : ∀ pre rs, ShR sh rs → NoMap (R pre rs)) (hlen : ∀ pre rs, ShR sh rs → st.rows.length ≤ (R pre rs).length) (hps : ∀ x, (enc x).length = ps.size) (hed : ∀ x, dataAll (enc x) = true)
    (a₁ : List β → β → List Row → St) (hnm1 : ∀ pre x rs, ShR sh rs → NoMap (a₁ pre x rs).rows)
    (hassign : ∀ pre x rest rs, items = pre ++ x :: rest → ShR sh rs → AWP P st.rows.length assign (fun e t => e = .normal ∧ t = a₁ pre x rs) ⟨setAll st.regs (ps.toList.zip (enc x)), R pre rs⟩)
    (hbody : ∀ pre x rest rs, items = pre ++ x :: rest → ShR sh rs → AWP P st.rows.length body (fun e t => e = .normal ∧ ∃ regs, Weak st.rows.length t ⟨regs, R (pre ++ [x]) rs⟩) (a₁ pre x rs))
    (hq : Q .normal ⟨st.regs, R items rs1⟩) : AWM P N (.rangeFunc g ps assign body) Q st := by
  intro hN hnm0 B ds X m w a hr hm hB
  have hfv := hr.eval g
  rw [hg] at hfv
  obtain ⟨us, hu, hl, hus⟩ := hfv.fn_inv
  refine wpIn_rangeFunc ?_
  intro fn hfn
  obtain ⟨rec, hrec⟩ : ∃ rec : LoopState → Option Code → Loop, rec = fun st pe => { state := st, pending := pe, fn, tmps := a.tmps, params := ps, assign, body, defers := w.heap.size } := ⟨_, rfl⟩
  obtain ⟨W1, hW1⟩ : ∃ W1, (w.alloc (.deferred (some []))).alloc (.loop (rec .ready none)) = W1 := ⟨_, rfl⟩
  have hg1 : w.grownBy W1 none := by rw [← hW1]; exact grown_trans (World.grownBy_alloc w _ none) (World.grownBy_alloc _ _ none)
  have hL1 : W1.heap[w.heap.size + 1]? = some (.loop (rec .ready none)) := by
    rw [← hW1]; have := World.alloc_heap_new (w.alloc (.deferred (some []))) (.loop (rec .ready none)); rwa [World.size_alloc] at this
  have hK1 : W1.heap[w.heap.size]? = some (.deferred (some [])) := by
    rw [← hW1]; exact ((World.grownBy_alloc (w.alloc (.deferred (some []))) (.loop (rec .ready none)) none).block _ (by simp) (by simp)).trans (World.alloc_heap_new w _)
  have hsz : W1.heap.size = w.heap.size + 2 := by rw [← hW1]; simp
  obtain ⟨bs, hbs⟩ : ∃ bs : Nat → Option Nat, bs = fun i => m (ρ i) := ⟨_, rfl⟩
  have hLay : ∀ {pre : List β} {rs : List Row} {m' : Nat → Option Nat}, ShR sh rs → (∀ i, i < sh.length → m' (ρ i) = bs i) → Lay ρ sh.length (R pre rs) m' rs bs := fun hS hmb => ⟨hS.1, hrow _ _ hS, fun i hi => (hmb i hi).symm, hinj⟩
  have hmb0 : ∀ i, i < sh.length → m (ρ i) = bs i := fun i _ => by rw [hbs]
  have hget0 : ∀ i, i < sh.length → ∃ r, rs0[i]? = some r ∧ st.rows[ρ i]? = some (r.ren ρ) := fun i hi => by
    have hg : rs0[i]? = some (rs0[i]'(by rw [hS0.1]; exact hi)) := by simp [hS0.1, hi]
    exact ⟨_, hg, by rw [← h0]; exact hrow [] rs0 hS0 i _ hg⟩
  have hB0 : Blk sh.length bs := fun i hi => by
    obtain ⟨r, hg, hg2⟩ := hget0 i hi
    obtain ⟨hf, hl, he, hz, hle⟩ := hS0.2 i r hg
    rcases hr.rel.own (ρ i) _ hg2 (hS0.nofroR hg ρ) (by show r.st ≠ .map; exact hS0.nomap hg) with h | ⟨b, c, e, k1, _⟩
    · have h3 := h.2
      have : r.cells.length = 0 := by have := congrArg List.length h3; simpa [Row.ren, renAll_length] using this
      omega
    · exact ⟨b, by rw [hbs]; exact k1⟩
  let J : List β → List Row → (Nat → Nat → Prop) → World → Prop := fun pre rs X1 W => ∃ m', X1 = XN (R pre rs) ρ sh.length m' X ∧ (∀ i, i < sh.length → m' (ρ i) = bs i) ∧ Rel ⟨R pre rs, m', W, X⟩ ∧ (∀ i, i < st.regs.length → V ⟨R pre rs, m', W, X⟩ (st.regs.getD i .undef) (a.tmps.getD i Go.undef)) ∧
    Evo st.rows.length ⟨st.rows, m, w, X⟩ ⟨R pre rs, m', W, X⟩ ∧ W.heap[w.heap.size + 1]? = some (.loop (rec .ready none)) ∧ W.heap[w.heap.size]? = some (.deferred (some []))
  have hkeep : ∀ {rs : List Row} {W W' : World} {X1 : Nat → Nat → Prop} {rs' : List Row} {k : Nat} {o : Obj}, Rel ⟨rs, bs, W, X1⟩ → ShR sh rs → Evo sh.length ⟨rs, bs, W, X1⟩ ⟨rs', bs, W', X1⟩ → W.heap[k]? = some o → o.isCells = false → W'.heap[k]? = some o := by
    intro rs W W' X1 rs' k o h1 hS h2 h3 h4
    refine (h2.free k (lt_of_heap h3) (fun i t hi hns hb => ?_)).1.trans h3
    obtain ⟨c, e, hbk, _⟩ := h1.block (id := i) hi (.inl (hS.2 i t hi).1) hb
    have hbk : W.heap[k]? = some (.cells c e (0, 0)) := hbk
    rw [h3] at hbk; cases hbk
    simp [Obj.isCells] at h4
  have hcalm : Calm1 bs sh J := by
    rintro p rs rs' X1 W W' ⟨m', e1, hmb, h1, h2, h3, h4, h5⟩ hS hS' hrel hrel' hevo
    subst e1
    obtain ⟨c1, c2⟩ := goOut h1 (hLay (pre := p) hS hmb) (hLay (pre := p) hS' hmb) hS hS' (fun j hj => hoth p rs rs' j hS hS' hj) hrel' hevo
    refine ⟨m', ?_, hmb, c1, fun i hi => c2.val _ _ (h2 i hi) (h2 i hi).refLt, h3.trans (c2.mono (hlen p rs hS)), hkeep hrel hS hevo h4 rfl, hkeep hrel hS hevo h5 rfl⟩
    exact (XN.congr (fun j hj => hoth p rs rs' j hS hS' hj)).symm
  have hRel1 : Rel ⟨st.rows, m, W1, X⟩ := (calm_step (E := ⟨st.rows, m, w, X⟩) hr.rel hnm0 hg1 (fun r e => by simp at e)).1
  have hLay0 : Lay ρ sh.length st.rows m rs0 bs := by rw [← h0]; exact hLay hS0 hmb0
  have hJ0 : J [] rs0 (XN st.rows ρ sh.length m X) W1 := by
    obtain ⟨c1, c2, _⟩ := calm_step (E := ⟨st.rows, m, w, X⟩) hr.rel hnm0 hg1 (fun r e => by simp at e)
    refine ⟨m, by rw [h0], hmb0, by rw [h0]; exact c1, fun i hi => by rw [h0]; exact c2 _ _ (hr.regs i hi), ?_, hL1, hK1⟩
    rw [h0]
    exact (Evo.refl _ ⟨st.rows, m, w, X⟩).calm hr.rel hnm0 hg1 (fun r e => by simp at e)
  have hcv : VL ⟨rs0, bs, W1, XN st.rows ρ sh.length m X⟩ cap us := by
    obtain ⟨_, c2, _⟩ := calm_step (E := ⟨st.rows, m, w, X⟩) hr.rel hnm0 hg1 (fun r e => by simp at e)
    rw [renAll_length] at hl hus
    refine ⟨hl, fun i hi => V.goIn hLay0 hS0 ?_ ((ltAll_iff sh.length cap).1 hcap i hi)⟩
    have := c2 _ _ (hus i hi)
    rwa [renAll_getD] at this
  refine ⟨w.heap.size + 1, [mark w.heap.size], W1, { target := .fn (.func gf) us.toArray, args := #[.func (.yield (w.heap.size + 1)) #[] #[]] }, W1, gf,
    #[.func (.yield (w.heap.size + 1)) #[] #[]] ++ us.toArray, W1, ?_, ?_, ?_, ?_, fun h => by simp [Fw] at h, ?_⟩
  · rw [← hW1, hrec]; exact run_enterLoop_outer _ _ _ _ _
  · simp only [resolve, hu]
    simp [go_sem]
  · intro f' hf'; trivial
  · simp [invoke, go_sem, run_callFunc hen]
  · refine (hit (w.heap.size + 1) bs J (XN st.rows ρ sh.length m X) W1 us hB0 hcalm ?_ hJ0 (Rel.goIn hRel1 hLay0 hS0) hcv).mono ?_
    · -- a round
      rintro pre x rest rs X1 W vs hitems ⟨m', e1, hmb, h1, h2, h3, h4, h5⟩ hS hrelI hvs
      subst e1
      have hnmR := hnm pre rs hS
      have hvl : vs.length = ps.size := by rw [← hvs.1, hps]
      have hyr := run_yield (P := P) (l := w.heap.size + 1) (r := rec .ready none) (args := vs.toArray) h4 (by rw [hrec]; simp [hvl])
      refine ⟨_, _, _, _, hyr, ?_⟩
      have hRe : ∀ st' pe, (rec st' pe).tmps = a.tmps ∧ (rec st' pe).params = ps ∧ (rec st' pe).assign = assign ∧ (rec st' pe).body = body ∧ (rec st' pe).state = st' := by intro st' pe; rw [hrec]; exact ⟨rfl, rfl, rfl, rfl, rfl⟩
      obtain ⟨r1', r2', r3', r4', r5'⟩ := hRe .ready none
      rw [r1', r2', r3', r4']
      refine roundIn_of_wpIn trivial ?_
      have hvs' : ∀ i, i < (enc x).length → V ⟨R pre rs, m', W, X⟩ ((enc x).getD i .undef) (vs.getD i Go.undef) := fun i hi => by
        have := V.goOut (hLay (pre := pre) hS hmb) hS (hvs.2 i hi)
        rwa [AVal.ren_data _ ((dataAll_iff _).1 (hed x) i hi)] at this
      have hst0' : RelSt [] X ⟨st.regs, R pre rs⟩ m' W ⟨a.tmps, []⟩ := ⟨h1, hr.len, h2, rfl⟩
      have hst1 := RelSt.fold ps.toList (enc x) vs _ _ hst0' (by rw [hps]; simp) hvs.1 hvs'
      have etm : (ps.zip vs.toArray).foldl (fun t q => t.setIfInBounds q.1 q.2) a.tmps = (ps.toList.zip vs).foldl (fun t q => t.setIfInBounds q.1 q.2) a.tmps := by
        rw [← Array.foldl_toList]; simp
      have hlt : w.heap.size + 1 < W.heap.size := lt_of_heap h4
      have hR0 : st.rows.length ≤ (R pre rs).length := hlen pre rs hS
      have hA := hassign pre x rest rs hitems hS hR0 (some (w.heap.size + 1)) [] X m' W _ hst1
      rw [← etm] at hA
      refine wpIn_mono hA ?_
      rintro e a1 W3 ⟨s1, m1, ⟨rfl, rfl⟩, k2, k3, k4⟩
      have hnma := hnm1 pre x rs hS
      have hL3 : W3.heap[w.heap.size + 1]? = some (.loop (rec .ready none)) := (k4.free _ hlt (Free.of_other (E := ⟨R pre rs, m', W, X⟩) h1 hnmR h4 rfl)).1.trans h4
      have hbr := run_beginRound (P := P) hL3 r5'
      have hg3 := grownBy_putObj' W3 (w.heap.size + 1) (.loop { (rec .ready none) with state := .busy })
      have hn3 : (W3.putObj (w.heap.size + 1) (.loop { (rec .ready none) with state := .busy })).heap[w.heap.size + 1]? = some (.loop { (rec .ready none) with state := .busy }) := World.putObj_heap_same (lt_of_heap hL3)
      generalize W3.putObj (w.heap.size + 1) (.loop { (rec .ready none) with state := .busy }) = W4 at hbr hg3 hn3
      refine ⟨W4, hbr, ?_⟩
      have hsz3 : w.heap.size ≤ W3.heap.size := Nat.le_trans h3.size k4.size
      have e3 : Evo st.rows.length ⟨st.rows, m, w, X⟩ ⟨(a₁ pre x rs).rows, m1, W3, X⟩ := h3.trans k4
      obtain ⟨c1, c2, c3⟩ := calm_step (E := ⟨(a₁ pre x rs).rows, m1, W3, X⟩) k3.rel hnma hg3 (fun r e => by cases e; exact ⟨_, hL3, rfl⟩)
      have e4 := e3.calm k3.rel hnma hg3 (fun r e => by cases e; exact ⟨by simp, _, hL3, rfl⟩)
      have hst4 : RelSt [] X (a₁ pre x rs) m1 W4 a1 := ⟨c1, k3.len, fun i hi => c2 _ _ (k3.regs i hi), k3.defers⟩
      refine wpIn_mono (hbody pre x rest rs hitems hS k2 (some (w.heap.size + 1)) [] X m1 W4 a1 hst4) ?_
      rintro e a5 W5 ⟨s5, m5, ⟨rfl, regs5, hweak⟩, n5, t5, ev5⟩
      obtain ⟨n6, hw6⟩ := hweak n5
      obtain ⟨m6, t6, ev6⟩ := hw6 [] X m5 W5 a5 t5
      have e6 : Evo st.rows.length ⟨st.rows, m, w, X⟩ ⟨R (pre ++ [x]) rs, m6, W5, X⟩ := (e4.trans ev5).trans ev6
      have hmb6 : ∀ i, i < sh.length → m6 (ρ i) = bs i := fun i hi => by
        obtain ⟨r0, hg0, hg1'⟩ := hget0 i hi
        obtain ⟨b, hb⟩ := hB0 i hi
        have hg : rs[i]? = some (rs[i]'(by rw [hS.1]; exact hi)) := by simp [hS.1, hi]
        have hp : V ⟨st.rows, m, w, X⟩ (.ptr (ρ i) 0) (.pointer (some ⟨b, 0, Option.none⟩)) := .ptr (ρ i) 0 _ b hg1' (hS0.2 i r0 hg0).1 (by rw [← hb, hbs])
        have hp2 := e6.val _ _ hp (by simpa [AVal.refLt] using hρ i hi)
        obtain ⟨b', q1, q2⟩ := hp2.ptr_inv (hrow (pre ++ [x]) rs hS i _ hg) (hS.2 i _ hg).1
        cases q1; exact q2.trans hb.symm
      have hL5 : W5.heap[w.heap.size + 1]? = some (.loop { (rec .ready none) with state := .busy }) :=
        (ev5.free _ (lt_of_heap hn3) (Free.of_other (E := ⟨(a₁ pre x rs).rows, m1, W4, X⟩) c1 hnma hn3 rfl)).1.trans hn3
      have hD3 : W3.heap[w.heap.size]? = some (.deferred (some [])) := (k4.free _ (lt_of_heap h5) (Free.of_other (E := ⟨R pre rs, m', W, X⟩) h1 hnmR h5 rfl)).1.trans h5
      have hD4 : W4.heap[w.heap.size]? = some (.deferred (some [])) := (hg3.block _ (lt_of_heap hD3) (by simp)).trans hD3
      have hD5 : W5.heap[w.heap.size]? = some (.deferred (some [])) := (ev5.free _ (lt_of_heap hD4) (Free.of_other (E := ⟨(a₁ pre x rs).rows, m1, W4, X⟩) c1 hnma hD4 rfl)).1.trans hD4
      have her := run_endRound (P := P) none hL5
      have hrd : (Obj.loop { { (rec .ready none) with state := .busy } with state := if (none : Option Code).isNone then .ready else .done, pending := none }) = .loop (rec .ready none) := by rw [hrec]; rfl
      rw [hrd] at her
      have hg6 := grownBy_putObj' W5 (w.heap.size + 1) (.loop (rec .ready none))
      have hn6 : (W5.putObj (w.heap.size + 1) (.loop (rec .ready none))).heap[w.heap.size + 1]? = some (.loop (rec .ready none)) := World.putObj_heap_same (lt_of_heap hL5)
      generalize W5.putObj (w.heap.size + 1) (.loop (rec .ready none)) = W6 at her hg6 hn6
      obtain ⟨f1, f2, f3⟩ := calm_step (E := ⟨R (pre ++ [x]) rs, m6, W5, X⟩) t6.rel (hnm _ _ hS) hg6 (fun r e => by cases e; exact ⟨_, hL5, rfl⟩)
      refine ⟨_, W6, her, rfl, XN (R (pre ++ [x]) rs) ρ sh.length m6 X, ?_, Rel.goIn f1 (hLay hS hmb6) hS, ?_⟩
      · exact ⟨m6, rfl, hmb6, f1, fun i hi => f2 _ _ (e6.val _ _ (hr.regs i hi) (hr.regs i hi).refLt), e6.calm t6.rel (hnm _ _ hS) hg6 (fun r e => by cases e; exact ⟨by simp, _, hL5, rfl⟩), hn6, (hg6.block _ (lt_of_heap hD5) (by simp)).trans hD5⟩
      · intro y u hy
        have hyl : y.refLt sh.length = true := by have := hy.refLt; rwa [show (⟨rs, bs, W, XN (R pre rs) ρ sh.length m' X⟩ : Env).rows.length = sh.length from hS.1] at this
        have hb := V.goOut (hLay (pre := pre) hS hmb) hS hy
        have hbl : (y.ren ρ).refLt st.rows.length = true := AVal.ren_refLt (N := sh.length) hρ y hyl
        have p1 := k4.val _ _ hb hbl
        have p2 := c2 _ _ p1
        have p3 := ev5.val _ _ p2 hbl
        have p4 := ev6.val _ _ p3 hbl
        exact V.goIn (hLay hS hmb6) hS (f2 _ _ p4) hyl
    · rintro e W2 ⟨⟨v, rfl⟩, X2, m2, e2, hmb2, q1, q2, q3, q4, q5⟩
      have hpe : (rec .ready none).pending = none := by rw [hrec]
      have hend := run_endLoop (P := P) q4 (by rw [hrec]; simp)
      have hg4 := grownBy_putObj' W2 (w.heap.size + 1) (.loop { (rec .ready none) with state := .exhausted })
      have ho4 : ∀ j, j ≠ w.heap.size + 1 → (W2.putObj (w.heap.size + 1) (.loop { (rec .ready none) with state := .exhausted })).heap[j]? = W2.heap[j]? := fun j hj => World.putObj_heap_other hj
      generalize W2.putObj (w.heap.size + 1) (.loop { (rec .ready none) with state := .exhausted }) = W4 at hend hg4 ho4
      rw [hpe] at hend
      refine ⟨none, W4, hend, ?_⟩
      have hnmF := hnm items rs1 hS1
      obtain ⟨c1, c2, _⟩ := calm_step (E := ⟨R items rs1, m2, W2, X⟩) q1 hnmF hg4 (fun r e => by cases e; exact ⟨_, q4, rfl⟩)
      have hev := q3.calm (w' := W4) q1 hnmF hg4 (fun r e => by cases e; exact ⟨by simp, _, q4, rfl⟩)
      obtain ⟨Ds, d1, d2, d3⟩ := hm
      refine ⟨⟨st.regs, R items rs1⟩, m2, mark w.heap.size :: ds, hq, hnmF, Nat.le_trans hN (hlen items rs1 hS1), ⟨c1, hr.len, fun i hi => c2 _ _ (q2 i hi), by simp [hr.defers]⟩, ?_, hev.mono hN⟩
      refine ⟨w.heap.size :: Ds, by simp [d1], List.nodup_cons.2 ⟨fun h => ?_, d2⟩, fun D hD => ?_⟩
      · have := lt_of_heap (d3 _ h).2; omega
      · simp only [List.mem_cons] at hD
        rcases hD with rfl | hD
        · exact ⟨hB, (ho4 _ (by omega)).trans q5⟩
        · have hlt := lt_of_heap (d3 D hD).2
          refine ⟨(d3 D hD).1, (ho4 _ (by omega)).trans ?_⟩
          exact ((q3.free D hlt (Free.of_other (E := ⟨st.rows, m, w, X⟩) hr.rel hnm0 (d3 D hD).2 rfl)).1).trans (d3 D hD).2
end Go.Abs

set_option linter.unusedVariables false
set_option linter.unusedSimpArgs false
namespace Go.Abs
open Go
theorem Weak.fro {N : Nat} {st : St} (l : List Nat) (cc : Prop) (regs2 : List AVal) (rows2 : List Row) (hf : frzQ l st.rows (.tup st.regs) = some (cc, rows2, .tup regs2)) (hc : cc) (hl : regs2.length = st.regs.length) (hN : N ≤ rows2.length) : Weak N st ⟨regs2, rows2⟩ :=
  Weak.of_shrink (frzQ_spec hf hc) hl hN
theorem Weak.to' {N : Nat} {A B C : St} (h : Weak N A B) (e : B = C) : Weak N A C := e ▸ h
/-- What is known at the end may be said otherwise. -/
theorem AWP.after {P : Program} {N : Nat} {c : Code} {Q : Exit → St → Prop} {st : St} (h : AWP P N c (fun e t => ∃ t', Weak N t t' ∧ Q e t') st) : AWP P N c Q st := by
  intro hN rd ds X m w a hr
  refine wpIn_mono (h hN rd ds X m w a hr) ?_
  rintro e a' w' ⟨t, m', ⟨t', hw, hq⟩, h1, h2, h3⟩
  obtain ⟨h4, h5⟩ := hw h1
  obtain ⟨m2, h6, h7⟩ := h5 ds X m' w' a' h2
  exact ⟨t', m2, hq, h4, h6, h3.trans h7⟩
def noGotoJ {β : Type} (Q : Exit → List β → St → Prop) : Exit → List β → St → Prop
  | .goto _, _, _ => False
  | e, p, st => Q e p st
section
variable {β : Type} {P : Program} {l : Nat} {sh : List (Nat × Nat)} {items : List β} {enc : β → List AVal} {Q : Exit → List β → St → Prop} {pre : List β} {st : St}
theorem AWJ1.scope {c : Code} (h : AWJ1 P l sh items enc c (noGotoJ Q) pre st) : AWJ1 P l sh items enc (.scope c) Q pre st := by
  intro hS bs J X W a hB hc hy hj hr
  refine wpIn_scope_straight (wpIn_mono (h hS bs J X W a hB hc hy hj hr) ?_)
  rintro e a' w' ⟨p, t, X', h1, h2⟩
  cases e with
  | goto l => exact h1.elim
  | normal => exact ⟨p, t, X', h1, h2⟩
  | exit id => exact ⟨p, t, X', h1, h2⟩
  | ret => exact ⟨p, t, X', h1, h2⟩
  | panic ch => exact ⟨p, t, X', h1, h2⟩
  | outgrown => exact ⟨p, t, X', h1, h2⟩
theorem AWJ1.weaken {c : Code} {st' : St} (hw : Weak sh.length st st') (hS' : ShR sh st'.rows) (h : AWJ1 P l sh items enc c Q pre st') : AWJ1 P l sh items enc c Q pre st := by
  obtain ⟨regs, rows⟩ := st
  obtain ⟨regs', rows'⟩ := st'
  intro hS bs J X W a hB hc hy hj hr
  obtain ⟨_, hw'⟩ := hw (Nat.le_of_eq hS.1.symm)
  obtain ⟨m', hr', hev⟩ := hw' [] X bs W a hr
  have hm' := Evo.ptrs (ext := []) hS hS' hB (by rw [List.append_nil]; exact hev)
  have hr2 := hr'.norm hS'.1 hm'
  exact h hS' bs J X W a hB hc hy (hc _ _ _ _ _ _ hj hS hS' hr.rel hr2.rel (Evo.norm hS'.1 hm' hev)) hr2
theorem AWJ1.kill {c : Code} (ks : List Nat) (st' : St) (he : (⟨killL ks st.regs, st.rows⟩ : St) = st') (h : AWJ1 P l sh items enc c Q pre st') : AWJ1 P l sh items enc c Q pre st := by
  subst he
  intro hS bs J X W a hB hc hy hj hr
  exact (AWJ1.weaken (Weak.kill ks) hS h) hS bs J X W a hB hc hy hj hr
end
end Go.Abs
