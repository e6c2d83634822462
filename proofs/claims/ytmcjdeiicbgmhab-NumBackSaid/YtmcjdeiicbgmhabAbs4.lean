/- Library: an abstract machine over the model, part 4. -/
import Derived.Test.YtmcjdeiicbgmhabAbs3
import Derived.Orders
import Derived.Deep.LoopGhost
set_option linter.unusedVariables false
set_option linter.unusedSimpArgs false
namespace Go.Abs
open Go

structure St where
  regs : List AVal
  rows : List Row

def St.put (st : St) (dst : Option Tmp) (x : AVal) (rows : List Row) : St :=
  match dst with
  | some d => ⟨st.regs.set d x, rows⟩
  | none => ⟨st.regs, rows⟩

def const1 (v : Value) : AVal :=
  match v with
  | .bool b => .sc (.bool b)
  | .int k n => .sc (.int k n)
  | .float k n => .sc (.float k n)
  | .complex k a b => .sc (.complex k a b)
  | .string s => .sc (.string s)
  | .pointer none => .sc (.pointer none)
  | .map none => .sc (.map none)
  | .chan none => .sc (.chan none)
  | .nilFunc => .sc .nilFunc
  | .nilIface => .sc .nilIface
  | .slice none 0 0 => .sl [] 0 .nil
  | .func (.func f) first cap => if first.size = 0 ∧ cap.size = 0 then .fn f [] else .undef
  | _ => .undef
def constA (v : Value) : AVal :=
  match v with
  | .agg cs => .agg (cs.toList.map const1)
  | .tuple cs => .tup (cs.toList.map const1)
  | v => const1 v

theorem V.const1 (E : Env) (v : Value) : V E (const1 v) v := by
  unfold Abs.const1
  split <;> first | exact .sc _ rfl | exact .slnil _ (by simp) | exact .undef _ | skip
  rename_i f first cap
  split
  · rename_i h
    obtain ⟨h1, h2⟩ := h
    have h1' : first = #[] := by simpa using h1
    have h2' : cap = #[] := by simpa using h2
    subst h1'; subst h2'
    exact .fn f [] [] rfl (fun i hi => by simp at hi)
  · exact .undef _
theorem V.constA (E : Env) (v : Value) : V E (constA v) v := by
  unfold Abs.constA
  split
  · rename_i cs
    have := V.agg (E := E) (cs.toList.map Abs.const1) cs.toList (by simp) (fun i hi => by
      simp at hi; simp [hi]; exact V.const1 E _)
    simpa using this
  · rename_i cs
    have := V.tup (E := E) (cs.toList.map Abs.const1) cs.toList (by simp) (fun i hi => by
      simp at hi; simp [hi]; exact V.const1 E _)
    simpa using this
  · exact V.const1 E _

def ev (regs : List AVal) : Operand → AVal
  | .tmp t => regs.getD t .undef
  | .const v => constA v
  | .global _ => .undef
  | .func f => .fn f []

structure RelSt (X : Nat → Nat → Prop) (st : St) (m : Nat → Option Nat) (w : World) (a : Act) : Prop where
  rel : Rel ⟨st.rows, m, w, X⟩
  len : st.regs.length = a.tmps.size
  regs : ∀ i, i < st.regs.length → V ⟨st.rows, m, w, X⟩ (st.regs.getD i .undef) (a.tmps.getD i Go.undef)
  defers : a.defers = []

theorem RelSt.reg {st : St} {X : Nat → Nat → Prop} {m : Nat → Option Nat} {w : World} {a : Act} (h : RelSt X st m w a) (i : Nat) : V ⟨st.rows, m, w, X⟩ (st.regs.getD i .undef) (a.tmps.getD i Go.undef) := by
  rcases Nat.lt_or_ge i st.regs.length with h' | h'
  · exact h.regs i h'
  · rw [List.getD_eq_getElem?_getD, List.getElem?_eq_none h']; exact .undef _
theorem RelSt.eval {st : St} {X : Nat → Nat → Prop} {m : Nat → Option Nat} {w : World} {a : Act} (h : RelSt X st m w a) (x : Operand) : V ⟨st.rows, m, w, X⟩ (ev st.regs x) (a.eval x) := by
  cases x with
  | tmp t => exact h.reg t
  | const v => exact V.constA _ v
  | global g => exact .undef _
  | func f => exact .fn f [] [] rfl (fun i hi => by simp at hi)

theorem RelSt.put {st : St} {X : Nat → Nat → Prop} {m m' : Nat → Option Nat} {w w' : World} {a : Act} (h : RelSt X st m w a) {rows' : List Row} (hr : Rel ⟨rows', m', w', X⟩)
    (he : Evo st.rows.length ⟨st.rows, m, w, X⟩ ⟨rows', m', w', X⟩) (dst : Option Tmp) {x : AVal} {v : Value} (hx : V ⟨rows', m', w', X⟩ x v) : RelSt X (st.put dst x rows') m' w' (a.put dst v) := by
  have hold : ∀ i, i < st.regs.length → V ⟨rows', m', w', X⟩ (st.regs.getD i .undef) (a.tmps.getD i Go.undef) := fun i hi => he.val _ _ (h.regs i hi) (h.regs i hi).refLt
  cases dst with
  | none => exact ⟨hr, h.len, hold, h.defers⟩
  | some d =>
    refine ⟨hr, by show (st.regs.set d x).length = (a.tmps.setIfInBounds d v).size; simp [h.len], ?_, h.defers⟩
    intro i hi
    have hi' : i < st.regs.length := by simpa [St.put] using hi
    show V _ ((st.regs.set d x).getD i .undef) ((a.tmps.setIfInBounds d v).getD i Go.undef)
    have hsz : i < a.tmps.size := by rw [← h.len]; exact hi'
    by_cases hd : d = i
    · subst hd
      have e1 : (st.regs.set d x).getD d .undef = x := by simp [List.getD_eq_getElem?_getD, hi']
      have e2 : (a.tmps.setIfInBounds d v).getD d Go.undef = v := by simp [Array.getD, hsz]
      rw [e1, e2]; exact hx
    · have e1 : (st.regs.set d x).getD i .undef = st.regs.getD i .undef := by simp [List.getD_eq_getElem?_getD, List.getElem?_set, hd]
      have e2 : (a.tmps.setIfInBounds d v).getD i Go.undef = a.tmps.getD i Go.undef := by simp [Array.getD, hsz, Array.getElem_setIfInBounds, hd]
      rw [e1, e2]; exact hold i hi'

/-- A piece of code, from a state on. N: the rows of the callers. -/
def AWP (P : Program) (N : Nat) (c : Code) (Q : Exit → St → Prop) (st : St) : Prop :=
  N ≤ st.rows.length → ∀ (X : Nat → Nat → Prop) (m : Nat → Option Nat) (w : World) (a : Act), RelSt X st m w a →
    c.wp P (fun e a' w' => ∃ st' m', Q e st' ∧ N ≤ st'.rows.length ∧ RelSt X st' m' w' a' ∧ Evo N ⟨st.rows, m, w, X⟩ ⟨st'.rows, m', w', X⟩) a w

def VL (E : Env) (xs : List AVal) (vs : List Value) : Prop := xs.length = vs.length ∧ ∀ i, i < xs.length → V E (xs.getD i .undef) (vs.getD i Go.undef)

/-- What a function answers. -/
def EvF (P : Program) (f : FuncId) (args : List AVal) (rows : List Row) (r : AVal) (rows' : List Row) : Prop :=
  ∀ (X : Nat → Nat → Prop) (m : Nat → Option Nat) (w : World) (vs : List Value), Rel ⟨rows, m, w, X⟩ → VL ⟨rows, m, w, X⟩ args vs →
    Calls P f vs.toArray w fun e w' => ∃ v m', e = .returned v ∧ Rel ⟨rows', m', w', X⟩ ∧ V ⟨rows', m', w', X⟩ r v ∧ rows.length ≤ rows'.length ∧ Evo rows.length ⟨rows, m, w, X⟩ ⟨rows', m', w', X⟩

/-- One operation. -/
def OpS (P : Program) (o : Oper) (ρ : Operand → AVal) (rows : List Row) (res : AVal) (rows' : List Row) : Prop :=
  ∀ (X : Nat → Nat → Prop) (m : Nat → Option Nat) (w : World) (a : Act), Rel ⟨rows, m, w, X⟩ → (∀ x ∈ o.op.operands.toList, V ⟨rows, m, w, X⟩ (ρ x) (a.eval x)) →
    ∀ (K : Act → World → Prop) (Q : Exit → Act → World → Prop),
      (∀ v m' w', Rel ⟨rows', m', w', X⟩ → V ⟨rows', m', w', X⟩ res v → rows.length ≤ rows'.length → Evo rows.length ⟨rows, m, w, X⟩ ⟨rows', m', w', X⟩ → K (a.put o.dst v) w') → o.wp P a w K Q

theorem OpS.congr {P : Program} {o : Oper} {ρ ρ' : Operand → AVal} {rows rows' : List Row} {res : AVal} (h : OpS P o ρ rows res rows') (he : ∀ x ∈ o.op.operands.toList, ρ' x = ρ x) : OpS P o ρ' rows res rows' :=
  fun X m w a hr hv K Q hK => h X m w a hr (fun x hx => by rw [← he x hx]; exact hv x hx) K Q hK

def wantA (ops : Array Oper) (o : Oper) (regs : List AVal) : Option Bool :=
  match o.guard with
  | none => some true
  | some (j, want) =>
    match (ops[j]?).bind (·.dst) with
    | none => some false
    | some t =>
      match regs.getD t .undef with
      | .sc (.bool b) => some (b == want)
      | .tup [] => some false
      | _ => none

theorem wantA_spec {ops : Array Oper} {o : Oper} {st : St} {X : Nat → Nat → Prop} {m : Nat → Option Nat} {w : World} {a : Act} {b : Bool} (h : RelSt X st m w a) (hw : wantA ops o st.regs = some b) :
    Region.wanted o (yielded ops a.tmps) = b := by
  unfold wantA at hw
  unfold Region.wanted
  split at hw
  · rename_i hg; simp at hw; subst hw; rw [hg]
  · rename_i j want hg
    rw [hg]
    simp only
    split at hw
    · rename_i hd
      simp at hw; subst hw
      simp [yielded, hd]
    · rename_i t hd
      have hv := h.reg t
      have hlt : (∃ x, st.regs.getD t .undef = x ∧ x ≠ .undef) → t < st.regs.length := by
        rintro ⟨x, hx, hne⟩
        rcases Nat.lt_or_ge t st.regs.length with h' | h'
        · exact h'
        · rw [List.getD_eq_getElem?_getD, List.getElem?_eq_none h'] at hx; exact absurd hx.symm hne
      split at hw
      · rename_i bb hb
        have ht := hlt ⟨_, hb, by simp⟩
        rw [hb] at hv
        have : a.tmps[t]? = some (.bool bb) := by
          rw [h.len] at ht
          cases hv' : a.tmps.getD t Go.undef with
          | bool q => rw [hv'] at hv; cases hv; simp [Array.getD, ht] at hv'; simp [ht, hv']
          | _ => rw [hv'] at hv; cases hv
        simp at hw
        simp only [yielded, hd, Option.bind_some, this, ← hw]
        rfl
      · rename_i hb
        have ht := hlt ⟨_, hb, by simp⟩
        rw [hb] at hv
        simp at hw; subst hw
        have : a.tmps[t]? = some (.tuple #[]) := by
          rw [h.len] at ht
          cases hv' : a.tmps.getD t Go.undef with
          | tuple q =>
            rw [hv'] at hv
            have hq : q = #[] := by
              generalize hx : AVal.tup [] = x at hv
              generalize hy : Value.tuple q = y at hv
              cases hv <;> simp at hx hy
              rename_i vs hl _
              subst hx
              simp at hl
              simp [hy, List.eq_nil_of_length_eq_zero hl.symm]
            subst hq
            simp [Array.getD, ht] at hv'; simp [ht, hv']
          | _ =>
            rw [hv'] at hv
            generalize hx : AVal.tup [] = x at hv
            cases hv <;> simp_all
        simp [yielded, hd, this]
      · simp at hw

inductive Der (P : Program) (ops : Array Oper) : List Nat → St → St → Prop
  | nil (st : St) : Der P ops [] st st
  | op (i : Nat) (rest : List Nat) (st st' : St) (o : Oper) (res : AVal) (rows' : List Row) (ho : ops[i]? = some o) (hw : wantA ops o st.regs = some true)
      (hs : OpS P o (ev st.regs) st.rows res rows') (h : Der P ops rest (st.put o.dst res rows') st') : Der P ops (i :: rest) st st'
  | skip (i : Nat) (rest : List Nat) (st st' : St) (o : Oper) (ho : ops[i]? = some o) (hw : wantA ops o st.regs = some false)
      (h : Der P ops rest (st.put o.dst (.tup []) st.rows) st') : Der P ops (i :: rest) st st'

theorem V.undefTup (E : Env) : V E (.tup []) Go.undef := by
  have := V.tup (E := E) [] [] rfl (fun i hi => by simp at hi)
  simpa [Go.undef] using this

theorem Der.wp {P : Program} {ops : Array Oper} {l : List Nat} {st st' : St} (h : Der P ops l st st') : ∀ {X : Nat → Nat → Prop} {m : Nat → Option Nat} {w : World} {a : Act} {Q : Exit → Act → World → Prop}, RelSt X st m w a →
    (∀ m' w' a', RelSt X st' m' w' a' → st.rows.length ≤ st'.rows.length → Evo st.rows.length ⟨st.rows, m, w, X⟩ ⟨st'.rows, m', w', X⟩ → Q .normal a' w') → wpOps P ops Q l a w := by
  induction h with
  | nil st => exact fun hr hq => hq _ _ _ hr (Nat.le_refl _) (Evo.refl _ _)
  | op i rest st st' o res rows' ho hw hs _ ih =>
    intro X m w a Q hr hq
    simp only [wpOps, ho]
    rw [if_pos (wantA_spec hr hw)]
    refine .inl (hs X m w a hr.rel (fun x _ => hr.eval x) _ _ fun v m' w' h1 h2 h3 h4 => ?_)
    have hput := hr.put h1 h4 o.dst h2
    refine ih hput fun m2 w2 a2 k1 k2 k3 => ?_
    have hrows : (st.put o.dst res rows').rows = rows' := by cases o.dst <;> rfl
    rw [hrows] at k2 k3
    exact hq _ _ _ k1 (Nat.le_trans h3 k2) (h4.trans (k3.mono h3))
  | skip i rest st st' o ho hw _ ih =>
    intro X m w a Q hr hq
    simp only [wpOps, ho]
    rw [if_neg (by rw [wantA_spec hr hw]; simp)]
    have hput := hr.put hr.rel (Evo.refl _ _) o.dst (V.undefTup _)
    refine ih hput fun m2 w2 a2 k1 k2 k3 => ?_
    have hrows : (st.put o.dst (.tup []) st.rows).rows = st.rows := by cases o.dst <;> rfl
    rw [hrows] at k2 k3
    exact hq _ _ _ k1 k2 k3

section
variable {P : Program} {N : Nat} {Q : Exit → St → Prop} {st : St}

theorem AWP.mono {c : Code} {Q' : Exit → St → Prop} (h : AWP P N c Q st) (hq : ∀ e s, Q e s → Q' e s) : AWP P N c Q' st :=
  fun hN X m w a hr => wp_mono (h hN X m w a hr) fun e _ _ ⟨st', m', h1, h2⟩ => ⟨st', m', hq e st' h1, h2⟩

def thenQ (next : St → Prop) (Q : Exit → St → Prop) : Exit → St → Prop
  | .normal, st => next st
  | e, st => Q e st
def inBlockQ (id : Nat) (Q : Exit → St → Prop) : Exit → St → Prop
  | .exit id', st => if id' = id then Q .normal st else Q (.exit id') st
  | e, st => Q e st

theorem AWP.skip (h : Q .normal st) : AWP P N .skip Q st :=
  fun hN X m w _ hr => wp_skip ⟨st, m, h, hN, hr, Evo.refl _ _⟩
theorem AWP.label {l : Nat} (h : Q .normal st) : AWP P N (.label l) Q st :=
  fun hN X m w _ hr => wp_label ⟨st, m, h, hN, hr, Evo.refl _ _⟩
theorem AWP.exit {id : Nat} (h : Q (.exit id) st) : AWP P N (.exit id) Q st :=
  fun hN X m w _ hr => wp_exit ⟨st, m, h, hN, hr, Evo.refl _ _⟩
theorem AWP.ret (h : Q .ret st) : AWP P N .ret Q st :=
  fun hN X m w _ hr => wp_ret ⟨st, m, h, hN, hr, Evo.refl _ _⟩

theorem AWP.seq {x y : Code} (h : AWP P N x (thenQ (AWP P N y Q) Q) st) : AWP P N (.seq x y) Q st := by
  intro hN X m w a hr
  refine wp_seq (wp_mono (h hN X m w a hr) ?_)
  rintro e a' w' ⟨st', m', hq, hN', hr', hev⟩
  cases e with
  | normal => exact wp_mono (hq hN' X m' w' a' hr') fun e _ _ ⟨s2, m2, k1, k2, k3, k4⟩ => ⟨s2, m2, k1, k2, k3, hev.trans k4⟩
  | exit id => exact ⟨st', m', hq, hN', hr', hev⟩
  | goto l => exact ⟨st', m', hq, hN', hr', hev⟩
  | ret => exact ⟨st', m', hq, hN', hr', hev⟩
  | panic ch => exact ⟨st', m', hq, hN', hr', hev⟩
  | outgrown => exact ⟨st', m', hq, hN', hr', hev⟩

theorem AWP.cond {c : Operand} {x y : Code} {b : Bool} (hc : ev st.regs c = .sc (.bool b)) (ht : b = true → AWP P N x Q st) (hf : b = false → AWP P N y Q st) : AWP P N (.cond c x y) Q st := by
  intro hN X m w a hr
  have hv := hr.eval c
  rw [hc] at hv
  have hv' : a.eval c = .bool b := by
    generalize a.eval c = v at hv
    cases hv
    rfl
  exact wp_cond_split hv' (fun h => ht h hN X m w a hr) (fun h => hf h hN X m w a hr)

theorem AWP.block {id : Nat} {c : Code} (h : AWP P N c (inBlockQ id Q) st) : AWP P N (.block id c) Q st := by
  intro hN X m w a hr
  refine wp_block (wp_mono (h hN X m w a hr) ?_)
  rintro e a' w' ⟨st', m', hq, hx⟩
  cases e with
  | exit id' =>
    simp only [inBlockQ] at hq
    simp only [Exit.inBlock]
    split
    · rename_i he; rw [if_pos he] at hq; exact ⟨st', m', hq, hx⟩
    · rename_i he; rw [if_neg he] at hq; exact ⟨st', m', hq, hx⟩
  | normal => exact ⟨st', m', hq, hx⟩
  | goto l => exact ⟨st', m', hq, hx⟩
  | ret => exact ⟨st', m', hq, hx⟩
  | panic ch => exact ⟨st', m', hq, hx⟩
  | outgrown => exact ⟨st', m', hq, hx⟩

theorem AWP.loop {c : Code} (I : Nat → St → Prop) (n₀ : Nat) (h₀ : I n₀ st) (round : ∀ n s, I n s → AWP P N c (thenQ (fun s' => ∃ n', n' < n ∧ I n' s') Q) s) : AWP P N (.loop c) Q st := by
  intro hN X m w a hr
  refine wp_loop_ghost (fun n a' w' => ∃ s m', I n s ∧ N ≤ s.rows.length ∧ RelSt X s m' w' a' ∧ Evo N ⟨st.rows, m, w, X⟩ ⟨s.rows, m', w', X⟩) n₀ ⟨st, m, h₀, hN, hr, Evo.refl _ _⟩ ?_
  rintro n a' w' ⟨s, m', hI, hN', hr', hev⟩
  refine wp_mono (round n s hI hN' X m' w' a' hr') ?_
  rintro e a2 w2 ⟨s2, m2, hq, hN2, hr2, hev2⟩
  cases e with
  | normal => obtain ⟨n', hlt, hI'⟩ := hq; exact ⟨n', hlt, s2, m2, hI', hN2, hr2, hev.trans hev2⟩
  | exit id => exact ⟨s2, m2, hq, hN2, hr2, hev.trans hev2⟩
  | goto l => exact ⟨s2, m2, hq, hN2, hr2, hev.trans hev2⟩
  | ret => exact ⟨s2, m2, hq, hN2, hr2, hev.trans hev2⟩
  | panic ch => exact ⟨s2, m2, hq, hN2, hr2, hev.trans hev2⟩
  | outgrown => exact ⟨s2, m2, hq, hN2, hr2, hev.trans hev2⟩

theorem AWP.region {id : Nat} {ops : Array Oper} {st' : St} (h : Der P ops (List.range ops.size) st st') (hq : Q .normal st') : AWP P N (.region id ops false) Q st := by
  intro hN X m w a hr
  refine wp_region (h.wp hr fun m' w' a' h1 h2 h3 => ⟨st', m', hq, Nat.le_trans hN h2, h1, h3.mono hN⟩)

/-- A state may be said otherwise. -/
def Weak (N : Nat) (st st' : St) : Prop :=
  N ≤ st.rows.length → N ≤ st'.rows.length ∧ ∀ (X : Nat → Nat → Prop) (m : Nat → Option Nat) (w : World) (a : Act), RelSt X st m w a → ∃ m', RelSt X st' m' w a ∧ Evo N ⟨st.rows, m, w, X⟩ ⟨st'.rows, m', w, X⟩
theorem AWP.weaken {c : Code} {st' : St} (hw : Weak N st st') (h : AWP P N c Q st') : AWP P N c Q st := by
  intro hN X m w a hr
  obtain ⟨hN', hw'⟩ := hw hN
  obtain ⟨m', hr', hev⟩ := hw' X m w a hr
  exact wp_mono (h hN' X m' w a hr') fun e _ _ ⟨s2, m2, k1, k2, k3, k4⟩ => ⟨s2, m2, k1, k2, k3, hev.trans k4⟩
end

/-- What stands in the results at the end. -/
def resA (rs : Array ResultVar) (st : St) : Option AVal :=
  let one : ResultVar → Option AVal
    | .tmp t => some (st.regs.getD t .undef)
    | .cell a _ =>
      match st.regs.getD a .undef with
      | .ptr id 0 => (st.rows[id]?).bind fun r => if r.st = .fresh then some (.agg r.cells) else none
      | _ => none
  match rs.toList with
  | [r] => one r
  | l => (l.mapM one).map .tup
end Go.Abs
