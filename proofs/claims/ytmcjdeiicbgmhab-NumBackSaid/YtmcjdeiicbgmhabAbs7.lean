/- Library: an abstract machine over the model, part 7. -/
import Derived.Test.YtmcjdeiicbgmhabAbs6
import Derived.Laws.Small
set_option linter.unusedVariables false
set_option linter.unusedSimpArgs false
namespace Go.Abs
open Go

theorem OpS.of_run {P : Program} {o : Oper} {ρ : Operand → AVal} {rows rows' : List Row} {res : AVal}
    (h : ∀ (X : Nat → Nat → Prop) (m : Nat → Option Nat) (w : World) (a : Act), Rel ⟨rows, m, w, X⟩ → (∀ x ∈ o.op.operands.toList, V ⟨rows, m, w, X⟩ (ρ x) (a.eval x)) →
      ∃ v w' m', (execOp a.eval o).run P w = .ok (.value v) w' ∧ Rel ⟨rows', m', w', X⟩ ∧ V ⟨rows', m', w', X⟩ res v ∧ rows.length ≤ rows'.length ∧ Evo rows.length ⟨rows, m, w, X⟩ ⟨rows', m', w', X⟩) :
    OpS P o ρ rows res rows' := by
  intro X m w a hrel hv K Q hK
  obtain ⟨v, w', m', h1, h2, h3, h4, h5⟩ := h X m w a hrel hv
  unfold Oper.wp
  rw [h1, Oper.upon_value]
  exact hK v m' w' h2 h3 h4 h5
theorem OpS.quiet {P : Program} {o : Oper} {ρ : Operand → AVal} {rows : List Row} {res : AVal}
    (h : ∀ (X : Nat → Nat → Prop) (m : Nat → Option Nat) (w : World) (a : Act), Rel ⟨rows, m, w, X⟩ → (∀ x ∈ o.op.operands.toList, V ⟨rows, m, w, X⟩ (ρ x) (a.eval x)) →
      ∃ v, (execOp a.eval o).run P w = .ok (.value v) w ∧ V ⟨rows, m, w, X⟩ res v) : OpS P o ρ rows res rows :=
  OpS.of_run fun X m w a hrel hv => let ⟨v, h1, h2⟩ := h X m w a hrel hv; ⟨v, w, m, h1, hrel, h2, Nat.le_refl _, Evo.refl _ _⟩
theorem OpS.of_skip {P : Program} {o : Oper} {ρ : Operand → AVal} {rows rows' : List Row}
    (h : ∀ (X : Nat → Nat → Prop) (m : Nat → Option Nat) (w : World) (a : Act), Rel ⟨rows, m, w, X⟩ → (∀ x ∈ o.op.operands.toList, V ⟨rows, m, w, X⟩ (ρ x) (a.eval x)) →
      ∃ w' m', (execOp a.eval o).run P w = .ok .skip w' ∧ Rel ⟨rows', m', w', X⟩ ∧ rows.length ≤ rows'.length ∧ Evo rows.length ⟨rows, m, w, X⟩ ⟨rows', m', w', X⟩) :
    OpS P o ρ rows (.tup []) rows' := by
  intro X m w a hrel hv K Q hK
  obtain ⟨w', m', h1, h2, h4, h5⟩ := h X m w a hrel hv
  unfold Oper.wp
  rw [h1, Oper.upon_skip]
  exact hK _ m' w' h2 (V.undefTup _) h4 h5

/-- What an operation gives: under which condition, the value, the rows behind it. -/
structure Res where
  ok : Prop
  v : AVal
  rows : List Row

/-! ### Numbers, bools, strings -/
def binI (op : BinOp) (k : IntKind) (x y : Int) : Option (Prop × Value) :=
  match op with
  | .add => some (True, .int k (k.wrap (x + y)))
  | .sub => some (True, .int k (k.wrap (x - y)))
  | .mul => some (True, .int k (k.wrap (x * y)))
  | .quo => some (y ≠ 0, .int k (k.wrap (x.tdiv y)))
  | .rem => some (y ≠ 0, .int k (x.tmod y))
  | .and => some (True, .int k (k.wrap (BitVec.ofInt k.bits x &&& BitVec.ofInt k.bits y).toNat))
  | .or => some (True, .int k (k.wrap (BitVec.ofInt k.bits x ||| BitVec.ofInt k.bits y).toNat))
  | .xor => some (True, .int k (k.wrap (BitVec.ofInt k.bits x ^^^ BitVec.ofInt k.bits y).toNat))
  | .andNot => some (True, .int k (k.wrap (BitVec.ofInt k.bits x &&& ~~~ BitVec.ofInt k.bits y).toNat))
  | .eql => some (True, .bool (x == y))
  | .neq => some (True, .bool (x != y))
  | .lss => some (True, .bool (x < y))
  | .leq => some (True, .bool (x ≤ y))
  | .gtr => some (True, .bool (x > y))
  | .geq => some (True, .bool (x ≥ y))
  | _ => none
def binSh (op : BinOp) (k : IntKind) (x y : Int) : Option (Prop × Value) :=
  match op with
  | .shl => some (0 ≤ y, .int k (k.wrap (x * 2 ^ (min y.toNat k.bits))))
  | .shr => some (0 ≤ y, .int k (x.fdiv (2 ^ (min y.toNat k.bits))))
  | _ => none
def binS (op : BinOp) (x y : ByteArray) : Option (Prop × Value) :=
  match op with
  | .add => some (x.size + y.size ≤ 9223372036854775807, .string (x ++ y))
  | .eql => some (True, .bool (x.toList == y.toList))
  | .neq => some (True, .bool (!(x.toList == y.toList)))
  | .lss => some (True, .bool (Op.bytesLess x.toList y.toList))
  | .leq => some (True, .bool (Op.bytesLess x.toList y.toList || x.toList == y.toList))
  | .gtr => some (True, .bool (!(Op.bytesLess x.toList y.toList || x.toList == y.toList)))
  | .geq => some (True, .bool (!Op.bytesLess x.toList y.toList))
  | _ => none
def isSh : BinOp → Bool | .shl | .shr => true | _ => false
def binB (op : BinOp) (x y : Bool) : Option (Prop × Value) :=
  match op with
  | .eql => some (True, .bool (x == y))
  | .neq => some (True, .bool (!(x == y)))
  | _ => none
/-- Two scalars. -/
def binV (P : Program) (op : BinOp) (t : TypeId) (x y : Value) : Option (Prop × Value) :=
  match x, y with
  | .int k a, .int j b => match isSh op with
    | true => binSh op k a b
    | false => if k = j then binI op k a b else none
  | .string a, .string b => binS op a b
  | .bool a, .bool b => match P.underlying t with
    | some .bool => binB op a b
    | _ => none
  | _, _ => none

theorem run_guarded {P : Program} {op : BinOp} {t : TypeId} {px py : Operand} {x y v : Value} {w : World} (hg : (eqGuard op t px py x y).run P w = .ok () w) (hb : (binOp op t x y).run P w = .ok v w) :
    (do eqGuard op t px py x y; binOp op t x y : Sem Value).run P w = .ok v w := by
  simp only [Sem.run_bind, hg, Result.andThen_ok, hb]

theorem binV_spec {P : Program} {op : BinOp} {t : TypeId} {px py : Operand} {x y : Value} {c : Prop} {v : Value} (h : binV P op t x y = some (c, v)) (hc : c) (w : World) :
    (do eqGuard op t px py x y; binOp op t x y : Sem Value).run P w = .ok v w ∧ scOk v = true := by
  unfold binV at h
  split at h
  · rename_i k a j b
    split at h
    · rename_i hs
      cases op <;> simp [isSh] at hs <;> simp only [binSh, Option.some.injEq, Prod.mk.injEq] at h <;> obtain ⟨rfl, rfl⟩ := h <;>
        exact ⟨run_guarded rfl (by simp [binOp, Op.shift, Int.not_lt.2 hc]), rfl⟩
    · rename_i hs
      split at h
      · rename_i hk
        subst hk
        cases op <;> simp [isSh] at hs <;> simp only [binI, Option.some.injEq, Prod.mk.injEq, reduceCtorEq] at h <;> obtain ⟨rfl, rfl⟩ := h <;>
          first
          | (exact ⟨run_guarded rfl (by simp only [binOp, ne_eq, not_true_eq_false, if_false, Op.intDiv]; rw [if_neg hc]; rfl), rfl⟩)
          | (exact ⟨run_guarded rfl (by simp [binOp, Op.intArith, Op.intBits, Op.intCmp]; done), rfl⟩)
      · simp at h
  · rename_i a b
    cases op <;> simp only [binS, Option.some.injEq, Prod.mk.injEq, reduceCtorEq] at h <;> obtain ⟨rfl, rfl⟩ := h <;>
      first
      | (refine ⟨run_guarded rfl ?_, rfl⟩; simp [binOp, Op.stringOp]; done)
      | (refine ⟨run_guarded rfl ?_, rfl⟩
         have : ¬ (((a.size + b.size : Nat) : Int) > IntKind.i64.max) := by
           have : IntKind.i64.max = 9223372036854775807 := by decide
           rw [this]; have := hc; omega
         simp only [binOp, Op.stringOp]
         rw [if_neg this]; rfl)
  · rename_i a b
    split at h
    · rename_i ht
      cases op <;> simp only [binB, Option.some.injEq, Prod.mk.injEq, reduceCtorEq] at h <;> obtain ⟨rfl, rfl⟩ := h <;>
        first
        | exact ⟨run_guarded rfl (run_eql_bool w t a b ht), rfl⟩
        | exact ⟨run_guarded rfl (run_neq_bool w t a b ht), rfl⟩
    · simp at h
  · simp at h

def unV (op : UnOp) (x : Value) : Option Value :=
  match op, x with
  | .neg, .int k n => some (.int k (k.wrap (0 - n)))
  | .xor, .int k n => some (.int k (k.wrap (BitVec.ofInt k.bits (if k.signed then -1 else k.max) ^^^ BitVec.ofInt k.bits n).toNat))
  | .not, .bool b => some (.bool !b)
  | _, _ => none
theorem unV_spec {P : Program} {op : UnOp} {x v : Value} (h : unV op x = some v) (w : World) : (Op.unary op x).run P w = .ok v w ∧ scOk v = true := by
  unfold unV at h
  split at h <;> simp at h <;> subst h <;> exact ⟨by simp [Op.unary, Op.intArith, Op.intBits], rfl⟩

/-! ### Parts of structs and arrays -/
def AVal.cellsA : AVal → Option (List AVal)
  | .agg cs => some cs
  | .tup _ => none
  | .undef => none
  | x => some [x]
def zeroA (P : Program) (t : TypeId) : Option AVal := ((P.info? t).bind (·.zero)).map constA
theorem run_zero {P : Program} {t : TypeId} {z : AVal} (h : zeroA P t = some z) (w : World) : ∃ v, (zeroValue t).run P w = .ok v w ∧ ∀ E, V E z v := by
  unfold zeroA at h
  cases hi : P.info? t with
  | none => simp [hi] at h
  | some i =>
    cases hz : i.zero with
    | none => simp [hi, hz] at h
    | some v =>
      simp [hi, hz] at h
      subst h
      exact ⟨v, by simp [zeroValue, run_typeInfo w hi, hz], fun E => V.constA E v⟩
/-- Cells that stand for a value's cells. -/
def VC (E : Env) (xs : List AVal) (vs : Array Value) : Prop := xs.length = vs.size ∧ ∀ i, i < xs.length → V E (xs.getD i .undef) (vs.getD i Go.undef)

theorem V.cells {E : Env} {x : AVal} {v : Value} {cs : List AVal} (h : V E x v) (hc : x.cellsA = some cs) (hpt : ∀ id off, x = .ptr id off → ∃ r, E.rows[id]? = some r ∧ r.st = .fresh) : VC E cs v.cells := by
  cases h with
  | agg cells vs hl hv => simp [AVal.cellsA] at hc; subst hc; exact ⟨by simpa [Value.cells] using hl, fun i hi => by simpa [Value.cells, List.getD_eq_getElem?_getD, Array.getD_eq_getD_getElem?] using hv i hi⟩
  | undef => simp [AVal.cellsA] at hc
  | tup => simp [AVal.cellsA] at hc
  | ptrLost id off r v hr hs => obtain ⟨r2, h1, h2⟩ := hpt id off rfl; rw [hr] at h1; cases h1; exact absurd h2 hs
  | sc v hv =>
    simp [AVal.cellsA] at hc; subst hc
    have : v.cells = #[v] := by cases v <;> simp_all [Value.cells, scOk]
    rw [this]
    exact ⟨rfl, fun i hi => by simp at hi; subst hi; exact .sc v hv⟩
  | slnil k hk => simp [AVal.cellsA] at hc; subst hc; exact ⟨rfl, fun i hi => by simp at hi; subst hi; exact .slnil k hk⟩
  | slz b o => simp [AVal.cellsA] at hc; subst hc; exact ⟨rfl, fun i hi => by simp at hi; subst hi; exact .slz b o⟩
  | sl cells n k b o cap vs hk hn hd hv hm => simp [AVal.cellsA] at hc; subst hc; exact ⟨rfl, fun i hi => by simp at hi; subst hi; exact .sl cells n k b o cap vs hk hn hd hv hm⟩
  | ptr id off r b hr hs hm => simp [AVal.cellsA] at hc; subst hc; exact ⟨rfl, fun i hi => by simp at hi; subst hi; exact .ptr id off r b hr hs hm⟩
  | dptr cells b o vs hd hv hm => simp [AVal.cellsA] at hc; subst hc; exact ⟨rfl, fun i hi => by simp at hi; subst hi; exact .dptr cells b o vs hd hv hm⟩
  | rowF id off n b cap r hr hs hm hn ho hcc => simp [AVal.cellsA] at hc; subst hc; exact ⟨rfl, fun i hi => by simp at hi; subst hi; exact .rowF id off n b cap r hr hs hm hn ho hcc⟩
  | rowV id r base hr hs => simp [AVal.cellsA] at hc; subst hc; exact ⟨rfl, fun i hi => by simp at hi; subst hi; exact .rowV id r base hr hs⟩
  | rowG id off n b o cap r vs hr hs hn ho hd hv hm he => simp [AVal.cellsA] at hc; subst hc; exact ⟨rfl, fun i hi => by simp at hi; subst hi; exact .rowG id off n b o cap r vs hr hs hn ho hd hv hm he⟩
  | fn f cap vs hl hv => simp [AVal.cellsA] at hc; subst hc; exact ⟨rfl, fun i hi => by simp at hi; subst hi; exact .fn f cap vs hl hv⟩
  | ifc t x v h => simp [AVal.cellsA] at hc; subst hc; exact ⟨rfl, fun i hi => by simp at hi; subst hi; exact .ifc t x v h⟩
  | mp id r b hr hs hm => simp [AVal.cellsA] at hc; subst hc; exact ⟨rfl, fun i hi => by simp at hi; subst hi; exact .mp id r b hr hs hm⟩
end Go.Abs
