/- Library: an abstract machine over the model, part 18. -/
import Derived.Test.YtmcjdeiicbgmhabAbs17
set_option linter.unusedVariables false
namespace Go.Abs
open Go

/-- What a body leaves: its results, and what that is for the caller. -/
theorem EvF.fin {P : Program} {N : Nat} {rs : Array ResultVar} {st : St} {rows' : List Row} {r : AVal} (r1 : AVal) (e : Exit) (he : e = .normal ∨ e = .ret) (h : resA' P rs st = some r1) (hs : Shrink N st.rows r1 rows' r) :
    (e = .normal ∨ e = .ret) ∧ ∃ r1, resA' P rs st = some r1 ∧ Shrink N st.rows r1 rows' r := ⟨he, r1, h, hs⟩
theorem WfRows.nil : WfRows ([] : List Row).length [] := fun i r h => by simp at h
theorem Shrink.all {rows : List Row} {r r1 : AVal} (he : r1 = r) (hd : r.data = true) : Shrink 0 rows r1 [] r := by
  subst he
  have h := Shrink.drop (N := 0) (rows := []) (ext := rows) (r := r1) (Nat.zero_le _) WfRows.nil (by
    exact AVal.lt_of_data _ r1 hd)
  simpa using h
/-- A function of data alone. -/
theorem EvD.body {P : Program} {f : FuncId} {fn : Func} {c : Code} {args : List AVal} {r : AVal} (hf : P.funcs[f]? = some fn) (hb : fn.body = some c) (hd : dataAll args = true) (hr : r.data = true)
    (h : AWP P 0 c (fun e st' => (e = .normal ∨ e = .ret) ∧ ∃ r1, resA' P fn.results st' = some r1 ∧ Shrink 0 st'.rows r1 [] r) ⟨args ++ List.replicate (fn.ntmps - args.length) .undef, []⟩) : EvD P f args r :=
  EvD.of hd hr (EvF.body hf hb fun _ => h)
theorem AWP.to {P : Program} {N : Nat} {c : Code} {Q : Exit → St → Prop} {st : St} (st' : St) (h : st = st') (k : AWP P N c Q st') : AWP P N c Q st := h ▸ k
theorem DerQ.to {P : Program} {ops : Array Oper} {l : List Oper} {st : St} {K : St → Prop} (st' : St) (h : st = st') (k : DerQ P ops l st' K) : DerQ P ops l st K := h ▸ k
end Go.Abs
namespace Go.Abs
open Go
def guardV (ops : Array Oper) (o : Oper) (regs : List AVal) : AVal :=
  match o.guard with
  | none => .undef
  | some (j, _) => match (ops[j]?).bind (·.dst) with
    | none => .undef
    | some t => regs.getD t .undef
end Go.Abs
