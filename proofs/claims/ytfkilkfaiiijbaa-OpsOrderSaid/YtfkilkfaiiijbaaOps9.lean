/- Walks and laws. -/
import Derived.Test.YtfkilkfaiiijbaaOps8
import Derived.Test.YtfkilkfaiiijbaaLibB
set_option maxRecDepth 100000
set_option maxHeartbeats 0
set_option linter.unusedSimpArgs false
set_option linter.unusedVariables false
namespace Go.Ops
open Go Go.Abs Go.Proofs
def rs (p s : Int) (o : OpD) : OpD := if (o.p = 0 ∧ o.s = 0) ∧ o.i ≠ 0 then { o with p := p, s := s } else o
def smallO (o : OpD) : Prop := o.key.size ≤ 100 ∧ o.f.size ≤ 100 ∧ o.t.size ≤ 100
def smallP (t : TxD) : Prop := t.ops.length ≤ 40 ∧ ∀ i, i < t.ops.length → smallO (t.ops.getD i op0)
instance (o : OpD) : Decidable (smallO o) := by unfold smallO; infer_instance
instance (t : TxD) : Decidable (smallP t) := by unfold smallP; infer_instance
theorem o_clone (l : List OpD) (hx : l.length ≤ 100) : EvA Try.prog 54 [.sl (opsc l) l.length .any] (fun k => .row k 0 l.length) (fun _ => [⟨opsc l, 10, .fresh⟩]) := by
  refine EvA.split [] ?_ ?_
  · intro h h0
    refine EvA.body Try.func54 rfl rfl (by intro k; simp [AVal.ren]) (by intro k; exact ren_row (opsc_data _) k) ?_
    refine AWP.seq ?_
    refine AWP.reg ?_
    refine DerQ.run ((True) ∧ (True)) ⟨[.sl [] 0 .nil, .undef, .sl [] 0 .nil, .undef, .undef, .undef, .undef, .undef], []⟩ (by kernel_rfl) ⟨trivial, trivial⟩ ?_
    refine AWP.seq ?_
    refine AWP.seq ?_
    refine AWP.reg ?_
    refine DerQ.run ((True) ∧ ((True) ∧ (True))) ⟨[.sl [] 0 .nil, .undef, .sl [] 0 .nil, .sl [] 0 .nil, (B6 true), .undef, .undef, .undef], []⟩ (by kernel_rfl) ⟨trivial, ⟨trivial, trivial⟩⟩ ?_
    refine AWP.cond (b := true) (by kernel_rfl) (fun _ => ?_) (fun h => nomatch h)
    refine AWP.seq ?_
    refine AWP.reg ?_
    refine DerQ.run ((True) ∧ (True)) ⟨[.sl [] 0 .nil, .undef, .sl [] 0 .nil, .sl [] 0 .nil, (B6 true), .undef, .undef, .undef], []⟩ (by kernel_rfl) ⟨trivial, trivial⟩ ?_
    refine AWP.ret ?_
    refine EvF.fin (.sl [] 0 .nil) _ (by simp) (by kernel_rfl) ?_
    have hl0 : l = [] := List.eq_nil_of_length_eq_zero h0
    subst hl0
    exact Shrink.virt 10 (.inl rfl)
  · refine EvA.body Try.func54 rfl rfl (by intro k; simp [AVal.ren]) (by intro k; exact ren_row (opsc_data _) k) ?_
    refine AWP.seq ?_
    refine AWP.reg ?_
    refine DerQ.run ((True) ∧ (True)) ⟨[.sl (opsc l) (List.length l) .nn, .undef, .sl [] 0 .nil, .undef, .undef, .undef, .undef, .undef], []⟩ (by kernel_rfl) ⟨trivial, trivial⟩ ?_
    refine AWP.seq ?_
    refine AWP.seq ?_
    refine AWP.reg ?_
    refine DerQ.run ((True) ∧ ((True) ∧ (True))) ⟨[.sl (opsc l) (List.length l) .nn, .undef, .sl [] 0 .nil, .sl (opsc l) (List.length l) .nn, (B6 false), .undef, .undef, .undef], []⟩ (by kernel_rfl) ⟨trivial, ⟨trivial, trivial⟩⟩ ?_
    refine AWP.cond (b := false) (by kernel_rfl) (fun h => nomatch h) (fun _ => ?_)
    refine AWP.skip ?_
    refine AWP.seq ?_
    refine AWP.reg ?_
    refine DerQ.run ((True) ∧ ((True) ∧ (((List.length (opsc l) = List.length l * 10) ∧ (List.length l ≤ 1073741824)) ∧ ((True) ∧ (True))))) ⟨[.sl (opsc l) (List.length l) .nn, .undef, .row 0 0 (List.length l), .sl (opsc l) (List.length l) .nn, (B6 false), .sl [] 0 .cap0, .sl (opsc l) (List.length l) .nn, .row 0 0 (List.length l)], [⟨opsc l, 10, .fresh⟩]⟩ (by kernel_rfl) ⟨trivial, ⟨trivial, ⟨⟨(by simp), (by omega)⟩, ⟨trivial, trivial⟩⟩⟩⟩ ?_
    refine AWP.ret ?_
    refine EvF.fin (.row 0 0 (List.length l)) _ (by simp) (by kernel_rfl) ?_
    exact Shrink.refl _ _ _
end Go.Ops
