/- Walks and laws. -/
import Derived.Test.YtfkilkfaiiijbaaCnt9
import Derived.Test.YtfkilkfaiiijbaaLibB
set_option maxRecDepth 100000
set_option maxHeartbeats 0
set_option linter.unusedSimpArgs false
set_option linter.unusedVariables false
namespace Go.Cnt
open Go Go.Abs Go.Proofs Go.Ops
theorem am_clone (l : List AmtD) (hx : l.length ≤ 1000) : EvA Try.prog 80 [.sl (amsc l) l.length .any] (fun k => .row k 0 l.length) (fun _ => [⟨amsc l, 4, .fresh⟩]) := by
  refine EvA.split [] ?_ ?_
  · intro h h0
    refine EvA.body Try.func80 rfl rfl (by intro k; simp [AVal.ren]) (by intro k; exact ren_row (amsc_data _) k) ?_
    refine AWP.seq ?_
    refine AWP.reg ?_
    refine DerQ.run ((True) ∧ (True)) ⟨[.sl [] 0 .nil, U6, .sl [] 0 .nil] ++ UU 5, []⟩ (by kernel_rfl) ⟨trivial, trivial⟩ ?_
    refine AWP.seq ?_
    refine AWP.seq ?_
    refine AWP.reg ?_
    refine DerQ.run (TT 2) ⟨[.sl [] 0 .nil, U6, .sl [] 0 .nil, .sl [] 0 .nil, (B6 true), U6, U6, .undef], []⟩ (by kernel_rfl) (tt 2) ?_
    refine AWP.cond (b := true) (by kernel_rfl) (fun _ => ?_) (fun h => nomatch h)
    refine AWP.seq ?_
    refine AWP.reg ?_
    refine DerQ.run ((True) ∧ (True)) ⟨[.sl [] 0 .nil, U6, .sl [] 0 .nil, .sl [] 0 .nil, (B6 true), U6, U6, .undef], []⟩ (by kernel_rfl) ⟨trivial, trivial⟩ ?_
    refine AWP.ret ?_
    refine EvF.fin (.sl [] 0 .nil) _ (by simp) (by kernel_rfl) ?_
    have hl0 : l = [] := List.eq_nil_of_length_eq_zero h0
    subst hl0
    exact Shrink.virt 4 (.inl rfl)
  · refine EvA.body Try.func80 rfl rfl (by intro k; simp [AVal.ren]) (by intro k; exact ren_row (amsc_data _) k) ?_
    refine AWP.seq ?_
    refine AWP.reg ?_
    refine DerQ.run ((True) ∧ (True)) ⟨[.sl (amsc l) (List.length l) .nn, U6, .sl [] 0 .nil] ++ UU 5, []⟩ (by kernel_rfl) ⟨trivial, trivial⟩ ?_
    refine AWP.seq ?_
    refine AWP.seq ?_
    refine AWP.reg ?_
    refine DerQ.run (TT 2) ⟨[.sl (amsc l) (List.length l) .nn, U6, .sl [] 0 .nil, .sl (amsc l) (List.length l) .nn, (B6 false), U6, U6, .undef], []⟩ (by kernel_rfl) (tt 2) ?_
    refine AWP.cond (b := false) (by kernel_rfl) (fun h => nomatch h) (fun _ => ?_)
    refine AWP.skip ?_
    refine AWP.seq ?_
    refine AWP.reg ?_
    refine DerQ.run ((True) ∧ ((True) ∧ (((List.length (amsc l) = List.length l * 4) ∧ (List.length l ≤ 1073741824)) ∧ ((True) ∧ (True))))) ⟨[.sl (amsc l) (List.length l) .nn, U6, .row 0 0 (List.length l), .sl (amsc l) (List.length l) .nn, (B6 false), .sl [] 0 .cap0, .sl (amsc l) (List.length l) .nn, .row 0 0 (List.length l)], [⟨amsc l, 4, .fresh⟩]⟩ (by kernel_rfl) ⟨trivial, ⟨trivial, ⟨⟨(by simp), (by omega)⟩, ⟨trivial, trivial⟩⟩⟩⟩ ?_
    refine AWP.ret ?_
    refine EvF.fin (.row 0 0 (List.length l)) _ (by simp) (by kernel_rfl) ?_
    exact Shrink.refl _ _ _
theorem insert_end (l : List AmtD) (x : AmtD) (hx : l.length ≤ 1000) : EvK Try.prog 79 [.row 0 0 l.length, .sc (.int .i64 l.length), .sl (amc x) 1 .any] ⟨amsc l, 4, .fresh⟩ (.sl (amsc (l ++ [x])) (l.length + 1) .any) ⟨amsc (l ++ [x]), 4, .frozen⟩ := by
  refine ⟨?_, rfl, rfl, by simp, by simp, rfl, by simp; omega, ⟨l.length, by simp⟩, by simp [ltAll, AVal.refLt, amc], rfl⟩
  refine EvF.body Try.func79 rfl (fun _ => ?_)
  refine AWP.seq ?_
  refine AWP.reg ?_
  refine DerQ.run ((True) ∧ (True)) ⟨[.row 0 0 (List.length l), (I6 (↑(List.length l) : Int)), .sl [(I6 (x.p)), (I6 (x.s)), (I6 (x.i)), (I6 (x.n))] 1 .any, U6, U6, U6, .sl [] 0 .nil] ++ UU 88, [⟨amsc l, 4, .fresh⟩]⟩ (by kernel_rfl) ⟨trivial, trivial⟩ ?_
  refine AWP.seq ?_
  refine AWP.reg ?_
  refine DerQ.pre 2 (TT 2) ⟨[.row 0 0 (List.length l), (I6 (↑(List.length l) : Int)), .sl [(I6 (x.p)), (I6 (x.s)), (I6 (x.i)), (I6 (x.n))] 1 .any, U6, U6, U6, .sl [] 0 .nil, U6, U6, U6, .row 0 0 (List.length l), (I6 (↑(List.length l) : Int))] ++ UU 83, [⟨amsc l, 4, .fresh⟩]⟩ (by kernel_rfl) (tt 2) ?_
  refine DerQ.cutU (0 ≤ (↑(List.length l) : Int) ∧ (↑(List.length l) : Int) ≤ (↑(List.length l) : Int)) ⟨[.row 0 0 (List.length l), (I6 (↑(List.length l) : Int)), .sl [(I6 (x.p)), (I6 (x.s)), (I6 (x.i)), (I6 (x.n))] 1 .any, U6, U6, U6, .sl [] 0 .nil, U6, U6, U6, .row 0 0 (List.length l), (I6 (↑(List.length l) : Int))] ++ UU 83, [⟨amsc l, 4, .fresh⟩]⟩ ⟨by kernel_rfl, by kernel_rfl, by kernel_rfl⟩ ⟨by omega, by omega⟩ ?_
  refine DerQ.nil ?_
  refine AWP.seq ?_
  refine AWP.reg ?_
  refine DerQ.run (TT 3) ⟨[.row 0 0 (List.length l), (I6 (↑(List.length l) : Int)), .sl [(I6 (x.p)), (I6 (x.s)), (I6 (x.i)), (I6 (x.n))] 1 .any, U6, U6, U6, .sl [] 0 .nil, (I6 1), U6, U6, .row 0 0 (List.length l), (I6 (↑(List.length l) : Int)), U6, .sl [(I6 (x.p)), (I6 (x.s)), (I6 (x.i)), (I6 (x.n))] 1 .any, (I6 1)] ++ UU 80, [⟨amsc l, 4, .fresh⟩]⟩ (by kernel_rfl) (tt 3) ?_
  refine AWP.seq ?_
  refine AWP.seq ?_
  refine AWP.reg ?_
  refine DerQ.run (TT 2) ⟨[.row 0 0 (List.length l), (I6 (↑(List.length l) : Int)), .sl [(I6 (x.p)), (I6 (x.s)), (I6 (x.i)), (I6 (x.n))] 1 .any, U6, U6, U6, .sl [] 0 .nil, (I6 1), U6, U6, .row 0 0 (List.length l), (I6 (↑(List.length l) : Int)), U6, .sl [(I6 (x.p)), (I6 (x.s)), (I6 (x.i)), (I6 (x.n))] 1 .any, (I6 1), (I6 1), (B6 false)] ++ UU 78, [⟨amsc l, 4, .fresh⟩]⟩ (by kernel_rfl) (tt 2) ?_
  refine AWP.cond (b := false) (by kernel_rfl) (fun h => nomatch h) (fun _ => ?_)
  refine AWP.skip ?_
  refine AWP.seq ?_
  refine AWP.reg ?_
  refine DerQ.run (TT 3) ⟨[.row 0 0 (List.length l), (I6 (↑(List.length l) : Int)), .sl [(I6 (x.p)), (I6 (x.s)), (I6 (x.i)), (I6 (x.n))] 1 .any, U6, U6, U6, .sl [] 0 .nil, (I6 1), (I6 (↑(List.length l) : Int)), U6, .row 0 0 (List.length l), (I6 (↑(List.length l) : Int)), U6, .sl [(I6 (x.p)), (I6 (x.s)), (I6 (x.i)), (I6 (x.n))] 1 .any, (I6 1), (I6 1), (B6 false), U6, .row 0 0 (List.length l), (I6 (↑(List.length l) : Int))] ++ UU 75, [⟨amsc l, 4, .fresh⟩]⟩ (by kernel_rfl) (tt 3) ?_
  refine AWP.seq ?_
  refine AWP.seq ?_
  refine AWP.reg ?_
  refine DerQ.run (TT 3) ⟨[.row 0 0 (List.length l), (I6 (↑(List.length l) : Int)), .sl [(I6 (x.p)), (I6 (x.s)), (I6 (x.i)), (I6 (x.n))] 1 .any, U6, U6, U6, .sl [] 0 .nil, (I6 1), (I6 (↑(List.length l) : Int)), U6, .row 0 0 (List.length l), (I6 (↑(List.length l) : Int)), U6, .sl [(I6 (x.p)), (I6 (x.s)), (I6 (x.i)), (I6 (x.n))] 1 .any, (I6 1), (I6 1), (B6 false), U6, .row 0 0 (List.length l), (I6 (↑(List.length l) : Int)), (I6 (↑(List.length l) : Int)), (I6 (↑(List.length l) : Int)), (B6 ((↑(List.length l) : Int) == (↑(List.length l) : Int)))] ++ UU 72, [⟨amsc l, 4, .fresh⟩]⟩ (by kernel_rfl) (tt 3) ?_
  refine AWP.cond (b := (↑(List.length l) : Int) == (↑(List.length l) : Int)) (by kernel_rfl) (fun h1 => ?_) (fun h1 => ?_)
  · have h1' := eq_of_beq h1
    refine AWP.seq ?_
    refine AWP.reg ?_
    refine DerQ.run ((True) ∧ ((True) ∧ (((List.length [(I6 x.p), (I6 x.s), (I6 x.i), (I6 x.n)] = 4) ∧ (((4 : Nat) = (4 : Nat)) ∧ ((List.length l * 4 = List.length (amsc l)) ∧ ((List.length l + 1 ≤ 1073741824) ∧ ((dataAll (amsc l ++ [(I6 x.p), (I6 x.s), (I6 x.i), (I6 x.n)]) = true) ∧ (∀ (i : Nat), i < List.length [(I6 x.p), (I6 x.s), (I6 x.i), (I6 x.n)] → AVal.one (List.getD [(I6 x.p), (I6 x.s), (I6 x.i), (I6 x.n)] i AVal.undef) = true)))))) ∧ ((True) ∧ (True))))) ⟨[.row 0 0 (List.length l), (I6 (↑(List.length l) : Int)), .sl [(I6 (x.p)), (I6 (x.s)), (I6 (x.i)), (I6 (x.n))] 1 .any, U6, U6, U6, .row 0 0 (List.length l + 1), (I6 1), (I6 (↑(List.length l) : Int)), U6, .row 0 0 (List.length l), (I6 (↑(List.length l) : Int)), U6, .sl [(I6 (x.p)), (I6 (x.s)), (I6 (x.i)), (I6 (x.n))] 1 .any, (I6 1), (I6 1), (B6 false), U6, .row 0 0 (List.length l), (I6 (↑(List.length l) : Int)), (I6 (↑(List.length l) : Int)), (I6 (↑(List.length l) : Int)), (B6 ((↑(List.length l) : Int) == (↑(List.length l) : Int))), .row 0 0 (List.length l), .sl [(I6 (x.p)), (I6 (x.s)), (I6 (x.i)), (I6 (x.n))] 1 .any, .row 0 0 (List.length l + 1)] ++ UU 69, [⟨amsc l ++ [(I6 x.p), (I6 x.s), (I6 x.i), (I6 x.n)], 4, .grown⟩]⟩ (by kernel_rfl) ⟨trivial, ⟨trivial, ⟨⟨(by rfl), ⟨(by omega), ⟨(by simp), ⟨(by omega), ⟨(by (rw [dataAll_append]; simp [dataAll, AVal.data])), (by (intro j hj; rcases j with _ | _ | _ | _ | j <;> first | rfl | (exfalso; simp at hj; done) | (exfalso; simp at hj; omega)))⟩⟩⟩⟩⟩, ⟨trivial, trivial⟩⟩⟩⟩ ?_
    rw [Go.Cnt.amsc_app (l) (x)]
    refine AWP.ret ?_
    refine EvF.fin (.row 0 0 (List.length l + 1)) _ (by simp) (by kernel_rfl) ?_
    refine Shrink.taken [0] (c := dataAll (amsc (l ++ [x])) = true ∧ True) (x' := .sl (List.take ((List.length l + 1) * 4) (List.drop 0 (amsc (l ++ [x])))) (List.length l + 1) .any) (by kernel_rfl) ⟨by simp, trivial⟩ ?_
    simp only [AVal.anyA, List.drop_zero]
    rw [List.take_of_length_le (by simp)]
  · have h1' := ne_of_beq_false h1
    exfalso; omega
end Go.Cnt