/- Walks and laws. -/
import Derived.Test.YtfkilkfaiiijbaaCnt9
import Derived.Test.YtfkilkfaiiijbaaLibC
import Derived.Test.YtfkilkfaiiijbaaInsAm
set_option maxRecDepth 100000
set_option maxHeartbeats 0
set_option linter.unusedSimpArgs false
set_option linter.unusedVariables false
namespace Go.Cnt
open Go Go.Abs Go.Proofs Go.Ops
theorem am_clone (l : List AmtD) (hx : l.length ≤ 1000) : EvA Try.prog 80 [.sl (amsc l) l.length .any] (fun k => .row k 0 l.length) (fun _ => [⟨amsc l, 4, .fresh⟩]) := by
  refine EvA.split [] ?_ ?_
  · intro h h0
    refine EvA.body Try.func80 rfl rfl (by intro k; simp [AVal.ren]) (by intro k; exact ren_row (amsc_data _) k) ?_
    refine SQ ?_
    refine DerQ.run (True ∧ True) ⟨[.sl [] 0 .nil, U6, .sl [] 0 .nil] ++ UU 5, []⟩ (by kernel_rfl) ⟨trivial, trivial⟩ ?_
    refine AWP.seq (SQ ?_)
    refine DerQ.run (TT 2) ⟨[.sl [] 0 .nil, U6, .sl [] 0 .nil, .sl [] 0 .nil, (B6 true), U6, U6, .undef], []⟩ (by kernel_rfl) (tt 2) ?_
    refine CN true (fun _ => ?_) (fun h => nomatch h)
    refine SQ ?_
    refine DerQ.run (True ∧ True) ⟨[.sl [] 0 .nil, U6, .sl [] 0 .nil, .sl [] 0 .nil, (B6 true), U6, U6, .undef], []⟩ (by kernel_rfl) ⟨trivial, trivial⟩ ?_
    refine AWP.ret ?_
    refine FI (.sl [] 0 .nil) ?_
    have hl0 : l = [] := List.eq_nil_of_length_eq_zero h0
    subst hl0
    exact Shrink.virt 4 (.inl rfl)
  · refine EvA.body Try.func80 rfl rfl (by intro k; simp [AVal.ren]) (by intro k; exact ren_row (amsc_data _) k) ?_
    refine SQ ?_
    refine DerQ.run (True ∧ True) ⟨[.sl (amsc l) (List.length l) .nn, U6, .sl [] 0 .nil] ++ UU 5, []⟩ (by kernel_rfl) ⟨trivial, trivial⟩ ?_
    refine AWP.seq (SQ ?_)
    refine DerQ.run (TT 2) ⟨[.sl (amsc l) (List.length l) .nn, U6, .sl [] 0 .nil, .sl (amsc l) (List.length l) .nn, (B6 false), U6, U6, .undef], []⟩ (by kernel_rfl) (tt 2) ?_
    refine CN false (fun h => nomatch h) (fun _ => ?_)
    refine AWP.skip (SQ ?_)
    refine DerQ.run (True ∧ True ∧ ((List.length (amsc l) = List.length l * 4) ∧ (List.length l ≤ 1073741824)) ∧ True ∧ True) ⟨[.sl (amsc l) (List.length l) .nn, U6, .row 0 0 (List.length l), .sl (amsc l) (List.length l) .nn, (B6 false), .sl [] 0 .cap0, .sl (amsc l) (List.length l) .nn, .row 0 0 (List.length l)], [⟨amsc l, 4, .fresh⟩]⟩ (by kernel_rfl) ⟨trivial, trivial, ⟨(by simp), (by omega)⟩, trivial, trivial⟩ ?_
    refine AWP.ret ?_
    refine FI (.row 0 0 (List.length l)) ?_
    exact Shrink.refl _ _ _
theorem amc_one (x : AmtD) : ∀ j, j < (amc x).length → ((amc x).getD j .undef).one = true := by
  intro j hj; rcases j with _ | _ | _ | _ | j <;> first | rfl | (exfalso; simp [amc] at hj; done) | (exfalso; simp [amc] at hj; omega)
theorem amsc_one (l : List AmtD) : ∀ j, j < (amsc l).length → ((amsc l).getD j .undef).one = true := by
  intro j hj
  have hm : (amsc l).getD j .undef ∈ amsc l := by
    rw [List.getD_eq_getElem?_getD, List.getElem?_eq_getElem hj]; exact List.getElem_mem hj
  generalize (amsc l).getD j .undef = y at hm
  simp only [amsc, List.mem_flatMap] at hm
  obtain ⟨x, _, hy⟩ := hm
  obtain ⟨k, hk⟩ := List.mem_iff_getElem?.1 hy
  have hkl : k < (amc x).length := by
    rcases Nat.lt_or_ge k (amc x).length with h | h
    · exact h
    · rw [List.getElem?_eq_none h] at hk; cases hk
  have := amc_one x k hkl
  rw [List.getD_eq_getElem?_getD, hk] at this
  exact this
def insD (l : List AmtD) (i : Nat) (x : AmtD) : List AmtD := l.take i ++ x :: l.drop i
theorem amsc_take (l : List AmtD) (i : Nat) : amsc (l.take i) = (amsc l).take (i * 4) := by
  induction l generalizing i with
  | nil => simp [amsc]
  | cons a l ih =>
    cases i with
    | zero => simp [amsc]
    | succ i =>
      have h1 : amsc (a :: l) = amc a ++ amsc l := rfl
      rw [List.take_succ_cons, h1, show (i + 1) * 4 = (amc a).length + i * 4 by simp [amc]; omega, List.take_length_add_append, ← ih]; rfl
theorem amsc_drop (l : List AmtD) (i : Nat) : amsc (l.drop i) = (amsc l).drop (i * 4) := by
  induction l generalizing i with
  | nil => simp [amsc]
  | cons a l ih =>
    cases i with
    | zero => simp [amsc]
    | succ i =>
      have h1 : amsc (a :: l) = amc a ++ amsc l := rfl
      rw [List.drop_succ_cons, h1, show (i + 1) * 4 = (amc a).length + i * 4 by simp [amc]; omega, List.drop_length_add_append, ← ih]
theorem insert_am (l : List AmtD) (i : Nat) (x : AmtD) (hi : i ≤ l.length) (hx : l.length ≤ 1000) : EvK Try.prog 79 [.row 0 0 l.length, .sc (.int .i64 i), .sl (amc x) 1 .any] ⟨amsc l, 4, .fresh⟩ (.sl (amsc (insD l i x)) (l.length + 1) .any) ⟨[], 4, .dead⟩ :=
  ins79_raw.evK (by omega) (by omega) (by simp) (by simp) (amsc_one l) rfl (by simp [amc, dataAll, AVal.data]) (amc_one x) hi (by omega) (by
    rw [insD, show amsc (l.take i ++ x :: l.drop i) = amsc (l.take i) ++ amsc (x :: l.drop i) by simp [amsc], show amsc (x :: l.drop i) = amc x ++ amsc (l.drop i) from rfl, amsc_take, amsc_drop, List.append_assoc])
end Go.Cnt
