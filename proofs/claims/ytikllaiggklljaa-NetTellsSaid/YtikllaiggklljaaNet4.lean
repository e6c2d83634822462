/- Walks and laws. -/
import Derived.Test.YtikllaiggklljaaNet3
import Derived.Test.YtikllaiggklljaaLibC
set_option maxRecDepth 100000
set_option maxHeartbeats 0
set_option linter.unusedSimpArgs false
set_option linter.unusedVariables false
namespace Go.Net
open Go Go.Abs Go.Proofs
theorem lose {P : Program} {f : FuncId} {args : List AVal} {rows rows' : List Row} {r : AVal} (h : EvF P f args rows r rows') (id j : Nat) (ρ : Row) (hr : rows'[id]? = some ρ) (hs : ρ.st = .fresh) (hj : j < ρ.cells.length) : EvF P f args rows r (rows'.set id ⟨ρ.cells.set j .undef, ρ.esz, ρ.st⟩) := by
  intro X m w vs hrel hvl
  refine (h X m w vs hrel hvl).mono ?_
  rintro e w' ⟨v, m', rfl, h1, h2, h3, h4⟩
  obtain ⟨k1, k2⟩ := relabel_step (E := ⟨rows', m', w', X⟩) h1 hr hs j .undef hj (fun v _ => .undef v)
  exact ⟨v, m', rfl, k1, k2.val _ _ h2 h2.refLt, by simpa using h3, h4.trans (k2.mono h3)⟩
theorem opened_u (l : List FlD) (next : Int) (hx : l.length ≤ 1000) (hn : -9223372036854775808 ≤ next ∧ next ≤ 9223372036854775807) (h : okN next l) : EvA Try.prog 59 [.agg [.sl (flsc l) l.length .any, .sc (.int .i64 next)]] (fun k => .tup [.ptr (k + 2) 0, .sc (.int .i64 0)]) (fun k => [⟨[.sl (flsc l) l.length .any, .sc (.int .i64 next)], 2, .fresh⟩, ⟨mpc (idx l l.length), 0, .map⟩, ⟨[.sl (flsc l) l.length .any, .sc (.int .i64 next), .undef], 3, .fresh⟩]) := fun rows => by
  have := lose (opened_ok l next hx hn h rows) (rows.length + 2) 2 ⟨[.sl (flsc l) l.length .any, .sc (.int .i64 next), .mp (rows.length + 1)], 3, .fresh⟩ (by rw [List.getElem?_append_right (by omega), Nat.add_sub_cancel_left]; rfl) rfl (by simp)
  rw [List.set_append_right _ _ (by omega), Nat.add_sub_cancel_left] at this
  exact this
theorem found_u (l : List FlD) (next : Int) (hx : l.length ≤ 1000) (hn : -9223372036854775808 ≤ next ∧ next ≤ 9223372036854775807) (x : Int) (h : okN next l) (k : Nat) (hk : k < l.length) (hkx : (l.getD k fl0).num = x) : EvA Try.prog 54 [.agg [.sl (flsc l) l.length .any, .sc (.int .i64 next)], .sc (.int .i64 x)] (fun k0 => .tup [.ptr (k0 + 4) 0, .agg (flc (l.getD k fl0)), .sc (.int .i64 0)]) (fun k0 => [⟨[.sl (flsc l) l.length .any, .sc (.int .i64 next)], 2, .fresh⟩, ⟨flc (l.getD k fl0), 4, .fresh⟩, ⟨[.sl (flsc l) l.length .any, .sc (.int .i64 next)], 2, .fresh⟩, ⟨mpc (idx l l.length), 0, .map⟩, ⟨[.sl (flsc l) l.length .any, .sc (.int .i64 next), .undef], 3, .fresh⟩]) := fun rows => by
  have := lose (found_ok l next hx hn x h k hk hkx rows) (rows.length + 4) 2 ⟨[.sl (flsc l) l.length .any, .sc (.int .i64 next), .mp (rows.length + 3)], 3, .fresh⟩ (by rw [List.getElem?_append_right (by omega), Nat.add_sub_cancel_left]; rfl) rfl (by simp)
  rw [List.set_append_right _ _ (by omega), Nat.add_sub_cancel_left] at this
  exact this
theorem send_form (l : List FlD) (next : Int) (hx : l.length ≤ 1000) (hn : -9223372036854775808 ≤ next ∧ next ≤ 9223372036854775807) (to : Int) (d : List Int) (h : ¬ okN next l) : EvD Try.prog 31 [.agg [.sl (flsc l) l.length .any, .sc (.int .i64 next)], .sc (.int .i64 to), .sl (u8s d) d.length .any] (.tup [.agg [.sl (flsc l) l.length .any, .sc (.int .i64 next)], .sc (.int .i64 0), .sc (.int .i64 3)]) := by
  refine EvD.body Try.func31 rfl (by simp [flc, dataAll, AVal.data, *]) (by simp [flc, dataAll, AVal.data, *]) ?_
  refine AWP.seq ?_
  refine TO ⟨[.agg [.sl (flsc l) (List.length l) .any, (I6 next)], (I6 to), .sl (u8s d) (List.length d) .any] ++ UU 51, []⟩ ?_
  refine AWP.reg (RT 4 ?_)
  refine AWP.seq (KL [0] ⟨[U6, (I6 to), .sl (u8s d) (List.length d) .any, .ptr 0 0, U6, U6, .ptr 1 0, (I6 0), (I6 0)] ++ UU 45, [⟨[.sl (flsc l) (List.length l) .any, (I6 next)], 2, .fresh⟩, ⟨[.sl [] 0 .nil, (I6 0)], 2, .fresh⟩]⟩ ?_)
  refine AWP.reg (PI 1 (2 ≤ 2 ∧ True) ⟨(by omega), trivial⟩ ?_)
  refine CD (opened_bad l next hx hn h) ?_
  refine RT 5 ?_
  refine AWP.seq (AWP.block (AWP.seq (KL (NN 12 5) ⟨[U6, (I6 to), .sl (u8s d) (List.length d) .any, .ptr 0 0, U6, U6, .ptr 1 0, (I6 0), (I6 0), .sc (Value.pointer none), (I6 3)] ++ UU 43, [⟨[.sl (flsc l) (List.length l) .any, (I6 next)], 2, .fresh⟩, ⟨[.sl [] 0 .nil, (I6 0)], 2, .fresh⟩]⟩ ?_)))
  refine AWP.reg (RT 3 ?_)
  refine KL [18, 19] ⟨[U6, (I6 to), .sl (u8s d) (List.length d) .any, .ptr 0 0, U6, U6, .ptr 1 0, (I6 0), (I6 0), .sc (Value.pointer none), (I6 3)] ++ UU 6 ++ [(B6 true)] ++ UU 36, [⟨[.sl (flsc l) (List.length l) .any, (I6 next)], 2, .fresh⟩, ⟨[.sl [] 0 .nil, (I6 0)], 2, .fresh⟩]⟩ ?_
  refine CN true (fun _ => ?_) (fun h => nomatch h)
  refine SQ (RI (2 ≤ 2 ∧ True ∧ 2 ≤ 2 ∧ True ∧ True ∧ True) ⟨(by omega), trivial, (by omega), trivial, trivial, trivial⟩ ?_)
  refine AWP.ret FA
theorem send_arg (l : List FlD) (next : Int) (hx : l.length ≤ 1000) (hn : -9223372036854775808 ≤ next ∧ next ≤ 9223372036854775807) (to : Int) (d : List Int) (h : okN next l) (ha : ¬ ((1 ≤ to ∧ to ≤ 12) ∧ 1 ≤ d.length ∧ d.length ≤ 60000)) : EvD Try.prog 31 [.agg [.sl (flsc l) l.length .any, .sc (.int .i64 next)], .sc (.int .i64 to), .sl (u8s d) d.length .any] (.tup [.agg [.sl (flsc l) l.length .any, .sc (.int .i64 next)], .sc (.int .i64 0), .sc (.int .i64 2)]) := by
  refine EvD.body Try.func31 rfl (by simp [flc, dataAll, AVal.data, *]) (by simp [flc, dataAll, AVal.data, *]) ?_
  refine AWP.seq ?_
  refine TO ⟨[.agg [.sl (flsc l) (List.length l) .any, (I6 next)], (I6 to), .sl (u8s d) (List.length d) .any] ++ UU 51, []⟩ ?_
  refine AWP.reg (RT 4 ?_)
  refine AWP.seq (KL [0] ⟨[U6, (I6 to), .sl (u8s d) (List.length d) .any, .ptr 0 0, U6, U6, .ptr 1 0, (I6 0), (I6 0)] ++ UU 45, [⟨[.sl (flsc l) (List.length l) .any, (I6 next)], 2, .fresh⟩, ⟨[.sl [] 0 .nil, (I6 0)], 2, .fresh⟩]⟩ ?_)
  refine AWP.reg (PI 1 (2 ≤ 2 ∧ True) ⟨(by omega), trivial⟩ ?_)
  refine DerQ.callAI (opened_u l next hx hn h) ⟨by kernel_rfl, by kernel_rfl⟩ ?_
  refine RT 5 ?_
  refine AWP.seq (AWP.block (AWP.seq (KL (NN 12 5) ⟨[U6, (I6 to), .sl (u8s d) (List.length d) .any, .ptr 0 0, U6, U6, .ptr 1 0, (I6 0), (I6 0), .ptr 4 0, (I6 0)] ++ UU 43, [⟨[.sl (flsc l) (List.length l) .any, (I6 next)], 2, .fresh⟩, ⟨[.sl [] 0 .nil, (I6 0)], 2, .fresh⟩, ⟨[.sl (flsc l) (List.length l) .any, (I6 next)], 2, .fresh⟩, ⟨mpc (idx l (List.length l)), 0, .map⟩, ⟨[.sl (flsc l) (List.length l) .any, (I6 next), .undef], 3, .fresh⟩]⟩ ?_)))
  refine AWP.reg (RT 3 ?_)
  refine KL [18, 19] ⟨[U6, (I6 to), .sl (u8s d) (List.length d) .any, .ptr 0 0, U6, U6, .ptr 1 0, (I6 0), (I6 0), .ptr 4 0, (I6 0)] ++ UU 6 ++ [(B6 false)] ++ UU 36, [⟨[.sl (flsc l) (List.length l) .any, (I6 next)], 2, .fresh⟩, ⟨[.sl [] 0 .nil, (I6 0)], 2, .fresh⟩, ⟨[.sl (flsc l) (List.length l) .any, (I6 next)], 2, .fresh⟩, ⟨mpc (idx l (List.length l)), 0, .map⟩, ⟨[.sl (flsc l) (List.length l) .any, (I6 next), .undef], 3, .fresh⟩]⟩ ?_
  refine CN false (fun h => nomatch h) (fun _ => ?_)
  refine SQ (PT 1 1 ?_)
  refine CD (peer to) ?_
  refine PT 2 2 ?_
  refine DerQ.to ⟨[U6, (I6 to), .sl (u8s d) (List.length d) .any, .ptr 0 0, U6, U6, .ptr 1 0, (I6 0), (I6 0), .ptr 4 0, (I6 0)] ++ UU 6 ++ [(B6 false)] ++ UU 5 ++ [(I6 to), (B6 (decide (1 ≤ to ∧ to ≤ 12))), (B6 (!decide (1 ≤ to ∧ to ≤ 12))), (B6 (!decide (1 ≤ to ∧ to ≤ 12)))] ++ UU 27, [⟨[.sl (flsc l) (List.length l) .any, (I6 next)], 2, .fresh⟩, ⟨[.sl [] 0 .nil, (I6 0)], 2, .fresh⟩, ⟨[.sl (flsc l) (List.length l) .any, (I6 next)], 2, .fresh⟩, ⟨mpc (idx l (List.length l)), 0, .map⟩, ⟨[.sl (flsc l) (List.length l) .any, (I6 next), .undef], 3, .fresh⟩]⟩ (by kernel_rfl) ?_
  cases h1 : (!decide (1 ≤ to ∧ to ≤ 12))
  · have h1' := h1
    simp only [Bool.and_eq_true, Bool.and_eq_false_iff, Bool.or_eq_true, Bool.or_eq_false_iff, Bool.not_eq_true', Bool.not_eq_false', beq_iff_eq, beq_eq_false_iff_ne, decide_eq_true_eq, decide_eq_false_iff_not, ne_eq] at h1'
    refine PT 5 5 ?_
    refine DerQ.to ⟨[U6, (I6 to), .sl (u8s d) (List.length d) .any, .ptr 0 0, U6, U6, .ptr 1 0, (I6 0), (I6 0), .ptr 4 0, (I6 0)] ++ UU 6 ++ [(B6 false)] ++ UU 5 ++ [(I6 to), (B6 (decide (1 ≤ to ∧ to ≤ 12))), (B6 false), (B6 false), .sl (u8s d) (List.length d) .any, (I6 (↑(List.length d) : Int)), (B6 ((↑(List.length d) : Int) == 0)), (B6 ((↑(List.length d) : Int) == 0)), (B6 ((↑(List.length d) : Int) == 0))] ++ UU 22, [⟨[.sl (flsc l) (List.length l) .any, (I6 next)], 2, .fresh⟩, ⟨[.sl [] 0 .nil, (I6 0)], 2, .fresh⟩, ⟨[.sl (flsc l) (List.length l) .any, (I6 next)], 2, .fresh⟩, ⟨mpc (idx l (List.length l)), 0, .map⟩, ⟨[.sl (flsc l) (List.length l) .any, (I6 next), .undef], 3, .fresh⟩]⟩ (by kernel_rfl) ?_
    cases h2 : ((↑(List.length d) : Int) == 0)
    · have h2' := ne_of_beq_false h2
      refine RT 5 ?_
      refine KL ([17] ++ NN 23 13) ⟨[U6, (I6 to), .sl (u8s d) (List.length d) .any, .ptr 0 0, U6, U6, .ptr 1 0, (I6 0), (I6 0), .ptr 4 0, (I6 0)] ++ UU 11 ++ [(B6 (decide ((↑(List.length d) : Int) > 60000)))] ++ UU 31, [⟨[.sl (flsc l) (List.length l) .any, (I6 next)], 2, .fresh⟩, ⟨[.sl [] 0 .nil, (I6 0)], 2, .fresh⟩, ⟨[.sl (flsc l) (List.length l) .any, (I6 next)], 2, .fresh⟩, ⟨mpc (idx l (List.length l)), 0, .map⟩, ⟨[.sl (flsc l) (List.length l) .any, (I6 next), .undef], 3, .fresh⟩]⟩ ?_
      refine CN (decide ((↑(List.length d) : Int) > 60000)) (fun h3 => ?_) (fun h3 => ?_)
      · have h3' := of_decide_eq_true h3
        refine SQ (RI (2 ≤ 2 ∧ 2 ≤ 2 ∧ True ∧ True ∧ True) ⟨(by omega), (by omega), trivial, trivial, trivial⟩ ?_)
        refine AWP.ret FA
      · have h3' := of_decide_eq_false h3
        exfalso; omega
    · have h2' := eq_of_beq h2
      refine RT 2 ?_
      refine KL ([17] ++ NN 23 13) ⟨[U6, (I6 to), .sl (u8s d) (List.length d) .any, .ptr 0 0, U6, U6, .ptr 1 0, (I6 0), (I6 0), .ptr 4 0, (I6 0)] ++ UU 11 ++ [(B6 true)] ++ UU 31, [⟨[.sl (flsc l) (List.length l) .any, (I6 next)], 2, .fresh⟩, ⟨[.sl [] 0 .nil, (I6 0)], 2, .fresh⟩, ⟨[.sl (flsc l) (List.length l) .any, (I6 next)], 2, .fresh⟩, ⟨mpc (idx l (List.length l)), 0, .map⟩, ⟨[.sl (flsc l) (List.length l) .any, (I6 next), .undef], 3, .fresh⟩]⟩ ?_
      refine CN true (fun _ => ?_) (fun h => nomatch h)
      refine SQ (RI (2 ≤ 2 ∧ 2 ≤ 2 ∧ True ∧ True ∧ True) ⟨(by omega), (by omega), trivial, trivial, trivial⟩ ?_)
      refine AWP.ret FA
  · have h1' := h1
    simp only [Bool.and_eq_true, Bool.and_eq_false_iff, Bool.or_eq_true, Bool.or_eq_false_iff, Bool.not_eq_true', Bool.not_eq_false', beq_iff_eq, beq_eq_false_iff_ne, decide_eq_true_eq, decide_eq_false_iff_not, ne_eq] at h1'
    refine RT 4 ?_
    refine KL ([17] ++ NN 23 13) ⟨[U6, (I6 to), .sl (u8s d) (List.length d) .any, .ptr 0 0, U6, U6, .ptr 1 0, (I6 0), (I6 0), .ptr 4 0, (I6 0)] ++ UU 11 ++ [(B6 true)] ++ UU 31, [⟨[.sl (flsc l) (List.length l) .any, (I6 next)], 2, .fresh⟩, ⟨[.sl [] 0 .nil, (I6 0)], 2, .fresh⟩, ⟨[.sl (flsc l) (List.length l) .any, (I6 next)], 2, .fresh⟩, ⟨mpc (idx l (List.length l)), 0, .map⟩, ⟨[.sl (flsc l) (List.length l) .any, (I6 next), .undef], 3, .fresh⟩]⟩ ?_
    refine CN true (fun _ => ?_) (fun h => nomatch h)
    refine SQ (RI (2 ≤ 2 ∧ 2 ≤ 2 ∧ True ∧ True ∧ True) ⟨(by omega), (by omega), trivial, trivial, trivial⟩ ?_)
    refine AWP.ret FA
theorem send_full (l : List FlD) (next : Int) (hx : l.length ≤ 1000) (hn : -9223372036854775808 ≤ next ∧ next ≤ 9223372036854775807) (to : Int) (d : List Int) (h : okN next l) (ha : (1 ≤ to ∧ to ≤ 12) ∧ 1 ≤ d.length ∧ d.length ≤ 60000) (hm : 1073741824 ≤ next) : EvD Try.prog 31 [.agg [.sl (flsc l) l.length .any, .sc (.int .i64 next)], .sc (.int .i64 to), .sl (u8s d) d.length .any] (.tup [.agg [.sl (flsc l) l.length .any, .sc (.int .i64 next)], .sc (.int .i64 0), .sc (.int .i64 4)]) := by
  refine EvD.body Try.func31 rfl (by simp [flc, dataAll, AVal.data, *]) (by simp [flc, dataAll, AVal.data, *]) ?_
  refine AWP.seq ?_
  refine TO ⟨[.agg [.sl (flsc l) (List.length l) .any, (I6 next)], (I6 to), .sl (u8s d) (List.length d) .any] ++ UU 51, []⟩ ?_
  refine AWP.reg (RT 4 ?_)
  refine AWP.seq (KL [0] ⟨[U6, (I6 to), .sl (u8s d) (List.length d) .any, .ptr 0 0, U6, U6, .ptr 1 0, (I6 0), (I6 0)] ++ UU 45, [⟨[.sl (flsc l) (List.length l) .any, (I6 next)], 2, .fresh⟩, ⟨[.sl [] 0 .nil, (I6 0)], 2, .fresh⟩]⟩ ?_)
  refine AWP.reg (PI 1 (2 ≤ 2 ∧ True) ⟨(by omega), trivial⟩ ?_)
  refine DerQ.callAI (opened_u l next hx hn h) ⟨by kernel_rfl, by kernel_rfl⟩ ?_
  refine RT 5 ?_
  refine AWP.seq (AWP.block (AWP.seq (KL (NN 12 5) ⟨[U6, (I6 to), .sl (u8s d) (List.length d) .any, .ptr 0 0, U6, U6, .ptr 1 0, (I6 0), (I6 0), .ptr 4 0, (I6 0)] ++ UU 43, [⟨[.sl (flsc l) (List.length l) .any, (I6 next)], 2, .fresh⟩, ⟨[.sl [] 0 .nil, (I6 0)], 2, .fresh⟩, ⟨[.sl (flsc l) (List.length l) .any, (I6 next)], 2, .fresh⟩, ⟨mpc (idx l (List.length l)), 0, .map⟩, ⟨[.sl (flsc l) (List.length l) .any, (I6 next), .undef], 3, .fresh⟩]⟩ ?_)))
  refine AWP.reg (RT 3 ?_)
  refine KL [18, 19] ⟨[U6, (I6 to), .sl (u8s d) (List.length d) .any, .ptr 0 0, U6, U6, .ptr 1 0, (I6 0), (I6 0), .ptr 4 0, (I6 0)] ++ UU 6 ++ [(B6 false)] ++ UU 36, [⟨[.sl (flsc l) (List.length l) .any, (I6 next)], 2, .fresh⟩, ⟨[.sl [] 0 .nil, (I6 0)], 2, .fresh⟩, ⟨[.sl (flsc l) (List.length l) .any, (I6 next)], 2, .fresh⟩, ⟨mpc (idx l (List.length l)), 0, .map⟩, ⟨[.sl (flsc l) (List.length l) .any, (I6 next), .undef], 3, .fresh⟩]⟩ ?_
  refine CN false (fun h => nomatch h) (fun _ => ?_)
  refine SQ (PT 1 1 ?_)
  refine CD (peer to) ?_
  refine PT 2 2 ?_
  refine DerQ.to ⟨[U6, (I6 to), .sl (u8s d) (List.length d) .any, .ptr 0 0, U6, U6, .ptr 1 0, (I6 0), (I6 0), .ptr 4 0, (I6 0)] ++ UU 6 ++ [(B6 false)] ++ UU 5 ++ [(I6 to), (B6 (decide (1 ≤ to ∧ to ≤ 12))), (B6 (!decide (1 ≤ to ∧ to ≤ 12))), (B6 (!decide (1 ≤ to ∧ to ≤ 12)))] ++ UU 27, [⟨[.sl (flsc l) (List.length l) .any, (I6 next)], 2, .fresh⟩, ⟨[.sl [] 0 .nil, (I6 0)], 2, .fresh⟩, ⟨[.sl (flsc l) (List.length l) .any, (I6 next)], 2, .fresh⟩, ⟨mpc (idx l (List.length l)), 0, .map⟩, ⟨[.sl (flsc l) (List.length l) .any, (I6 next), .undef], 3, .fresh⟩]⟩ (by kernel_rfl) ?_
  cases h1 : (!decide (1 ≤ to ∧ to ≤ 12))
  · have h1' := h1
    simp only [Bool.and_eq_true, Bool.and_eq_false_iff, Bool.or_eq_true, Bool.or_eq_false_iff, Bool.not_eq_true', Bool.not_eq_false', beq_iff_eq, beq_eq_false_iff_ne, decide_eq_true_eq, decide_eq_false_iff_not, ne_eq] at h1'
    refine PT 5 5 ?_
    refine DerQ.to ⟨[U6, (I6 to), .sl (u8s d) (List.length d) .any, .ptr 0 0, U6, U6, .ptr 1 0, (I6 0), (I6 0), .ptr 4 0, (I6 0)] ++ UU 6 ++ [(B6 false)] ++ UU 5 ++ [(I6 to), (B6 (decide (1 ≤ to ∧ to ≤ 12))), (B6 false), (B6 false), .sl (u8s d) (List.length d) .any, (I6 (↑(List.length d) : Int)), (B6 ((↑(List.length d) : Int) == 0)), (B6 ((↑(List.length d) : Int) == 0)), (B6 ((↑(List.length d) : Int) == 0))] ++ UU 22, [⟨[.sl (flsc l) (List.length l) .any, (I6 next)], 2, .fresh⟩, ⟨[.sl [] 0 .nil, (I6 0)], 2, .fresh⟩, ⟨[.sl (flsc l) (List.length l) .any, (I6 next)], 2, .fresh⟩, ⟨mpc (idx l (List.length l)), 0, .map⟩, ⟨[.sl (flsc l) (List.length l) .any, (I6 next), .undef], 3, .fresh⟩]⟩ (by kernel_rfl) ?_
    cases h2 : ((↑(List.length d) : Int) == 0)
    · have h2' := ne_of_beq_false h2
      refine RT 5 ?_
      refine KL ([17] ++ NN 23 13) ⟨[U6, (I6 to), .sl (u8s d) (List.length d) .any, .ptr 0 0, U6, U6, .ptr 1 0, (I6 0), (I6 0), .ptr 4 0, (I6 0)] ++ UU 11 ++ [(B6 (decide ((↑(List.length d) : Int) > 60000)))] ++ UU 31, [⟨[.sl (flsc l) (List.length l) .any, (I6 next)], 2, .fresh⟩, ⟨[.sl [] 0 .nil, (I6 0)], 2, .fresh⟩, ⟨[.sl (flsc l) (List.length l) .any, (I6 next)], 2, .fresh⟩, ⟨mpc (idx l (List.length l)), 0, .map⟩, ⟨[.sl (flsc l) (List.length l) .any, (I6 next), .undef], 3, .fresh⟩]⟩ ?_
      refine CN (decide ((↑(List.length d) : Int) > 60000)) (fun h3 => ?_) (fun h3 => ?_)
      · have h3' := of_decide_eq_true h3
        exfalso; omega
      · have h3' := of_decide_eq_false h3
        refine AWP.skip (SQ (PT 4 4 ?_))
        refine DerQ.callK (add_full l next hx hn ⟨0, to, d, false⟩ hm) 4 [.ptr 4 0, .agg [(I6 0), (I6 to), .sl (u8s d) (List.length d) .any, (B6 false)]] ⟨[U6, (I6 to), .sl (u8s d) (List.length d) .any, .ptr 0 0, U6, U6, .ptr 1 0, (I6 0), (I6 0), .ptr 4 0, (I6 0)] ++ UU 11 ++ [(B6 (decide ((↑(List.length d) : Int) > 60000)))] ++ UU 15 ++ [.ptr 4 0, (I6 to), .sl (u8s d) (List.length d) .any, .agg [(I6 0), (I6 to), .sl (u8s d) (List.length d) .any, (B6 false)], .tup [(I6 0), (I6 4)]] ++ UU 11, [⟨[.sl (flsc l) (List.length l) .any, (I6 next)], 2, .fresh⟩, ⟨[.sl [] 0 .nil, (I6 0)], 2, .fresh⟩, ⟨[.sl (flsc l) (List.length l) .any, (I6 next)], 2, .fresh⟩, ⟨mpc (idx l (List.length l)), 0, .map⟩, ⟨[.sl (flsc l) (List.length l) .any, (I6 next), .undef], 3, .fresh⟩]⟩ ⟨by kernel_rfl, by kernel_rfl, by kernel_rfl, by kernel_rfl, by kernel_rfl⟩ ?_
        refine RT 5 ?_
        refine AWP.seq (AWP.seq (KL ([1, 2, 22] ++ NN 37 8) ⟨[U6, U6, U6, .ptr 0 0, U6, U6, .ptr 1 0, (I6 0), (I6 0), .ptr 4 0, (I6 4), (I6 0)] ++ UU 42, [⟨[.sl (flsc l) (List.length l) .any, (I6 next)], 2, .fresh⟩, ⟨[.sl [] 0 .nil, (I6 0)], 2, .fresh⟩, ⟨[.sl (flsc l) (List.length l) .any, (I6 next)], 2, .fresh⟩, ⟨mpc (idx l (List.length l)), 0, .map⟩, ⟨[.sl (flsc l) (List.length l) .any, (I6 next), .undef], 3, .fresh⟩]⟩ ?_))
        refine AWP.reg (RT 2 ?_)
        refine KL [45] ⟨[U6, U6, U6, .ptr 0 0, U6, U6, .ptr 1 0, (I6 0), (I6 0), .ptr 4 0, (I6 4), (I6 0)] ++ UU 34 ++ [(B6 true)] ++ UU 7, [⟨[.sl (flsc l) (List.length l) .any, (I6 next)], 2, .fresh⟩, ⟨[.sl [] 0 .nil, (I6 0)], 2, .fresh⟩, ⟨[.sl (flsc l) (List.length l) .any, (I6 next)], 2, .fresh⟩, ⟨mpc (idx l (List.length l)), 0, .map⟩, ⟨[.sl (flsc l) (List.length l) .any, (I6 next), .undef], 3, .fresh⟩]⟩ ?_
        refine CN true (fun _ => ?_) (fun h => nomatch h)
        refine SQ (RI (2 ≤ 2 ∧ True ∧ 2 ≤ 2 ∧ True ∧ True ∧ True) ⟨(by omega), trivial, (by omega), trivial, trivial, trivial⟩ ?_)
        refine AWP.ret FA
    · have h2' := eq_of_beq h2
      exfalso; omega
  · have h1' := h1
    simp only [Bool.and_eq_true, Bool.and_eq_false_iff, Bool.or_eq_true, Bool.or_eq_false_iff, Bool.not_eq_true', Bool.not_eq_false', beq_iff_eq, beq_eq_false_iff_ne, decide_eq_true_eq, decide_eq_false_iff_not, ne_eq] at h1'
    exfalso; omega
theorem send_ok (l : List FlD) (next : Int) (hx : l.length ≤ 1000) (hn : -9223372036854775808 ≤ next ∧ next ≤ 9223372036854775807) (to : Int) (d : List Int) (h : okN next l) (ha : (1 ≤ to ∧ to ≤ 12) ∧ 1 ≤ d.length ∧ d.length ≤ 60000) (hm : next < 1073741824) : EvD Try.prog 31 [.agg [.sl (flsc l) l.length .any, .sc (.int .i64 next)], .sc (.int .i64 to), .sl (u8s d) d.length .any] (.tup [.agg [.sl (flsc (addL l next ⟨0, to, d, false⟩)) (addL l next ⟨0, to, d, false⟩).length .any, .sc (.int .i64 (next + 1))], .sc (.int .i64 next), .sc (.int .i64 0)]) := by
  have m1 := add_ok l next hx hn ⟨0, to, d, false⟩ (by show d.length ≤ 1000000; omega) hm
  rw [addL_len]
  refine EvD.body Try.func31 rfl (by simp [flc, dataAll, AVal.data, *]) (by simp [flc, dataAll, AVal.data, *]) ?_
  refine AWP.seq ?_
  refine TO ⟨[.agg [.sl (flsc l) (List.length l) .any, (I6 next)], (I6 to), .sl (u8s d) (List.length d) .any] ++ UU 51, []⟩ ?_
  refine AWP.reg (RT 4 ?_)
  refine AWP.seq (KL [0] ⟨[U6, (I6 to), .sl (u8s d) (List.length d) .any, .ptr 0 0, U6, U6, .ptr 1 0, (I6 0), (I6 0)] ++ UU 45, [⟨[.sl (flsc l) (List.length l) .any, (I6 next)], 2, .fresh⟩, ⟨[.sl [] 0 .nil, (I6 0)], 2, .fresh⟩]⟩ ?_)
  refine AWP.reg (PI 1 (2 ≤ 2 ∧ True) ⟨(by omega), trivial⟩ ?_)
  refine DerQ.callAI (opened_u l next hx hn h) ⟨by kernel_rfl, by kernel_rfl⟩ ?_
  refine RT 5 ?_
  refine AWP.seq (AWP.block (AWP.seq (KL (NN 12 5) ⟨[U6, (I6 to), .sl (u8s d) (List.length d) .any, .ptr 0 0, U6, U6, .ptr 1 0, (I6 0), (I6 0), .ptr 4 0, (I6 0)] ++ UU 43, [⟨[.sl (flsc l) (List.length l) .any, (I6 next)], 2, .fresh⟩, ⟨[.sl [] 0 .nil, (I6 0)], 2, .fresh⟩, ⟨[.sl (flsc l) (List.length l) .any, (I6 next)], 2, .fresh⟩, ⟨mpc (idx l (List.length l)), 0, .map⟩, ⟨[.sl (flsc l) (List.length l) .any, (I6 next), .undef], 3, .fresh⟩]⟩ ?_)))
  refine AWP.reg (RT 3 ?_)
  refine KL [18, 19] ⟨[U6, (I6 to), .sl (u8s d) (List.length d) .any, .ptr 0 0, U6, U6, .ptr 1 0, (I6 0), (I6 0), .ptr 4 0, (I6 0)] ++ UU 6 ++ [(B6 false)] ++ UU 36, [⟨[.sl (flsc l) (List.length l) .any, (I6 next)], 2, .fresh⟩, ⟨[.sl [] 0 .nil, (I6 0)], 2, .fresh⟩, ⟨[.sl (flsc l) (List.length l) .any, (I6 next)], 2, .fresh⟩, ⟨mpc (idx l (List.length l)), 0, .map⟩, ⟨[.sl (flsc l) (List.length l) .any, (I6 next), .undef], 3, .fresh⟩]⟩ ?_
  refine CN false (fun h => nomatch h) (fun _ => ?_)
  refine SQ (PT 1 1 ?_)
  refine CD (peer to) ?_
  refine PT 2 2 ?_
  refine DerQ.to ⟨[U6, (I6 to), .sl (u8s d) (List.length d) .any, .ptr 0 0, U6, U6, .ptr 1 0, (I6 0), (I6 0), .ptr 4 0, (I6 0)] ++ UU 6 ++ [(B6 false)] ++ UU 5 ++ [(I6 to), (B6 (decide (1 ≤ to ∧ to ≤ 12))), (B6 (!decide (1 ≤ to ∧ to ≤ 12))), (B6 (!decide (1 ≤ to ∧ to ≤ 12)))] ++ UU 27, [⟨[.sl (flsc l) (List.length l) .any, (I6 next)], 2, .fresh⟩, ⟨[.sl [] 0 .nil, (I6 0)], 2, .fresh⟩, ⟨[.sl (flsc l) (List.length l) .any, (I6 next)], 2, .fresh⟩, ⟨mpc (idx l (List.length l)), 0, .map⟩, ⟨[.sl (flsc l) (List.length l) .any, (I6 next), .undef], 3, .fresh⟩]⟩ (by kernel_rfl) ?_
  cases h1 : (!decide (1 ≤ to ∧ to ≤ 12))
  · have h1' := h1
    simp only [Bool.and_eq_true, Bool.and_eq_false_iff, Bool.or_eq_true, Bool.or_eq_false_iff, Bool.not_eq_true', Bool.not_eq_false', beq_iff_eq, beq_eq_false_iff_ne, decide_eq_true_eq, decide_eq_false_iff_not, ne_eq] at h1'
    refine PT 5 5 ?_
    refine DerQ.to ⟨[U6, (I6 to), .sl (u8s d) (List.length d) .any, .ptr 0 0, U6, U6, .ptr 1 0, (I6 0), (I6 0), .ptr 4 0, (I6 0)] ++ UU 6 ++ [(B6 false)] ++ UU 5 ++ [(I6 to), (B6 (decide (1 ≤ to ∧ to ≤ 12))), (B6 false), (B6 false), .sl (u8s d) (List.length d) .any, (I6 (↑(List.length d) : Int)), (B6 ((↑(List.length d) : Int) == 0)), (B6 ((↑(List.length d) : Int) == 0)), (B6 ((↑(List.length d) : Int) == 0))] ++ UU 22, [⟨[.sl (flsc l) (List.length l) .any, (I6 next)], 2, .fresh⟩, ⟨[.sl [] 0 .nil, (I6 0)], 2, .fresh⟩, ⟨[.sl (flsc l) (List.length l) .any, (I6 next)], 2, .fresh⟩, ⟨mpc (idx l (List.length l)), 0, .map⟩, ⟨[.sl (flsc l) (List.length l) .any, (I6 next), .undef], 3, .fresh⟩]⟩ (by kernel_rfl) ?_
    cases h2 : ((↑(List.length d) : Int) == 0)
    · have h2' := ne_of_beq_false h2
      refine RT 5 ?_
      refine KL ([17] ++ NN 23 13) ⟨[U6, (I6 to), .sl (u8s d) (List.length d) .any, .ptr 0 0, U6, U6, .ptr 1 0, (I6 0), (I6 0), .ptr 4 0, (I6 0)] ++ UU 11 ++ [(B6 (decide ((↑(List.length d) : Int) > 60000)))] ++ UU 31, [⟨[.sl (flsc l) (List.length l) .any, (I6 next)], 2, .fresh⟩, ⟨[.sl [] 0 .nil, (I6 0)], 2, .fresh⟩, ⟨[.sl (flsc l) (List.length l) .any, (I6 next)], 2, .fresh⟩, ⟨mpc (idx l (List.length l)), 0, .map⟩, ⟨[.sl (flsc l) (List.length l) .any, (I6 next), .undef], 3, .fresh⟩]⟩ ?_
      refine CN (decide ((↑(List.length d) : Int) > 60000)) (fun h3 => ?_) (fun h3 => ?_)
      · have h3' := of_decide_eq_true h3
        exfalso; omega
      · have h3' := of_decide_eq_false h3
        refine AWP.skip (SQ (PT 4 4 ?_))
        refine DerQ.callK (m1) 4 [.ptr 4 0, .agg [(I6 0), (I6 to), .sl (u8s d) (List.length d) .any, (B6 false)]] ⟨[U6, (I6 to), .sl (u8s d) (List.length d) .any, .ptr 0 0, U6, U6, .ptr 1 0, (I6 0), (I6 0), .ptr 4 0, (I6 0)] ++ UU 11 ++ [(B6 (decide ((↑(List.length d) : Int) > 60000)))] ++ UU 15 ++ [.ptr 4 0, (I6 to), .sl (u8s d) (List.length d) .any, .agg [(I6 0), (I6 to), .sl (u8s d) (List.length d) .any, (B6 false)], .tup [(I6 next), (I6 0)]] ++ UU 11, [⟨[.sl (flsc l) (List.length l) .any, (I6 next)], 2, .fresh⟩, ⟨[.sl [] 0 .nil, (I6 0)], 2, .fresh⟩, ⟨[.sl (flsc l) (List.length l) .any, (I6 next)], 2, .fresh⟩, ⟨mpc (idx l (List.length l)), 0, .map⟩, ⟨[.sl (flsc (addL l next { num := 0, to := to, d := d, sp := false })) (List.length l + 1) .any, (I6 (next + 1)), .undef], 3, .fresh⟩]⟩ ⟨by kernel_rfl, by kernel_rfl, by kernel_rfl, by kernel_rfl, by kernel_rfl⟩ ?_
        refine DerQ.run (TT 5) ⟨[U6, (I6 to), .sl (u8s d) (List.length d) .any, .ptr 0 0, U6, U6, .ptr 1 0, (I6 0), (I6 0), .ptr 4 0, (I6 0), (I6 next)] ++ UU 10 ++ [(B6 (decide ((↑(List.length d) : Int) > 60000)))] ++ UU 14 ++ [.tup [(I6 next), (I6 0)], .ptr 4 0, (I6 to), .sl (u8s d) (List.length d) .any, .agg [(I6 0), (I6 to), .sl (u8s d) (List.length d) .any, (B6 false)], .tup [(I6 next), (I6 0)], (I6 next), (I6 0)] ++ UU 9, [⟨[.sl (flsc l) (List.length l) .any, (I6 next)], 2, .fresh⟩, ⟨[.sl [] 0 .nil, (I6 0)], 2, .fresh⟩, ⟨[.sl (flsc l) (List.length l) .any, (I6 next)], 2, .fresh⟩, ⟨mpc (idx l (List.length l)), 0, .map⟩, ⟨[.sl (flsc (addL l next { num := 0, to := to, d := d, sp := false })) (List.length l + 1) .any, (I6 (next + 1)), .undef], 3, .fresh⟩]⟩ (by kernel_rfl) (tt 5) ?_
        refine AWP.seq (AWP.seq (KL ([1, 2, 22] ++ NN 37 8) ⟨[U6, U6, U6, .ptr 0 0, U6, U6, .ptr 1 0, (I6 0), (I6 0), .ptr 4 0, (I6 0), (I6 next)] ++ UU 42, [⟨[.sl (flsc l) (List.length l) .any, (I6 next)], 2, .fresh⟩, ⟨[.sl [] 0 .nil, (I6 0)], 2, .fresh⟩, ⟨[.sl (flsc l) (List.length l) .any, (I6 next)], 2, .fresh⟩, ⟨mpc (idx l (List.length l)), 0, .map⟩, ⟨[.sl (flsc (addL l next { num := 0, to := to, d := d, sp := false })) (List.length l + 1) .any, (I6 (next + 1)), .undef], 3, .fresh⟩]⟩ ?_))
        refine AWP.reg ?_
        refine DerQ.run (TT 2) ⟨[U6, U6, U6, .ptr 0 0, U6, U6, .ptr 1 0, (I6 0), (I6 0), .ptr 4 0, (I6 0), (I6 next)] ++ UU 33 ++ [(I6 0), (B6 false)] ++ UU 7, [⟨[.sl (flsc l) (List.length l) .any, (I6 next)], 2, .fresh⟩, ⟨[.sl [] 0 .nil, (I6 0)], 2, .fresh⟩, ⟨[.sl (flsc l) (List.length l) .any, (I6 next)], 2, .fresh⟩, ⟨mpc (idx l (List.length l)), 0, .map⟩, ⟨[.sl (flsc (addL l next { num := 0, to := to, d := d, sp := false })) (List.length l + 1) .any, (I6 (next + 1)), .undef], 3, .fresh⟩]⟩ (by kernel_rfl) (tt 2) ?_
        refine CN false (fun h => nomatch h) (fun _ => ?_)
        refine KL [3, 10, 45, 46] ⟨[.undef] ++ UU 5 ++ [.ptr 1 0, (I6 0), (I6 0), .ptr 4 0, U6, (I6 next)] ++ UU 42, [⟨[.sl (flsc l) (List.length l) .any, (I6 next)], 2, .fresh⟩, ⟨[.sl [] 0 .nil, (I6 0)], 2, .fresh⟩, ⟨[.sl (flsc l) (List.length l) .any, (I6 next)], 2, .fresh⟩, ⟨mpc (idx l (List.length l)), 0, .map⟩, ⟨[.sl (flsc (addL l next { num := 0, to := to, d := d, sp := false })) (List.length l + 1) .any, (I6 (next + 1)), .undef], 3, .fresh⟩]⟩ ?_
        refine AWP.skip (SQ ?_)
        refine DerQ.run (True ∧ True ∧ True ∧ 2 ≤ 3 ∧ True ∧ 2 ≤ 2 ∧ True ∧ True ∧ True) ⟨[.undef] ++ UU 5 ++ [.ptr 1 0, (I6 next), (I6 0), .ptr 4 0, U6, (I6 next)] ++ UU 37 ++ [.ptr 4 0, .ptr 4 0, .ptr 4 0, .agg [.sl (flsc (addL l next { num := 0, to := to, d := d, sp := false })) (List.length l + 1) .any, (I6 (next + 1))], (I6 next)], [⟨[.sl (flsc l) (List.length l) .any, (I6 next)], 2, .fresh⟩, ⟨[.sl (flsc (addL l next { num := 0, to := to, d := d, sp := false })) (List.length l + 1) .any, (I6 (next + 1))], 2, .fresh⟩, ⟨[.sl (flsc l) (List.length l) .any, (I6 next)], 2, .fresh⟩, ⟨mpc (idx l (List.length l)), 0, .map⟩, ⟨[.sl (flsc (addL l next { num := 0, to := to, d := d, sp := false })) (List.length l + 1) .any, (I6 (next + 1)), .undef], 3, .fresh⟩]⟩ (by kernel_rfl) ⟨trivial, trivial, trivial, (by omega), trivial, (by omega), trivial, trivial, trivial⟩ ?_
        refine KL ([9, 11] ++ NN 49 5) ⟨[.undef] ++ UU 5 ++ [.ptr 1 0, (I6 next), (I6 0)] ++ UU 45, [⟨[.sl (flsc l) (List.length l) .any, (I6 next)], 2, .fresh⟩, ⟨[.sl (flsc (addL l next { num := 0, to := to, d := d, sp := false })) (List.length l + 1) .any, (I6 (next + 1))], 2, .fresh⟩, ⟨[.sl (flsc l) (List.length l) .any, (I6 next)], 2, .fresh⟩, ⟨mpc (idx l (List.length l)), 0, .map⟩, ⟨[.sl (flsc (addL l next { num := 0, to := to, d := d, sp := false })) (List.length l + 1) .any, (I6 (next + 1)), .undef], 3, .fresh⟩]⟩ ?_
        refine AWP.ret FA
    · have h2' := eq_of_beq h2
      exfalso; omega
  · have h1' := h1
    simp only [Bool.and_eq_true, Bool.and_eq_false_iff, Bool.or_eq_true, Bool.or_eq_false_iff, Bool.not_eq_true', Bool.not_eq_false', beq_iff_eq, beq_eq_false_iff_ne, decide_eq_true_eq, decide_eq_false_iff_not, ne_eq] at h1'
    exfalso; omega
theorem double_form (l : List FlD) (next : Int) (hx : l.length ≤ 1000) (hn : -9223372036854775808 ≤ next ∧ next ≤ 9223372036854775807) (x : Int) (h : ¬ okN next l) : EvD Try.prog 33 [.agg [.sl (flsc l) l.length .any, .sc (.int .i64 next)], .sc (.int .i64 x)] (.tup [.agg [.sl (flsc l) l.length .any, .sc (.int .i64 next)], .sc (.int .i64 0), .sc (.int .i64 3)]) := by
  refine EvD.body Try.func33 rfl (by simp [flc, dataAll, AVal.data, *]) (by simp [flc, dataAll, AVal.data, *]) ?_
  refine AWP.seq ?_
  refine TO ⟨[.agg [.sl (flsc l) (List.length l) .any, (I6 next)], (I6 x)] ++ UU 35, []⟩ ?_
  refine AWP.reg (RT 4 ?_)
  refine AWP.seq (KL [0] ⟨[U6, (I6 x), .ptr 0 0, U6, .ptr 1 0, (I6 0), (I6 0)] ++ UU 30, [⟨[.sl (flsc l) (List.length l) .any, (I6 next)], 2, .fresh⟩, ⟨[.sl [] 0 .nil, (I6 0)], 2, .fresh⟩]⟩ ?_)
  refine AWP.reg (PI 2 (2 ≤ 2 ∧ True ∧ True) ⟨(by omega), trivial, trivial⟩ ?_)
  refine CD (found_bad l next hx hn x h) ?_
  refine RI (True ∧ True ∧ True ∧ True ∧ True ∧ True ∧ 4 ≤ 4 ∧ True ∧ True) ⟨trivial, trivial, trivial, trivial, trivial, trivial, (by omega), trivial, trivial⟩ ?_
  refine AWP.seq (AWP.seq (KL ([1] ++ NN 11 7) ⟨[U6, U6, .ptr 0 0, U6, .ptr 1 0, (I6 0), (I6 0), .sc (Value.pointer none), .ptr 2 0, (I6 3)] ++ UU 27, [⟨[.sl (flsc l) (List.length l) .any, (I6 next)], 2, .fresh⟩, ⟨[.sl [] 0 .nil, (I6 0)], 2, .fresh⟩, ⟨[(I6 0), (I6 0), .sl [] 0 .any, (B6 false)], 4, .fresh⟩]⟩ ?_))
  refine AWP.reg (RT 2 ?_)
  refine KL [18] ⟨[U6, U6, .ptr 0 0, U6, .ptr 1 0, (I6 0), (I6 0), .sc (Value.pointer none), .ptr 2 0, (I6 3)] ++ UU 9 ++ [(B6 true)] ++ UU 17, [⟨[.sl (flsc l) (List.length l) .any, (I6 next)], 2, .fresh⟩, ⟨[.sl [] 0 .nil, (I6 0)], 2, .fresh⟩, ⟨[(I6 0), (I6 0), .sl [] 0 .any, (B6 false)], 4, .fresh⟩]⟩ ?_
  refine CN true (fun _ => ?_) (fun h => nomatch h)
  refine SQ (RI (2 ≤ 2 ∧ True ∧ 2 ≤ 2 ∧ True ∧ True ∧ True) ⟨(by omega), trivial, (by omega), trivial, trivial, trivial⟩ ?_)
  refine AWP.ret FA
theorem double_none (l : List FlD) (next : Int) (hx : l.length ≤ 1000) (hn : -9223372036854775808 ≤ next ∧ next ≤ 9223372036854775807) (x : Int) (h : okN next l) (hno : ∀ j, j < l.length → (l.getD j fl0).num ≠ x) : EvD Try.prog 33 [.agg [.sl (flsc l) l.length .any, .sc (.int .i64 next)], .sc (.int .i64 x)] (.tup [.agg [.sl (flsc l) l.length .any, .sc (.int .i64 next)], .sc (.int .i64 0), .sc (.int .i64 7)]) := by
  refine EvD.body Try.func33 rfl (by simp [flc, dataAll, AVal.data, *]) (by simp [flc, dataAll, AVal.data, *]) ?_
  refine AWP.seq ?_
  refine TO ⟨[.agg [.sl (flsc l) (List.length l) .any, (I6 next)], (I6 x)] ++ UU 35, []⟩ ?_
  refine AWP.reg (RT 4 ?_)
  refine AWP.seq (KL [0] ⟨[U6, (I6 x), .ptr 0 0, U6, .ptr 1 0, (I6 0), (I6 0)] ++ UU 30, [⟨[.sl (flsc l) (List.length l) .any, (I6 next)], 2, .fresh⟩, ⟨[.sl [] 0 .nil, (I6 0)], 2, .fresh⟩]⟩ ?_)
  refine AWP.reg (PI 2 (2 ≤ 2 ∧ True ∧ True) ⟨(by omega), trivial, trivial⟩ ?_)
  refine CD (found_none l next hx hn x h hno) ?_
  refine RI (True ∧ True ∧ True ∧ True ∧ True ∧ True ∧ 4 ≤ 4 ∧ True ∧ True) ⟨trivial, trivial, trivial, trivial, trivial, trivial, (by omega), trivial, trivial⟩ ?_
  refine AWP.seq (AWP.seq (KL ([1] ++ NN 11 7) ⟨[U6, U6, .ptr 0 0, U6, .ptr 1 0, (I6 0), (I6 0), .sc (Value.pointer none), .ptr 2 0, (I6 7)] ++ UU 27, [⟨[.sl (flsc l) (List.length l) .any, (I6 next)], 2, .fresh⟩, ⟨[.sl [] 0 .nil, (I6 0)], 2, .fresh⟩, ⟨[(I6 0), (I6 0), .sl [] 0 .any, (B6 false)], 4, .fresh⟩]⟩ ?_))
  refine AWP.reg (RT 2 ?_)
  refine KL [18] ⟨[U6, U6, .ptr 0 0, U6, .ptr 1 0, (I6 0), (I6 0), .sc (Value.pointer none), .ptr 2 0, (I6 7)] ++ UU 9 ++ [(B6 true)] ++ UU 17, [⟨[.sl (flsc l) (List.length l) .any, (I6 next)], 2, .fresh⟩, ⟨[.sl [] 0 .nil, (I6 0)], 2, .fresh⟩, ⟨[(I6 0), (I6 0), .sl [] 0 .any, (B6 false)], 4, .fresh⟩]⟩ ?_
  refine CN true (fun _ => ?_) (fun h => nomatch h)
  refine SQ (RI (2 ≤ 2 ∧ True ∧ 2 ≤ 2 ∧ True ∧ True ∧ True) ⟨(by omega), trivial, (by omega), trivial, trivial, trivial⟩ ?_)
  refine AWP.ret FA
theorem double_full (l : List FlD) (next : Int) (hx : l.length ≤ 1000) (hn : -9223372036854775808 ≤ next ∧ next ≤ 9223372036854775807) (x : Int) (h : okN next l) (k : Nat) (hk : k < l.length) (hkx : (l.getD k fl0).num = x) (hm : 1073741824 ≤ next) : EvD Try.prog 33 [.agg [.sl (flsc l) l.length .any, .sc (.int .i64 next)], .sc (.int .i64 x)] (.tup [.agg [.sl (flsc l) l.length .any, .sc (.int .i64 next)], .sc (.int .i64 0), .sc (.int .i64 4)]) := by
  refine EvD.body Try.func33 rfl (by simp [flc, dataAll, AVal.data, *]) (by simp [flc, dataAll, AVal.data, *]) ?_
  refine AWP.seq ?_
  refine TO ⟨[.agg [.sl (flsc l) (List.length l) .any, (I6 next)], (I6 x)] ++ UU 35, []⟩ ?_
  refine AWP.reg (RT 4 ?_)
  refine AWP.seq (KL [0] ⟨[U6, (I6 x), .ptr 0 0, U6, .ptr 1 0, (I6 0), (I6 0)] ++ UU 30, [⟨[.sl (flsc l) (List.length l) .any, (I6 next)], 2, .fresh⟩, ⟨[.sl [] 0 .nil, (I6 0)], 2, .fresh⟩]⟩ ?_)
  refine AWP.reg (PI 2 (2 ≤ 2 ∧ True ∧ True) ⟨(by omega), trivial, trivial⟩ ?_)
  refine DerQ.callAI (found_u l next hx hn x h k hk hkx) ⟨by kernel_rfl, by kernel_rfl⟩ ?_
  refine RI (True ∧ True ∧ True ∧ True ∧ True ∧ True ∧ 4 ≤ 4 ∧ True ∧ True) ⟨trivial, trivial, trivial, trivial, trivial, trivial, (by omega), trivial, trivial⟩ ?_
  refine AWP.seq (AWP.seq (KL ([1] ++ NN 11 7) ⟨[U6, U6, .ptr 0 0, U6, .ptr 1 0, (I6 0), (I6 0), .ptr 6 0, .ptr 7 0, (I6 0)] ++ UU 27, [⟨[.sl (flsc l) (List.length l) .any, (I6 next)], 2, .fresh⟩, ⟨[.sl [] 0 .nil, (I6 0)], 2, .fresh⟩, ⟨[.sl (flsc l) (List.length l) .any, (I6 next)], 2, .fresh⟩, ⟨[(I6 ((List.getD l k fl0).num)), (I6 ((List.getD l k fl0).to)), .sl (u8s (List.getD l k fl0).d) (List.length (List.getD l k fl0).d) .any, (B6 ((List.getD l k fl0).sp))], 4, .fresh⟩, ⟨[.sl (flsc l) (List.length l) .any, (I6 next)], 2, .fresh⟩, ⟨mpc (idx l (List.length l)), 0, .map⟩, ⟨[.sl (flsc l) (List.length l) .any, (I6 next), .undef], 3, .fresh⟩, ⟨[(I6 ((List.getD l k fl0).num)), (I6 ((List.getD l k fl0).to)), .sl (u8s (List.getD l k fl0).d) (List.length (List.getD l k fl0).d) .any, (B6 ((List.getD l k fl0).sp))], 4, .fresh⟩]⟩ ?_))
  refine AWP.reg (RT 2 ?_)
  refine KL [18] ⟨[U6, U6, .ptr 0 0, U6, .ptr 1 0, (I6 0), (I6 0), .ptr 6 0, .ptr 7 0, (I6 0)] ++ UU 9 ++ [(B6 false)] ++ UU 17, [⟨[.sl (flsc l) (List.length l) .any, (I6 next)], 2, .fresh⟩, ⟨[.sl [] 0 .nil, (I6 0)], 2, .fresh⟩, ⟨[.sl (flsc l) (List.length l) .any, (I6 next)], 2, .fresh⟩, ⟨[(I6 ((List.getD l k fl0).num)), (I6 ((List.getD l k fl0).to)), .sl (u8s (List.getD l k fl0).d) (List.length (List.getD l k fl0).d) .any, (B6 ((List.getD l k fl0).sp))], 4, .fresh⟩, ⟨[.sl (flsc l) (List.length l) .any, (I6 next)], 2, .fresh⟩, ⟨mpc (idx l (List.length l)), 0, .map⟩, ⟨[.sl (flsc l) (List.length l) .any, (I6 next), .undef], 3, .fresh⟩, ⟨[(I6 ((List.getD l k fl0).num)), (I6 ((List.getD l k fl0).to)), .sl (u8s (List.getD l k fl0).d) (List.length (List.getD l k fl0).d) .any, (B6 ((List.getD l k fl0).sp))], 4, .fresh⟩]⟩ ?_
  refine CN false (fun h => nomatch h) (fun _ => ?_)
  refine AWP.skip (SQ (PI 2 (True ∧ 4 ≤ 4 ∧ True) ⟨trivial, (by omega), trivial⟩ ?_))
  refine DerQ.callK (add_full l next hx hn (List.getD l k fl0) hm) 6 [.ptr 6 0, .agg [(I6 ((List.getD l k fl0).num)), (I6 ((List.getD l k fl0).to)), .sl (u8s (List.getD l k fl0).d) (List.length (List.getD l k fl0).d) .any, (B6 ((List.getD l k fl0).sp))]] ⟨[U6, U6, .ptr 0 0, U6, .ptr 1 0, (I6 0), (I6 0), .ptr 6 0, .ptr 7 0, (I6 0)] ++ UU 9 ++ [(B6 false), U6, U6, U6, .ptr 6 0, .agg [(I6 ((List.getD l k fl0).num)), (I6 ((List.getD l k fl0).to)), .sl (u8s (List.getD l k fl0).d) (List.length (List.getD l k fl0).d) .any, (B6 ((List.getD l k fl0).sp))], .tup [(I6 0), (I6 4)]] ++ UU 11, [⟨[.sl (flsc l) (List.length l) .any, (I6 next)], 2, .fresh⟩, ⟨[.sl [] 0 .nil, (I6 0)], 2, .fresh⟩, ⟨[.sl (flsc l) (List.length l) .any, (I6 next)], 2, .fresh⟩, ⟨[(I6 ((List.getD l k fl0).num)), (I6 ((List.getD l k fl0).to)), .sl (u8s (List.getD l k fl0).d) (List.length (List.getD l k fl0).d) .any, (B6 ((List.getD l k fl0).sp))], 4, .fresh⟩, ⟨[.sl (flsc l) (List.length l) .any, (I6 next)], 2, .fresh⟩, ⟨mpc (idx l (List.length l)), 0, .map⟩, ⟨[.sl (flsc l) (List.length l) .any, (I6 next), .undef], 3, .fresh⟩, ⟨[(I6 ((List.getD l k fl0).num)), (I6 ((List.getD l k fl0).to)), .sl (u8s (List.getD l k fl0).d) (List.length (List.getD l k fl0).d) .any, (B6 ((List.getD l k fl0).sp))], 4, .fresh⟩]⟩ ⟨by kernel_rfl, by kernel_rfl, by kernel_rfl, by kernel_rfl, by kernel_rfl⟩ ?_
  refine RT 5 ?_
  refine AWP.seq (AWP.seq (KL ([8, 19] ++ NN 22 6) ⟨[U6, U6, .ptr 0 0, U6, .ptr 1 0, (I6 0), (I6 0), .ptr 6 0, U6, (I6 4), (I6 0)] ++ UU 26, [⟨[.sl (flsc l) (List.length l) .any, (I6 next)], 2, .fresh⟩, ⟨[.sl [] 0 .nil, (I6 0)], 2, .fresh⟩, ⟨[.sl (flsc l) (List.length l) .any, (I6 next)], 2, .fresh⟩, ⟨[(I6 ((List.getD l k fl0).num)), (I6 ((List.getD l k fl0).to)), .sl (u8s (List.getD l k fl0).d) (List.length (List.getD l k fl0).d) .any, (B6 ((List.getD l k fl0).sp))], 4, .fresh⟩, ⟨[.sl (flsc l) (List.length l) .any, (I6 next)], 2, .fresh⟩, ⟨mpc (idx l (List.length l)), 0, .map⟩, ⟨[.sl (flsc l) (List.length l) .any, (I6 next), .undef], 3, .fresh⟩, ⟨[(I6 ((List.getD l k fl0).num)), (I6 ((List.getD l k fl0).to)), .sl (u8s (List.getD l k fl0).d) (List.length (List.getD l k fl0).d) .any, (B6 ((List.getD l k fl0).sp))], 4, .fresh⟩]⟩ ?_))
  refine AWP.reg (RT 2 ?_)
  refine KL [28] ⟨[U6, U6, .ptr 0 0, U6, .ptr 1 0, (I6 0), (I6 0), .ptr 6 0, U6, (I6 4), (I6 0)] ++ UU 18 ++ [(B6 true)] ++ UU 7, [⟨[.sl (flsc l) (List.length l) .any, (I6 next)], 2, .fresh⟩, ⟨[.sl [] 0 .nil, (I6 0)], 2, .fresh⟩, ⟨[.sl (flsc l) (List.length l) .any, (I6 next)], 2, .fresh⟩, ⟨[(I6 ((List.getD l k fl0).num)), (I6 ((List.getD l k fl0).to)), .sl (u8s (List.getD l k fl0).d) (List.length (List.getD l k fl0).d) .any, (B6 ((List.getD l k fl0).sp))], 4, .fresh⟩, ⟨[.sl (flsc l) (List.length l) .any, (I6 next)], 2, .fresh⟩, ⟨mpc (idx l (List.length l)), 0, .map⟩, ⟨[.sl (flsc l) (List.length l) .any, (I6 next), .undef], 3, .fresh⟩, ⟨[(I6 ((List.getD l k fl0).num)), (I6 ((List.getD l k fl0).to)), .sl (u8s (List.getD l k fl0).d) (List.length (List.getD l k fl0).d) .any, (B6 ((List.getD l k fl0).sp))], 4, .fresh⟩]⟩ ?_
  refine CN true (fun _ => ?_) (fun h => nomatch h)
  refine SQ (RI (2 ≤ 2 ∧ True ∧ 2 ≤ 2 ∧ True ∧ True ∧ True) ⟨(by omega), trivial, (by omega), trivial, trivial, trivial⟩ ?_)
  refine AWP.ret FA
theorem double_ok (l : List FlD) (next : Int) (hx : l.length ≤ 1000) (hn : -9223372036854775808 ≤ next ∧ next ≤ 9223372036854775807) (x : Int) (h : okN next l) (k : Nat) (hk : k < l.length) (hkx : (l.getD k fl0).num = x) (hd : (l.getD k fl0).d.length ≤ 1000000) (hm : next < 1073741824) : EvD Try.prog 33 [.agg [.sl (flsc l) l.length .any, .sc (.int .i64 next)], .sc (.int .i64 x)] (.tup [.agg [.sl (flsc (addL l next (l.getD k fl0))) (addL l next (l.getD k fl0)).length .any, .sc (.int .i64 (next + 1))], .sc (.int .i64 next), .sc (.int .i64 0)]) := by
  have m1 := add_ok l next hx hn (List.getD l k fl0) hd hm
  rw [addL_len]
  refine EvD.body Try.func33 rfl (by simp [flc, dataAll, AVal.data, *]) (by simp [flc, dataAll, AVal.data, *]) ?_
  refine AWP.seq ?_
  refine TO ⟨[.agg [.sl (flsc l) (List.length l) .any, (I6 next)], (I6 x)] ++ UU 35, []⟩ ?_
  refine AWP.reg (RT 4 ?_)
  refine AWP.seq (KL [0] ⟨[U6, (I6 x), .ptr 0 0, U6, .ptr 1 0, (I6 0), (I6 0)] ++ UU 30, [⟨[.sl (flsc l) (List.length l) .any, (I6 next)], 2, .fresh⟩, ⟨[.sl [] 0 .nil, (I6 0)], 2, .fresh⟩]⟩ ?_)
  refine AWP.reg (PI 2 (2 ≤ 2 ∧ True ∧ True) ⟨(by omega), trivial, trivial⟩ ?_)
  refine DerQ.callAI (found_u l next hx hn x h k hk hkx) ⟨by kernel_rfl, by kernel_rfl⟩ ?_
  refine RI (True ∧ True ∧ True ∧ True ∧ True ∧ True ∧ 4 ≤ 4 ∧ True ∧ True) ⟨trivial, trivial, trivial, trivial, trivial, trivial, (by omega), trivial, trivial⟩ ?_
  refine AWP.seq (AWP.seq (KL ([1] ++ NN 11 7) ⟨[U6, U6, .ptr 0 0, U6, .ptr 1 0, (I6 0), (I6 0), .ptr 6 0, .ptr 7 0, (I6 0)] ++ UU 27, [⟨[.sl (flsc l) (List.length l) .any, (I6 next)], 2, .fresh⟩, ⟨[.sl [] 0 .nil, (I6 0)], 2, .fresh⟩, ⟨[.sl (flsc l) (List.length l) .any, (I6 next)], 2, .fresh⟩, ⟨[(I6 ((List.getD l k fl0).num)), (I6 ((List.getD l k fl0).to)), .sl (u8s (List.getD l k fl0).d) (List.length (List.getD l k fl0).d) .any, (B6 ((List.getD l k fl0).sp))], 4, .fresh⟩, ⟨[.sl (flsc l) (List.length l) .any, (I6 next)], 2, .fresh⟩, ⟨mpc (idx l (List.length l)), 0, .map⟩, ⟨[.sl (flsc l) (List.length l) .any, (I6 next), .undef], 3, .fresh⟩, ⟨[(I6 ((List.getD l k fl0).num)), (I6 ((List.getD l k fl0).to)), .sl (u8s (List.getD l k fl0).d) (List.length (List.getD l k fl0).d) .any, (B6 ((List.getD l k fl0).sp))], 4, .fresh⟩]⟩ ?_))
  refine AWP.reg (RT 2 ?_)
  refine KL [18] ⟨[U6, U6, .ptr 0 0, U6, .ptr 1 0, (I6 0), (I6 0), .ptr 6 0, .ptr 7 0, (I6 0)] ++ UU 9 ++ [(B6 false)] ++ UU 17, [⟨[.sl (flsc l) (List.length l) .any, (I6 next)], 2, .fresh⟩, ⟨[.sl [] 0 .nil, (I6 0)], 2, .fresh⟩, ⟨[.sl (flsc l) (List.length l) .any, (I6 next)], 2, .fresh⟩, ⟨[(I6 ((List.getD l k fl0).num)), (I6 ((List.getD l k fl0).to)), .sl (u8s (List.getD l k fl0).d) (List.length (List.getD l k fl0).d) .any, (B6 ((List.getD l k fl0).sp))], 4, .fresh⟩, ⟨[.sl (flsc l) (List.length l) .any, (I6 next)], 2, .fresh⟩, ⟨mpc (idx l (List.length l)), 0, .map⟩, ⟨[.sl (flsc l) (List.length l) .any, (I6 next), .undef], 3, .fresh⟩, ⟨[(I6 ((List.getD l k fl0).num)), (I6 ((List.getD l k fl0).to)), .sl (u8s (List.getD l k fl0).d) (List.length (List.getD l k fl0).d) .any, (B6 ((List.getD l k fl0).sp))], 4, .fresh⟩]⟩ ?_
  refine CN false (fun h => nomatch h) (fun _ => ?_)
  refine AWP.skip (SQ (PI 2 (True ∧ 4 ≤ 4 ∧ True) ⟨trivial, (by omega), trivial⟩ ?_))
  refine DerQ.callK (m1) 6 [.ptr 6 0, .agg [(I6 ((List.getD l k fl0).num)), (I6 ((List.getD l k fl0).to)), .sl (u8s (List.getD l k fl0).d) (List.length (List.getD l k fl0).d) .any, (B6 ((List.getD l k fl0).sp))]] ⟨[U6, U6, .ptr 0 0, U6, .ptr 1 0, (I6 0), (I6 0), .ptr 6 0, .ptr 7 0, (I6 0)] ++ UU 9 ++ [(B6 false), U6, U6, U6, .ptr 6 0, .agg [(I6 ((List.getD l k fl0).num)), (I6 ((List.getD l k fl0).to)), .sl (u8s (List.getD l k fl0).d) (List.length (List.getD l k fl0).d) .any, (B6 ((List.getD l k fl0).sp))], .tup [(I6 next), (I6 0)]] ++ UU 11, [⟨[.sl (flsc l) (List.length l) .any, (I6 next)], 2, .fresh⟩, ⟨[.sl [] 0 .nil, (I6 0)], 2, .fresh⟩, ⟨[.sl (flsc l) (List.length l) .any, (I6 next)], 2, .fresh⟩, ⟨[(I6 ((List.getD l k fl0).num)), (I6 ((List.getD l k fl0).to)), .sl (u8s (List.getD l k fl0).d) (List.length (List.getD l k fl0).d) .any, (B6 ((List.getD l k fl0).sp))], 4, .fresh⟩, ⟨[.sl (flsc l) (List.length l) .any, (I6 next)], 2, .fresh⟩, ⟨mpc (idx l (List.length l)), 0, .map⟩, ⟨[.sl (flsc (addL l next (List.getD l k fl0))) (List.length l + 1) .any, (I6 (next + 1)), .undef], 3, .fresh⟩, ⟨[(I6 ((List.getD l k fl0).num)), (I6 ((List.getD l k fl0).to)), .sl (u8s (List.getD l k fl0).d) (List.length (List.getD l k fl0).d) .any, (B6 ((List.getD l k fl0).sp))], 4, .fresh⟩]⟩ ⟨by kernel_rfl, by kernel_rfl, by kernel_rfl, by kernel_rfl, by kernel_rfl⟩ ?_
  refine DerQ.run (TT 5) ⟨[U6, U6, .ptr 0 0, U6, .ptr 1 0, (I6 0), (I6 0), .ptr 6 0, .ptr 7 0, (I6 0), (I6 next)] ++ UU 8 ++ [(B6 false), U6, U6, .tup [(I6 next), (I6 0)], .ptr 6 0, .agg [(I6 ((List.getD l k fl0).num)), (I6 ((List.getD l k fl0).to)), .sl (u8s (List.getD l k fl0).d) (List.length (List.getD l k fl0).d) .any, (B6 ((List.getD l k fl0).sp))], .tup [(I6 next), (I6 0)], (I6 next), (I6 0)] ++ UU 9, [⟨[.sl (flsc l) (List.length l) .any, (I6 next)], 2, .fresh⟩, ⟨[.sl [] 0 .nil, (I6 0)], 2, .fresh⟩, ⟨[.sl (flsc l) (List.length l) .any, (I6 next)], 2, .fresh⟩, ⟨[(I6 ((List.getD l k fl0).num)), (I6 ((List.getD l k fl0).to)), .sl (u8s (List.getD l k fl0).d) (List.length (List.getD l k fl0).d) .any, (B6 ((List.getD l k fl0).sp))], 4, .fresh⟩, ⟨[.sl (flsc l) (List.length l) .any, (I6 next)], 2, .fresh⟩, ⟨mpc (idx l (List.length l)), 0, .map⟩, ⟨[.sl (flsc (addL l next (List.getD l k fl0))) (List.length l + 1) .any, (I6 (next + 1)), .undef], 3, .fresh⟩, ⟨[(I6 ((List.getD l k fl0).num)), (I6 ((List.getD l k fl0).to)), .sl (u8s (List.getD l k fl0).d) (List.length (List.getD l k fl0).d) .any, (B6 ((List.getD l k fl0).sp))], 4, .fresh⟩]⟩ (by kernel_rfl) (tt 5) ?_
  refine AWP.seq (AWP.seq (KL ([8, 19] ++ NN 22 6) ⟨[U6, U6, .ptr 0 0, U6, .ptr 1 0, (I6 0), (I6 0), .ptr 6 0, U6, (I6 0), (I6 next)] ++ UU 26, [⟨[.sl (flsc l) (List.length l) .any, (I6 next)], 2, .fresh⟩, ⟨[.sl [] 0 .nil, (I6 0)], 2, .fresh⟩, ⟨[.sl (flsc l) (List.length l) .any, (I6 next)], 2, .fresh⟩, ⟨[(I6 ((List.getD l k fl0).num)), (I6 ((List.getD l k fl0).to)), .sl (u8s (List.getD l k fl0).d) (List.length (List.getD l k fl0).d) .any, (B6 ((List.getD l k fl0).sp))], 4, .fresh⟩, ⟨[.sl (flsc l) (List.length l) .any, (I6 next)], 2, .fresh⟩, ⟨mpc (idx l (List.length l)), 0, .map⟩, ⟨[.sl (flsc (addL l next (List.getD l k fl0))) (List.length l + 1) .any, (I6 (next + 1)), .undef], 3, .fresh⟩, ⟨[(I6 ((List.getD l k fl0).num)), (I6 ((List.getD l k fl0).to)), .sl (u8s (List.getD l k fl0).d) (List.length (List.getD l k fl0).d) .any, (B6 ((List.getD l k fl0).sp))], 4, .fresh⟩]⟩ ?_))
  refine AWP.reg ?_
  refine DerQ.run (TT 2) ⟨[U6, U6, .ptr 0 0, U6, .ptr 1 0, (I6 0), (I6 0), .ptr 6 0, U6, (I6 0), (I6 next)] ++ UU 17 ++ [(I6 0), (B6 false)] ++ UU 7, [⟨[.sl (flsc l) (List.length l) .any, (I6 next)], 2, .fresh⟩, ⟨[.sl [] 0 .nil, (I6 0)], 2, .fresh⟩, ⟨[.sl (flsc l) (List.length l) .any, (I6 next)], 2, .fresh⟩, ⟨[(I6 ((List.getD l k fl0).num)), (I6 ((List.getD l k fl0).to)), .sl (u8s (List.getD l k fl0).d) (List.length (List.getD l k fl0).d) .any, (B6 ((List.getD l k fl0).sp))], 4, .fresh⟩, ⟨[.sl (flsc l) (List.length l) .any, (I6 next)], 2, .fresh⟩, ⟨mpc (idx l (List.length l)), 0, .map⟩, ⟨[.sl (flsc (addL l next (List.getD l k fl0))) (List.length l + 1) .any, (I6 (next + 1)), .undef], 3, .fresh⟩, ⟨[(I6 ((List.getD l k fl0).num)), (I6 ((List.getD l k fl0).to)), .sl (u8s (List.getD l k fl0).d) (List.length (List.getD l k fl0).d) .any, (B6 ((List.getD l k fl0).sp))], 4, .fresh⟩]⟩ (by kernel_rfl) (tt 2) ?_
  refine CN false (fun h => nomatch h) (fun _ => ?_)
  refine KL [2, 9, 28, 29] ⟨[U6, U6, U6, U6, .ptr 1 0, (I6 0), (I6 0), .ptr 6 0, U6, U6, (I6 next)] ++ UU 26, [⟨[.sl (flsc l) (List.length l) .any, (I6 next)], 2, .fresh⟩, ⟨[.sl [] 0 .nil, (I6 0)], 2, .fresh⟩, ⟨[.sl (flsc l) (List.length l) .any, (I6 next)], 2, .fresh⟩, ⟨[(I6 ((List.getD l k fl0).num)), (I6 ((List.getD l k fl0).to)), .sl (u8s (List.getD l k fl0).d) (List.length (List.getD l k fl0).d) .any, (B6 ((List.getD l k fl0).sp))], 4, .fresh⟩, ⟨[.sl (flsc l) (List.length l) .any, (I6 next)], 2, .fresh⟩, ⟨mpc (idx l (List.length l)), 0, .map⟩, ⟨[.sl (flsc (addL l next (List.getD l k fl0))) (List.length l + 1) .any, (I6 (next + 1)), .undef], 3, .fresh⟩, ⟨[(I6 ((List.getD l k fl0).num)), (I6 ((List.getD l k fl0).to)), .sl (u8s (List.getD l k fl0).d) (List.length (List.getD l k fl0).d) .any, (B6 ((List.getD l k fl0).sp))], 4, .fresh⟩]⟩ ?_
  refine AWP.skip (SQ ?_)
  refine DerQ.run (True ∧ True ∧ True ∧ 2 ≤ 3 ∧ True ∧ 2 ≤ 2 ∧ True ∧ True ∧ True) ⟨[U6, U6, U6, U6, .ptr 1 0, (I6 next), (I6 0), .ptr 6 0, U6, U6, (I6 next)] ++ UU 21 ++ [.ptr 6 0, .ptr 6 0, .ptr 6 0, .agg [.sl (flsc (addL l next (List.getD l k fl0))) (List.length l + 1) .any, (I6 (next + 1))], (I6 next)], [⟨[.sl (flsc l) (List.length l) .any, (I6 next)], 2, .fresh⟩, ⟨[.sl (flsc (addL l next (List.getD l k fl0))) (List.length l + 1) .any, (I6 (next + 1))], 2, .fresh⟩, ⟨[.sl (flsc l) (List.length l) .any, (I6 next)], 2, .fresh⟩, ⟨[(I6 ((List.getD l k fl0).num)), (I6 ((List.getD l k fl0).to)), .sl (u8s (List.getD l k fl0).d) (List.length (List.getD l k fl0).d) .any, (B6 ((List.getD l k fl0).sp))], 4, .fresh⟩, ⟨[.sl (flsc l) (List.length l) .any, (I6 next)], 2, .fresh⟩, ⟨mpc (idx l (List.length l)), 0, .map⟩, ⟨[.sl (flsc (addL l next (List.getD l k fl0))) (List.length l + 1) .any, (I6 (next + 1)), .undef], 3, .fresh⟩, ⟨[(I6 ((List.getD l k fl0).num)), (I6 ((List.getD l k fl0).to)), .sl (u8s (List.getD l k fl0).d) (List.length (List.getD l k fl0).d) .any, (B6 ((List.getD l k fl0).sp))], 4, .fresh⟩]⟩ (by kernel_rfl) ⟨trivial, trivial, trivial, (by omega), trivial, (by omega), trivial, trivial, trivial⟩ ?_
  refine KL ([7, 10] ++ NN 32 5) ⟨[U6, U6, U6, U6, .ptr 1 0, (I6 next), (I6 0)] ++ UU 30, [⟨[.sl (flsc l) (List.length l) .any, (I6 next)], 2, .fresh⟩, ⟨[.sl (flsc (addL l next (List.getD l k fl0))) (List.length l + 1) .any, (I6 (next + 1))], 2, .fresh⟩, ⟨[.sl (flsc l) (List.length l) .any, (I6 next)], 2, .fresh⟩, ⟨[(I6 ((List.getD l k fl0).num)), (I6 ((List.getD l k fl0).to)), .sl (u8s (List.getD l k fl0).d) (List.length (List.getD l k fl0).d) .any, (B6 ((List.getD l k fl0).sp))], 4, .fresh⟩, ⟨[.sl (flsc l) (List.length l) .any, (I6 next)], 2, .fresh⟩, ⟨mpc (idx l (List.length l)), 0, .map⟩, ⟨[.sl (flsc (addL l next (List.getD l k fl0))) (List.length l + 1) .any, (I6 (next + 1)), .undef], 3, .fresh⟩, ⟨[(I6 ((List.getD l k fl0).num)), (I6 ((List.getD l k fl0).to)), .sl (u8s (List.getD l k fl0).d) (List.length (List.getD l k fl0).d) .any, (B6 ((List.getD l k fl0).sp))], 4, .fresh⟩]⟩ ?_
  refine AWP.ret FA
end Go.Net
