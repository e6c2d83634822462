/- Walks and laws. -/
import Derived.Test.YtmcjdeiicbgmhabChB4
import Derived.Test.YtmcjdeiicbgmhabLibB
set_option maxRecDepth 100000
set_option maxHeartbeats 0
set_option linter.unusedSimpArgs false
set_option linter.unusedVariables false
namespace Go.Chu
open Go Go.Abs Go.Proofs
theorem dec_no {p : Prop} [Decidable p] (h : ¬ p) : AVal.sc (.bool false) = .sc (.bool (decide p)) := by rw [decide_eq_false h]
theorem dec_yes {p : Prop} [Decidable p] (h : p) : AVal.sc (.bool true) = .sc (.bool (decide p)) := by rw [decide_eq_true h]
theorem r_done (f m o : Int) (l : List (List Int)) : EvD Try.prog 24 [.agg [.sc (.int .i64 f), .sc (.int .i64 m), .sc (.int .i64 o), .sl (bss l) l.length .any]] (.sc (.bool (decide (0 < o ∧ o = l.length)))) := by
  refine EvD.body Try.func24 rfl rfl rfl ?_
  refine AWP.seq ?_
  refine TO ⟨[.agg [(I6 f), (I6 m), (I6 o), .sl (bss l) (List.length l) .any]] ++ UU 13, []⟩ ?_
  refine AWP.reg (RT 2 ?_)
  refine AWP.seq (KL [0] ⟨[U6, .ptr 0 0, (B6 false)] ++ UU 11, [⟨[(I6 f), (I6 m), (I6 o), .sl (bss l) (List.length l) .any], 4, .fresh⟩]⟩ ?_)
  refine AWP.reg (PI 4 (True ∧ 2 < 4 ∧ True ∧ True ∧ True) ⟨trivial, (by omega), trivial, trivial, trivial⟩ ?_)
  refine DerQ.to ⟨[U6, .ptr 0 0, (B6 false), .ptr 0 2, (I6 o), (B6 (decide (o > 0))), (B6 (decide (o > 0)))] ++ UU 7, [⟨[(I6 f), (I6 m), (I6 o), .sl (bss l) (List.length l) .any], 4, .fresh⟩]⟩ (by kernel_rfl) ?_
  cases h1 : (decide (o > 0))
  · have h1' := of_decide_eq_false h1
    refine RT 2 ?_
    refine AWP.ret ?_
    refine FI (.sc (.bool false)) ?_
    refine Shrink.all ?_ rfl
    (exact dec_no (by omega); done)
  · have h1' := of_decide_eq_true h1
    refine RI (True ∧ 3 < 4 ∧ True ∧ True ∧ 2 < 4 ∧ True ∧ True ∧ True ∧ True) ⟨trivial, (by omega), trivial, trivial, (by omega), trivial, trivial, trivial, trivial⟩ ?_
    refine AWP.ret ?_
    refine FI (.sc (.bool ((↑(List.length l) : Int) == o))) ?_
    refine Shrink.all ?_ rfl
    (congr 2; grind; done)
theorem r_piece_yes (g : Gate) (f m o n to : Int) (l : List (List Int)) (h : (0 ≤ n ∧ n < o) ∧ n < l.length) : EvD Try.prog 13 [.agg [.sc (.int .i64 f), .sc (.int .i64 m), .sc (.int .i64 o), .sl (bss l) l.length .any], .sc (.int .i64 n), .sc (.int .i64 to)] (.tup [.agg (msgc g (pieceM 4 f to m n o (l.getD n.toNat []))), .sc (.bool true)]) := by
  refine EvD.body Try.func13 rfl rfl (by simp [dataAll, AVal.data]) ?_
  refine AWP.seq ?_
  refine TO ⟨[.agg [(I6 f), (I6 m), (I6 o), .sl (bss l) (List.length l) .any], (I6 n), (I6 to)] ++ UU 35, []⟩ ?_
  refine AWP.reg (RT 3 ?_)
  refine AWP.seq (AWP.seq (KL [0] ⟨[U6, (I6 n), (I6 to), .ptr 0 0, U6, U6, .ptr 1 0, (B6 false)] ++ UU 30, [⟨[(I6 f), (I6 m), (I6 o), .sl (bss l) (List.length l) .any], 4, .fresh⟩, ⟨[(I6 0), (I6 0), (I6 0), (I6 0), (I6 0), (I6 0), (I6 0), (I6 0), (I6 0), (I6 0), (I6 0), (I6 0), (I6 0), (I6 0), (I6 0), (I6 0), (I6 0), (I6 0), (I6 0), .sl [] 0 .nil, (I6 0), (I6 0), (I6 0), (I6 0), (I6 0), (I6 0), (I6 0), (I6 0), (I6 0), (I6 0), (I6 0), (I6 0), (I6 0), (I6 0), (I6 0), (I6 0), (I6 0), (I6 0), (I6 0), (I6 0), (I6 0), (I6 0), (I6 0), (I6 0), (I6 0), (I6 0), (B6 false), (I6 0), (I6 0), (I6 0), .sl [] 0 .nil, (I6 0), .sl [] 0 .nil, (I6 0), .sl [] 0 .nil, .sl [] 0 .nil], 56, .fresh⟩]⟩ ?_))
  refine AWP.reg (PT 3 3 ?_)
  refine DerQ.to ⟨[U6, (I6 n), (I6 to), .ptr 0 0, U6, U6, .ptr 1 0, (B6 false), (I6 n), (B6 (decide (n < 0))), (B6 (decide (n < 0)))] ++ UU 27, [⟨[(I6 f), (I6 m), (I6 o), .sl (bss l) (List.length l) .any], 4, .fresh⟩, ⟨[(I6 0), (I6 0), (I6 0), (I6 0), (I6 0), (I6 0), (I6 0), (I6 0), (I6 0), (I6 0), (I6 0), (I6 0), (I6 0), (I6 0), (I6 0), (I6 0), (I6 0), (I6 0), (I6 0), .sl [] 0 .nil, (I6 0), (I6 0), (I6 0), (I6 0), (I6 0), (I6 0), (I6 0), (I6 0), (I6 0), (I6 0), (I6 0), (I6 0), (I6 0), (I6 0), (I6 0), (I6 0), (I6 0), (I6 0), (I6 0), (I6 0), (I6 0), (I6 0), (I6 0), (I6 0), (I6 0), (I6 0), (B6 false), (I6 0), (I6 0), (I6 0), .sl [] 0 .nil, (I6 0), .sl [] 0 .nil, (I6 0), .sl [] 0 .nil, .sl [] 0 .nil], 56, .fresh⟩]⟩ (by kernel_rfl) ?_
  cases h1 : (decide (n < 0))
  · have h1' := of_decide_eq_false h1
    refine PI 6 (True ∧ True ∧ 2 < 4 ∧ True ∧ True ∧ True ∧ True) ⟨trivial, trivial, (by omega), trivial, trivial, trivial, trivial⟩ ?_
    refine DerQ.to ⟨[U6, (I6 n), (I6 to), .ptr 0 0, U6, U6, .ptr 1 0, (B6 false), (I6 n), (B6 false), (B6 false), (I6 n), .ptr 0 2, (I6 o), (B6 (decide (n ≥ o))), (B6 (decide (n ≥ o))), (B6 (decide (n ≥ o)))] ++ UU 21, [⟨[(I6 f), (I6 m), (I6 o), .sl (bss l) (List.length l) .any], 4, .fresh⟩, ⟨[(I6 0), (I6 0), (I6 0), (I6 0), (I6 0), (I6 0), (I6 0), (I6 0), (I6 0), (I6 0), (I6 0), (I6 0), (I6 0), (I6 0), (I6 0), (I6 0), (I6 0), (I6 0), (I6 0), .sl [] 0 .nil, (I6 0), (I6 0), (I6 0), (I6 0), (I6 0), (I6 0), (I6 0), (I6 0), (I6 0), (I6 0), (I6 0), (I6 0), (I6 0), (I6 0), (I6 0), (I6 0), (I6 0), (I6 0), (I6 0), (I6 0), (I6 0), (I6 0), (I6 0), (I6 0), (I6 0), (I6 0), (B6 false), (I6 0), (I6 0), (I6 0), .sl [] 0 .nil, (I6 0), .sl [] 0 .nil, (I6 0), .sl [] 0 .nil, .sl [] 0 .nil], 56, .fresh⟩]⟩ (by kernel_rfl) ?_
    cases h2 : (decide (n ≥ o))
    · have h2' := of_decide_eq_false h2
      refine RI (True ∧ True ∧ 3 < 4 ∧ True ∧ True ∧ True ∧ True) ⟨trivial, trivial, (by omega), trivial, trivial, trivial, trivial⟩ ?_
      refine KL (NN 8 14) ⟨[U6, (I6 n), (I6 to), .ptr 0 0, U6, U6, .ptr 1 0, (B6 false)] ++ UU 14 ++ [(B6 (decide (n ≥ (↑(List.length l) : Int))))] ++ UU 15, [⟨[(I6 f), (I6 m), (I6 o), .sl (bss l) (List.length l) .any], 4, .fresh⟩, ⟨[(I6 0), (I6 0), (I6 0), (I6 0), (I6 0), (I6 0), (I6 0), (I6 0), (I6 0), (I6 0), (I6 0), (I6 0), (I6 0), (I6 0), (I6 0), (I6 0), (I6 0), (I6 0), (I6 0), .sl [] 0 .nil, (I6 0), (I6 0), (I6 0), (I6 0), (I6 0), (I6 0), (I6 0), (I6 0), (I6 0), (I6 0), (I6 0), (I6 0), (I6 0), (I6 0), (I6 0), (I6 0), (I6 0), (I6 0), (I6 0), (I6 0), (I6 0), (I6 0), (I6 0), (I6 0), (I6 0), (I6 0), (B6 false), (I6 0), (I6 0), (I6 0), .sl [] 0 .nil, (I6 0), .sl [] 0 .nil, (I6 0), .sl [] 0 .nil, .sl [] 0 .nil], 56, .fresh⟩]⟩ ?_
      refine CN (decide (n ≥ (↑(List.length l) : Int))) (fun h3 => ?_) (fun h3 => ?_)
      · have h3' := of_decide_eq_true h3
        exfalso; omega
      · have h3' := of_decide_eq_false h3
        refine AWP.skip (AWP.seq ?_)
        refine AWP.drawB mixed (fun o => if [].contains (o.dst.getD 0) then 1 else if [].contains (o.dst.getD 0) then 2 else if [0].contains (o.dst.getD 0) then 3 else 0) 0 2 (fun x => [⟨[(I6 f), (I6 m), (I6 o), .sl (bss l) (List.length l) .any], 4, .fresh⟩, ⟨x 1, 56, .fresh⟩]) ⟨[U6, (I6 n), (I6 to), .ptr 0 0, U6, U6, .ptr 1 0, (B6 false)] ++ UU 14 ++ [(B6 (decide (n ≥ (↑(List.length l) : Int))))] ++ UU 15, [⟨[(I6 f), (I6 m), (I6 o), .sl (bss l) (List.length l) .any], 4, .fresh⟩, ⟨[(I6 0), (I6 0), (I6 0), (I6 0), (I6 0), (I6 0), (I6 0), (I6 0), (I6 0), (I6 0), (I6 0), (I6 0), (I6 0), (I6 0), (I6 0), (I6 0), (I6 0), (I6 0), (I6 0), .sl [] 0 .nil, (I6 0), (I6 0), (I6 0), (I6 0), (I6 0), (I6 0), (I6 0), (I6 0), (I6 0), (I6 0), (I6 0), (I6 0), (I6 0), (I6 0), (I6 0), (I6 0), (I6 0), (I6 0), (I6 0), (I6 0), (I6 0), (I6 0), (I6 0), (I6 0), (I6 0), (I6 0), (B6 false), (I6 0), (I6 0), (I6 0), .sl [] 0 .nil, (I6 0), .sl [] 0 .nil, (I6 0), .sl [] 0 .nil, .sl [] 0 .nil], 56, .fresh⟩]⟩ (by kernel_rfl) ⟨by kernel_rfl, by kernel_rfl⟩ (by kernel_rfl) ?_
        refine DerZ.pre 13 ((True) ∧ (((0 : Nat) < (4 : Nat)) ∧ ((True) ∧ ((True) ∧ (((1 : Nat) < (4 : Nat)) ∧ ((True) ∧ ((True) ∧ (((2 : Nat) < (4 : Nat)) ∧ ((True) ∧ (((3 : Nat) < (4 : Nat)) ∧ ((True) ∧ ((((0 ≤ n) ∧ (n < (↑(List.length l) : Int))) ∧ (Int.toNat n * 1 + 1 ≤ List.length (bss l))) ∧ (((0 : Nat) < (1 : Nat)) ∧ (True)))))))))))))) [.ptr 0 0, (I6 f), (I6 to), .ptr 0 1, (I6 m), (I6 n), .ptr 0 2, (I6 o), .ptr 0 3, .sl (bss l) (List.length l) .any, (I6 n), .dptr [List.getD (bss l) (Int.toNat n * 1 + 0) AVal.undef], List.getD [List.getD (bss l) (Int.toNat n * 1 + 0) AVal.undef] 0 AVal.undef] ⟨[U6, (I6 n), (I6 to), .ptr 0 0, U6, U6, .ptr 1 0, (B6 false)] ++ UU 14 ++ [(B6 (decide (n ≥ (↑(List.length l) : Int)))), U6, .ptr 0 0, (I6 f), (I6 to), .ptr 0 1, (I6 m), (I6 n), .ptr 0 2, (I6 o), .ptr 0 3, .sl (bss l) (List.length l) .any, (I6 n), .dptr [List.getD (bss l) (Int.toNat n * 1 + 0) AVal.undef], List.getD (bss l) (Int.toNat n * 1 + 0) U6, .undef], [⟨[(I6 f), (I6 m), (I6 o), .sl (bss l) (List.length l) .any], 4, .fresh⟩, ⟨[(I6 0), (I6 0), (I6 0), (I6 0), (I6 0), (I6 0), (I6 0), (I6 0), (I6 0), (I6 0), (I6 0), (I6 0), (I6 0), (I6 0), (I6 0), (I6 0), (I6 0), (I6 0), (I6 0), .sl [] 0 .nil, (I6 0), (I6 0), (I6 0), (I6 0), (I6 0), (I6 0), (I6 0), (I6 0), (I6 0), (I6 0), (I6 0), (I6 0), (I6 0), (I6 0), (I6 0), (I6 0), (I6 0), (I6 0), (I6 0), (I6 0), (I6 0), (I6 0), (I6 0), (I6 0), (I6 0), (I6 0), (B6 false), (I6 0), (I6 0), (I6 0), .sl [] 0 .nil, (I6 0), .sl [] 0 .nil, (I6 0), .sl [] 0 .nil, .sl [] 0 .nil], 56, .fresh⟩]⟩ (by intro x ext; kernel_rfl) (by kernel_rfl) ⟨trivial, ⟨(by omega), ⟨trivial, ⟨trivial, ⟨(by omega), ⟨trivial, ⟨trivial, ⟨(by omega), ⟨trivial, ⟨(by omega), ⟨trivial, ⟨⟨⟨(by omega), (by omega)⟩, (by (simp [spliceA_length] <;> omega))⟩, ⟨(by omega), trivial⟩⟩⟩⟩⟩⟩⟩⟩⟩⟩⟩⟩⟩ ?_
        rw [Nat.mul_one (Int.toNat n)]
        rw [Nat.add_zero (Int.toNat n)]
        rw [Go.Chu.bss_getD (l) (Int.toNat n) (by omega)]
        refine DerZ.quietI (True) (by intro x ext; kernel_rfl) (by kernel_rfl) trivial ?_
        refine DerZ.effI 2 ((56 : Nat) ≤ (56 : Nat)) (by kernel_rfl) ⟨⟨by kernel_rfl, by kernel_rfl⟩, by kernel_rfl⟩ (by omega) ?_
        refine DerZ.quietI (True) (by intro x ext; kernel_rfl) (by kernel_rfl) trivial ?_
        refine DerZ.nil ?_
        refine AWP.ret ?_
        refine FI (.tup [.agg [.sc (.int .i64 4), .sc (.int .i64 (f)), .sc (.int .i64 (to)), .sc (.int .i64 0), .sc (.int .i64 0), .sc (.int .i64 0), .sc (.int .i64 0), .sc (.int .i64 0), .sc (.int .i64 0), .sc (.int .i64 0), .sc (.int .i64 0), .sc (.int .i64 0), .sc (.int .i64 0), .sc (.int .i64 0), .sc (.int .i64 0), .sc (.int .i64 0), .sc (.int .i64 0), .sc (.int .i64 0), .sc (.int .i64 0), .sl [] 0 .nil, .sc (.int .i64 0), .sc (.int .i64 0), .sc (.int .i64 0), .sc (.int .i64 0), .sc (.int .i64 0), .sc (.int .i64 0), .sc (.int .i64 0), .sc (.int .i64 0), .sc (.int .i64 0), .sc (.int .i64 0), .sc (.int .i64 0), .sc (.int .i64 0), .sc (.int .i64 0), .sc (.int .i64 0), .sc (.int .i64 0), .sc (.int .i64 0), .sc (.int .i64 0), .sc (.int .i64 0), .sc (.int .i64 0), .sc (.int .i64 0), .sc (.int .i64 0), .sc (.int .i64 0), .sc (.int .i64 0), .sc (.int .i64 0), .sc (.int .i64 0), .sc (.int .i64 0), .sc (.bool false), .sc (.int .i64 (m)), .sc (.int .i64 (n)), .sc (.int .i64 (o)), .sl (u8s (List.getD l (Int.toNat n) [])) (List.length (List.getD l (Int.toNat n) [])) .any, .sc (.int .i64 0), .sl [] 0 .nil, .sc (.int .i64 0), .sl [] 0 .nil, .sl [] 0 .nil], .sc (.bool true)]) ?_
        refine Shrink.dataK [] (True) (.tup [.agg [.sc (.int .i64 4), .sc (.int .i64 (f)), .sc (.int .i64 (to)), .sc (.int .i64 0), .sc (.int .i64 0), .sc (.int .i64 0), .sc (.int .i64 0), .sc (.int .i64 0), .sc (.int .i64 0), .sc (.int .i64 0), .sc (.int .i64 0), .sc (.int .i64 0), .sc (.int .i64 0), .sc (.int .i64 0), .sc (.int .i64 0), .sc (.int .i64 0), .sc (.int .i64 0), .sc (.int .i64 0), .sc (.int .i64 0), .sl [] 0 .nil, .sc (.int .i64 0), .sc (.int .i64 0), .sc (.int .i64 0), .sc (.int .i64 0), .sc (.int .i64 0), .sc (.int .i64 0), .sc (.int .i64 0), .sc (.int .i64 0), .sc (.int .i64 0), .sc (.int .i64 0), .sc (.int .i64 0), .sc (.int .i64 0), .sc (.int .i64 0), .sc (.int .i64 0), .sc (.int .i64 0), .sc (.int .i64 0), .sc (.int .i64 0), .sc (.int .i64 0), .sc (.int .i64 0), .sc (.int .i64 0), .sc (.int .i64 0), .sc (.int .i64 0), .sc (.int .i64 0), .sc (.int .i64 0), .sc (.int .i64 0), .sc (.int .i64 0), .sc (.bool false), .sc (.int .i64 (m)), .sc (.int .i64 (n)), .sc (.int .i64 (o)), .sl (u8s (List.getD l (Int.toNat n) [])) (List.length (List.getD l (Int.toNat n) [])) .any, .sc (.int .i64 0), .sl [] 0 .nil, .sc (.int .i64 0), .sl [] 0 .nil, .sl [] 0 .nil], .sc (.bool true)]) (by kernel_rfl) trivial ?_ (by simp [AVal.data, dataAll])
        (rw [msgc_eq]; rfl; done)
    · have h2' := of_decide_eq_true h2
      exfalso; omega
  · have h1' := of_decide_eq_true h1
    exfalso; omega
theorem r_piece_no (g : Gate) (f m o n to : Int) (l : List (List Int)) (h : ¬ ((0 ≤ n ∧ n < o) ∧ n < l.length)) : EvD Try.prog 13 [.agg [.sc (.int .i64 f), .sc (.int .i64 m), .sc (.int .i64 o), .sl (bss l) l.length .any], .sc (.int .i64 n), .sc (.int .i64 to)] (.tup [.agg (msgc g (pieceM 0 0 0 0 0 0 [])), .sc (.bool false)]) := by
  refine EvD.body Try.func13 rfl rfl (by simp [dataAll, AVal.data]) ?_
  refine AWP.seq ?_
  refine TO ⟨[.agg [(I6 f), (I6 m), (I6 o), .sl (bss l) (List.length l) .any], (I6 n), (I6 to)] ++ UU 35, []⟩ ?_
  refine AWP.reg (RT 3 ?_)
  refine AWP.seq (AWP.seq (KL [0] ⟨[U6, (I6 n), (I6 to), .ptr 0 0, U6, U6, .ptr 1 0, (B6 false)] ++ UU 30, [⟨[(I6 f), (I6 m), (I6 o), .sl (bss l) (List.length l) .any], 4, .fresh⟩, ⟨[(I6 0), (I6 0), (I6 0), (I6 0), (I6 0), (I6 0), (I6 0), (I6 0), (I6 0), (I6 0), (I6 0), (I6 0), (I6 0), (I6 0), (I6 0), (I6 0), (I6 0), (I6 0), (I6 0), .sl [] 0 .nil, (I6 0), (I6 0), (I6 0), (I6 0), (I6 0), (I6 0), (I6 0), (I6 0), (I6 0), (I6 0), (I6 0), (I6 0), (I6 0), (I6 0), (I6 0), (I6 0), (I6 0), (I6 0), (I6 0), (I6 0), (I6 0), (I6 0), (I6 0), (I6 0), (I6 0), (I6 0), (B6 false), (I6 0), (I6 0), (I6 0), .sl [] 0 .nil, (I6 0), .sl [] 0 .nil, (I6 0), .sl [] 0 .nil, .sl [] 0 .nil], 56, .fresh⟩]⟩ ?_))
  refine AWP.reg (PT 3 3 ?_)
  refine DerQ.to ⟨[U6, (I6 n), (I6 to), .ptr 0 0, U6, U6, .ptr 1 0, (B6 false), (I6 n), (B6 (decide (n < 0))), (B6 (decide (n < 0)))] ++ UU 27, [⟨[(I6 f), (I6 m), (I6 o), .sl (bss l) (List.length l) .any], 4, .fresh⟩, ⟨[(I6 0), (I6 0), (I6 0), (I6 0), (I6 0), (I6 0), (I6 0), (I6 0), (I6 0), (I6 0), (I6 0), (I6 0), (I6 0), (I6 0), (I6 0), (I6 0), (I6 0), (I6 0), (I6 0), .sl [] 0 .nil, (I6 0), (I6 0), (I6 0), (I6 0), (I6 0), (I6 0), (I6 0), (I6 0), (I6 0), (I6 0), (I6 0), (I6 0), (I6 0), (I6 0), (I6 0), (I6 0), (I6 0), (I6 0), (I6 0), (I6 0), (I6 0), (I6 0), (I6 0), (I6 0), (I6 0), (I6 0), (B6 false), (I6 0), (I6 0), (I6 0), .sl [] 0 .nil, (I6 0), .sl [] 0 .nil, (I6 0), .sl [] 0 .nil, .sl [] 0 .nil], 56, .fresh⟩]⟩ (by kernel_rfl) ?_
  cases h1 : (decide (n < 0))
  · have h1' := of_decide_eq_false h1
    refine PI 6 (True ∧ True ∧ 2 < 4 ∧ True ∧ True ∧ True ∧ True) ⟨trivial, trivial, (by omega), trivial, trivial, trivial, trivial⟩ ?_
    refine DerQ.to ⟨[U6, (I6 n), (I6 to), .ptr 0 0, U6, U6, .ptr 1 0, (B6 false), (I6 n), (B6 false), (B6 false), (I6 n), .ptr 0 2, (I6 o), (B6 (decide (n ≥ o))), (B6 (decide (n ≥ o))), (B6 (decide (n ≥ o)))] ++ UU 21, [⟨[(I6 f), (I6 m), (I6 o), .sl (bss l) (List.length l) .any], 4, .fresh⟩, ⟨[(I6 0), (I6 0), (I6 0), (I6 0), (I6 0), (I6 0), (I6 0), (I6 0), (I6 0), (I6 0), (I6 0), (I6 0), (I6 0), (I6 0), (I6 0), (I6 0), (I6 0), (I6 0), (I6 0), .sl [] 0 .nil, (I6 0), (I6 0), (I6 0), (I6 0), (I6 0), (I6 0), (I6 0), (I6 0), (I6 0), (I6 0), (I6 0), (I6 0), (I6 0), (I6 0), (I6 0), (I6 0), (I6 0), (I6 0), (I6 0), (I6 0), (I6 0), (I6 0), (I6 0), (I6 0), (I6 0), (I6 0), (B6 false), (I6 0), (I6 0), (I6 0), .sl [] 0 .nil, (I6 0), .sl [] 0 .nil, (I6 0), .sl [] 0 .nil, .sl [] 0 .nil], 56, .fresh⟩]⟩ (by kernel_rfl) ?_
    cases h2 : (decide (n ≥ o))
    · have h2' := of_decide_eq_false h2
      refine RI (True ∧ True ∧ 3 < 4 ∧ True ∧ True ∧ True ∧ True) ⟨trivial, trivial, (by omega), trivial, trivial, trivial, trivial⟩ ?_
      refine KL (NN 8 14) ⟨[U6, (I6 n), (I6 to), .ptr 0 0, U6, U6, .ptr 1 0, (B6 false)] ++ UU 14 ++ [(B6 (decide (n ≥ (↑(List.length l) : Int))))] ++ UU 15, [⟨[(I6 f), (I6 m), (I6 o), .sl (bss l) (List.length l) .any], 4, .fresh⟩, ⟨[(I6 0), (I6 0), (I6 0), (I6 0), (I6 0), (I6 0), (I6 0), (I6 0), (I6 0), (I6 0), (I6 0), (I6 0), (I6 0), (I6 0), (I6 0), (I6 0), (I6 0), (I6 0), (I6 0), .sl [] 0 .nil, (I6 0), (I6 0), (I6 0), (I6 0), (I6 0), (I6 0), (I6 0), (I6 0), (I6 0), (I6 0), (I6 0), (I6 0), (I6 0), (I6 0), (I6 0), (I6 0), (I6 0), (I6 0), (I6 0), (I6 0), (I6 0), (I6 0), (I6 0), (I6 0), (I6 0), (I6 0), (B6 false), (I6 0), (I6 0), (I6 0), .sl [] 0 .nil, (I6 0), .sl [] 0 .nil, (I6 0), .sl [] 0 .nil, .sl [] 0 .nil], 56, .fresh⟩]⟩ ?_
      refine CN (decide (n ≥ (↑(List.length l) : Int))) (fun h3 => ?_) (fun h3 => ?_)
      · have h3' := of_decide_eq_true h3
        refine SQ (RI (True ∧ 56 ≤ 56 ∧ True ∧ True) ⟨trivial, (by omega), trivial, trivial⟩ ?_)
        refine AWP.ret ?_
        refine FI (.tup [.agg [.sc (.int .i64 0), .sc (.int .i64 0), .sc (.int .i64 0), .sc (.int .i64 0), .sc (.int .i64 0), .sc (.int .i64 0), .sc (.int .i64 0), .sc (.int .i64 0), .sc (.int .i64 0), .sc (.int .i64 0), .sc (.int .i64 0), .sc (.int .i64 0), .sc (.int .i64 0), .sc (.int .i64 0), .sc (.int .i64 0), .sc (.int .i64 0), .sc (.int .i64 0), .sc (.int .i64 0), .sc (.int .i64 0), .sl [] 0 .nil, .sc (.int .i64 0), .sc (.int .i64 0), .sc (.int .i64 0), .sc (.int .i64 0), .sc (.int .i64 0), .sc (.int .i64 0), .sc (.int .i64 0), .sc (.int .i64 0), .sc (.int .i64 0), .sc (.int .i64 0), .sc (.int .i64 0), .sc (.int .i64 0), .sc (.int .i64 0), .sc (.int .i64 0), .sc (.int .i64 0), .sc (.int .i64 0), .sc (.int .i64 0), .sc (.int .i64 0), .sc (.int .i64 0), .sc (.int .i64 0), .sc (.int .i64 0), .sc (.int .i64 0), .sc (.int .i64 0), .sc (.int .i64 0), .sc (.int .i64 0), .sc (.int .i64 0), .sc (.bool false), .sc (.int .i64 0), .sc (.int .i64 0), .sc (.int .i64 0), .sl [] 0 .nil, .sc (.int .i64 0), .sl [] 0 .nil, .sc (.int .i64 0), .sl [] 0 .nil, .sl [] 0 .nil], .sc (.bool false)]) ?_
        refine Shrink.dataK [] (True) (.tup [.agg [.sc (.int .i64 0), .sc (.int .i64 0), .sc (.int .i64 0), .sc (.int .i64 0), .sc (.int .i64 0), .sc (.int .i64 0), .sc (.int .i64 0), .sc (.int .i64 0), .sc (.int .i64 0), .sc (.int .i64 0), .sc (.int .i64 0), .sc (.int .i64 0), .sc (.int .i64 0), .sc (.int .i64 0), .sc (.int .i64 0), .sc (.int .i64 0), .sc (.int .i64 0), .sc (.int .i64 0), .sc (.int .i64 0), .sl [] 0 .nil, .sc (.int .i64 0), .sc (.int .i64 0), .sc (.int .i64 0), .sc (.int .i64 0), .sc (.int .i64 0), .sc (.int .i64 0), .sc (.int .i64 0), .sc (.int .i64 0), .sc (.int .i64 0), .sc (.int .i64 0), .sc (.int .i64 0), .sc (.int .i64 0), .sc (.int .i64 0), .sc (.int .i64 0), .sc (.int .i64 0), .sc (.int .i64 0), .sc (.int .i64 0), .sc (.int .i64 0), .sc (.int .i64 0), .sc (.int .i64 0), .sc (.int .i64 0), .sc (.int .i64 0), .sc (.int .i64 0), .sc (.int .i64 0), .sc (.int .i64 0), .sc (.int .i64 0), .sc (.bool false), .sc (.int .i64 0), .sc (.int .i64 0), .sc (.int .i64 0), .sl [] 0 .nil, .sc (.int .i64 0), .sl [] 0 .nil, .sc (.int .i64 0), .sl [] 0 .nil, .sl [] 0 .nil], .sc (.bool false)]) (by kernel_rfl) trivial ?_ (by simp [AVal.data, dataAll])
        (rw [msgc_eq]; rfl; done)
      · have h3' := of_decide_eq_false h3
        exfalso; omega
    · have h2' := of_decide_eq_true h2
      refine RT 1 ?_
      refine KL (NN 8 14) ⟨[U6, (I6 n), (I6 to), .ptr 0 0, U6, U6, .ptr 1 0, (B6 false)] ++ UU 14 ++ [(B6 true)] ++ UU 15, [⟨[(I6 f), (I6 m), (I6 o), .sl (bss l) (List.length l) .any], 4, .fresh⟩, ⟨[(I6 0), (I6 0), (I6 0), (I6 0), (I6 0), (I6 0), (I6 0), (I6 0), (I6 0), (I6 0), (I6 0), (I6 0), (I6 0), (I6 0), (I6 0), (I6 0), (I6 0), (I6 0), (I6 0), .sl [] 0 .nil, (I6 0), (I6 0), (I6 0), (I6 0), (I6 0), (I6 0), (I6 0), (I6 0), (I6 0), (I6 0), (I6 0), (I6 0), (I6 0), (I6 0), (I6 0), (I6 0), (I6 0), (I6 0), (I6 0), (I6 0), (I6 0), (I6 0), (I6 0), (I6 0), (I6 0), (I6 0), (B6 false), (I6 0), (I6 0), (I6 0), .sl [] 0 .nil, (I6 0), .sl [] 0 .nil, (I6 0), .sl [] 0 .nil, .sl [] 0 .nil], 56, .fresh⟩]⟩ ?_
      refine CN true (fun _ => ?_) (fun h => nomatch h)
      refine SQ (RI (True ∧ 56 ≤ 56 ∧ True ∧ True) ⟨trivial, (by omega), trivial, trivial⟩ ?_)
      refine AWP.ret ?_
      refine FI (.tup [.agg [.sc (.int .i64 0), .sc (.int .i64 0), .sc (.int .i64 0), .sc (.int .i64 0), .sc (.int .i64 0), .sc (.int .i64 0), .sc (.int .i64 0), .sc (.int .i64 0), .sc (.int .i64 0), .sc (.int .i64 0), .sc (.int .i64 0), .sc (.int .i64 0), .sc (.int .i64 0), .sc (.int .i64 0), .sc (.int .i64 0), .sc (.int .i64 0), .sc (.int .i64 0), .sc (.int .i64 0), .sc (.int .i64 0), .sl [] 0 .nil, .sc (.int .i64 0), .sc (.int .i64 0), .sc (.int .i64 0), .sc (.int .i64 0), .sc (.int .i64 0), .sc (.int .i64 0), .sc (.int .i64 0), .sc (.int .i64 0), .sc (.int .i64 0), .sc (.int .i64 0), .sc (.int .i64 0), .sc (.int .i64 0), .sc (.int .i64 0), .sc (.int .i64 0), .sc (.int .i64 0), .sc (.int .i64 0), .sc (.int .i64 0), .sc (.int .i64 0), .sc (.int .i64 0), .sc (.int .i64 0), .sc (.int .i64 0), .sc (.int .i64 0), .sc (.int .i64 0), .sc (.int .i64 0), .sc (.int .i64 0), .sc (.int .i64 0), .sc (.bool false), .sc (.int .i64 0), .sc (.int .i64 0), .sc (.int .i64 0), .sl [] 0 .nil, .sc (.int .i64 0), .sl [] 0 .nil, .sc (.int .i64 0), .sl [] 0 .nil, .sl [] 0 .nil], .sc (.bool false)]) ?_
      refine Shrink.dataK [] (True) (.tup [.agg [.sc (.int .i64 0), .sc (.int .i64 0), .sc (.int .i64 0), .sc (.int .i64 0), .sc (.int .i64 0), .sc (.int .i64 0), .sc (.int .i64 0), .sc (.int .i64 0), .sc (.int .i64 0), .sc (.int .i64 0), .sc (.int .i64 0), .sc (.int .i64 0), .sc (.int .i64 0), .sc (.int .i64 0), .sc (.int .i64 0), .sc (.int .i64 0), .sc (.int .i64 0), .sc (.int .i64 0), .sc (.int .i64 0), .sl [] 0 .nil, .sc (.int .i64 0), .sc (.int .i64 0), .sc (.int .i64 0), .sc (.int .i64 0), .sc (.int .i64 0), .sc (.int .i64 0), .sc (.int .i64 0), .sc (.int .i64 0), .sc (.int .i64 0), .sc (.int .i64 0), .sc (.int .i64 0), .sc (.int .i64 0), .sc (.int .i64 0), .sc (.int .i64 0), .sc (.int .i64 0), .sc (.int .i64 0), .sc (.int .i64 0), .sc (.int .i64 0), .sc (.int .i64 0), .sc (.int .i64 0), .sc (.int .i64 0), .sc (.int .i64 0), .sc (.int .i64 0), .sc (.int .i64 0), .sc (.int .i64 0), .sc (.int .i64 0), .sc (.bool false), .sc (.int .i64 0), .sc (.int .i64 0), .sc (.int .i64 0), .sl [] 0 .nil, .sc (.int .i64 0), .sl [] 0 .nil, .sc (.int .i64 0), .sl [] 0 .nil, .sl [] 0 .nil], .sc (.bool false)]) (by kernel_rfl) trivial ?_ (by simp [AVal.data, dataAll])
      (rw [msgc_eq]; rfl; done)
  · have h1' := of_decide_eq_true h1
    refine RT 3 ?_
    refine KL (NN 8 14) ⟨[U6, (I6 n), (I6 to), .ptr 0 0, U6, U6, .ptr 1 0, (B6 false)] ++ UU 14 ++ [(B6 true)] ++ UU 15, [⟨[(I6 f), (I6 m), (I6 o), .sl (bss l) (List.length l) .any], 4, .fresh⟩, ⟨[(I6 0), (I6 0), (I6 0), (I6 0), (I6 0), (I6 0), (I6 0), (I6 0), (I6 0), (I6 0), (I6 0), (I6 0), (I6 0), (I6 0), (I6 0), (I6 0), (I6 0), (I6 0), (I6 0), .sl [] 0 .nil, (I6 0), (I6 0), (I6 0), (I6 0), (I6 0), (I6 0), (I6 0), (I6 0), (I6 0), (I6 0), (I6 0), (I6 0), (I6 0), (I6 0), (I6 0), (I6 0), (I6 0), (I6 0), (I6 0), (I6 0), (I6 0), (I6 0), (I6 0), (I6 0), (I6 0), (I6 0), (B6 false), (I6 0), (I6 0), (I6 0), .sl [] 0 .nil, (I6 0), .sl [] 0 .nil, (I6 0), .sl [] 0 .nil, .sl [] 0 .nil], 56, .fresh⟩]⟩ ?_
    refine CN true (fun _ => ?_) (fun h => nomatch h)
    refine SQ (RI (True ∧ 56 ≤ 56 ∧ True ∧ True) ⟨trivial, (by omega), trivial, trivial⟩ ?_)
    refine AWP.ret ?_
    refine FI (.tup [.agg [.sc (.int .i64 0), .sc (.int .i64 0), .sc (.int .i64 0), .sc (.int .i64 0), .sc (.int .i64 0), .sc (.int .i64 0), .sc (.int .i64 0), .sc (.int .i64 0), .sc (.int .i64 0), .sc (.int .i64 0), .sc (.int .i64 0), .sc (.int .i64 0), .sc (.int .i64 0), .sc (.int .i64 0), .sc (.int .i64 0), .sc (.int .i64 0), .sc (.int .i64 0), .sc (.int .i64 0), .sc (.int .i64 0), .sl [] 0 .nil, .sc (.int .i64 0), .sc (.int .i64 0), .sc (.int .i64 0), .sc (.int .i64 0), .sc (.int .i64 0), .sc (.int .i64 0), .sc (.int .i64 0), .sc (.int .i64 0), .sc (.int .i64 0), .sc (.int .i64 0), .sc (.int .i64 0), .sc (.int .i64 0), .sc (.int .i64 0), .sc (.int .i64 0), .sc (.int .i64 0), .sc (.int .i64 0), .sc (.int .i64 0), .sc (.int .i64 0), .sc (.int .i64 0), .sc (.int .i64 0), .sc (.int .i64 0), .sc (.int .i64 0), .sc (.int .i64 0), .sc (.int .i64 0), .sc (.int .i64 0), .sc (.int .i64 0), .sc (.bool false), .sc (.int .i64 0), .sc (.int .i64 0), .sc (.int .i64 0), .sl [] 0 .nil, .sc (.int .i64 0), .sl [] 0 .nil, .sc (.int .i64 0), .sl [] 0 .nil, .sl [] 0 .nil], .sc (.bool false)]) ?_
    refine Shrink.dataK [] (True) (.tup [.agg [.sc (.int .i64 0), .sc (.int .i64 0), .sc (.int .i64 0), .sc (.int .i64 0), .sc (.int .i64 0), .sc (.int .i64 0), .sc (.int .i64 0), .sc (.int .i64 0), .sc (.int .i64 0), .sc (.int .i64 0), .sc (.int .i64 0), .sc (.int .i64 0), .sc (.int .i64 0), .sc (.int .i64 0), .sc (.int .i64 0), .sc (.int .i64 0), .sc (.int .i64 0), .sc (.int .i64 0), .sc (.int .i64 0), .sl [] 0 .nil, .sc (.int .i64 0), .sc (.int .i64 0), .sc (.int .i64 0), .sc (.int .i64 0), .sc (.int .i64 0), .sc (.int .i64 0), .sc (.int .i64 0), .sc (.int .i64 0), .sc (.int .i64 0), .sc (.int .i64 0), .sc (.int .i64 0), .sc (.int .i64 0), .sc (.int .i64 0), .sc (.int .i64 0), .sc (.int .i64 0), .sc (.int .i64 0), .sc (.int .i64 0), .sc (.int .i64 0), .sc (.int .i64 0), .sc (.int .i64 0), .sc (.int .i64 0), .sc (.int .i64 0), .sc (.int .i64 0), .sc (.int .i64 0), .sc (.int .i64 0), .sc (.int .i64 0), .sc (.bool false), .sc (.int .i64 0), .sc (.int .i64 0), .sc (.int .i64 0), .sl [] 0 .nil, .sc (.int .i64 0), .sl [] 0 .nil, .sc (.int .i64 0), .sl [] 0 .nil, .sl [] 0 .nil], .sc (.bool false)]) (by kernel_rfl) trivial ?_ (by simp [AVal.data, dataAll])
    (rw [msgc_eq]; rfl; done)
theorem r_take_no (g : Gate) (M : MsgD) (f m o : Int) (l : List (List Int)) (h : M.kind ≠ 4 ∨ M.n < 0 ∨ M.n ≥ M.cnt ∨ M.cnt > 4096 ∨ (M.n ≠ 0 ∧ (M.src ≠ f ∨ M.num ≠ m ∨ M.cnt ≠ o ∨ M.n ≠ l.length))) : EvD Try.prog 15 [.agg [.sc (.int .i64 f), .sc (.int .i64 m), .sc (.int .i64 o), .sl (bss l) l.length .any], .agg (msgc g M)] (.tup [.agg [.sc (.int .i64 f), .sc (.int .i64 m), .sc (.int .i64 o), .sl (bss l) l.length .any], .sc (.bool false)]) := by
  refine EvD.body Try.func15 rfl (by simp [dataAll, AVal.data]) (by simp [dataAll, AVal.data]) ?_
  refine AWP.seq ?_
  refine TO ⟨[.agg [(I6 f), (I6 m), (I6 o), .sl (bss l) (List.length l) .any], .agg (msgc g M)] ++ UU 76, []⟩ ?_
  refine AWP.reg (RT 4 ?_)
  refine AWP.seq (AWP.seq (KL [0, 1] ⟨[U6, U6, .ptr 0 0, .ptr 1 0, .ptr 2 0, (B6 false)] ++ UU 72, [⟨[(I6 f), (I6 m), (I6 o), .sl (bss l) (List.length l) .any], 4, .fresh⟩, ⟨msgc g M, 56, .fresh⟩, ⟨[(I6 0), (I6 0), (I6 0), .sl [] 0 .nil], 4, .fresh⟩]⟩ ?_))
  refine AWP.reg ?_
  refine DerQ.pre 2 (True ∧ (0 < List.length (msgc g M)) ∧ True) ⟨[U6, U6, .ptr 0 0, .ptr 1 0, .ptr 2 0, (B6 false), .ptr 1 0, List.getD (msgc g M) 0 AVal.undef] ++ UU 70, [⟨[(I6 f), (I6 m), (I6 o), .sl (bss l) (List.length l) .any], 4, .fresh⟩, ⟨msgc g M, 56, .fresh⟩, ⟨[(I6 0), (I6 0), (I6 0), .sl [] 0 .nil], 4, .fresh⟩]⟩ (by kernel_rfl) ⟨trivial, (by simp), trivial⟩ ?_
  rw [Go.Chu.msg_0 (g) (M)]
  refine PT 2 2 ?_
  refine DerQ.to ⟨[U6, U6, .ptr 0 0, .ptr 1 0, .ptr 2 0, (B6 false), .ptr 1 0, (I6 (M.kind)), (B6 (M.kind != 4)), (B6 (M.kind != 4))] ++ UU 68, [⟨[(I6 f), (I6 m), (I6 o), .sl (bss l) (List.length l) .any], 4, .fresh⟩, ⟨msgc g M, 56, .fresh⟩, ⟨[(I6 0), (I6 0), (I6 0), .sl [] 0 .nil], 4, .fresh⟩]⟩ (by kernel_rfl) ?_
  cases h1 : (M.kind != 4)
  · have h1' := bne_eq_false_iff_eq.1 h1
    refine DerQ.pre 2 (True ∧ (48 < List.length (msgc g M)) ∧ True) ⟨[U6, U6, .ptr 0 0, .ptr 1 0, .ptr 2 0, (B6 false), .ptr 1 0, (I6 (M.kind)), (B6 false), (B6 false), .ptr 1 48, List.getD (msgc g M) 48 AVal.undef] ++ UU 66, [⟨[(I6 f), (I6 m), (I6 o), .sl (bss l) (List.length l) .any], 4, .fresh⟩, ⟨msgc g M, 56, .fresh⟩, ⟨[(I6 0), (I6 0), (I6 0), .sl [] 0 .nil], 4, .fresh⟩]⟩ (by kernel_rfl) ⟨trivial, (by simp), trivial⟩ ?_
    rw [Go.Chu.msg_48 (g) (M)]
    refine PT 3 3 ?_
    refine DerQ.to ⟨[U6, U6, .ptr 0 0, .ptr 1 0, .ptr 2 0, (B6 false), .ptr 1 0, (I6 (M.kind)), (B6 false), (B6 false), .ptr 1 48, (I6 (M.n)), (B6 (decide (M.n < 0))), (B6 (decide (M.n < 0))), (B6 (decide (M.n < 0)))] ++ UU 63, [⟨[(I6 f), (I6 m), (I6 o), .sl (bss l) (List.length l) .any], 4, .fresh⟩, ⟨msgc g M, 56, .fresh⟩, ⟨[(I6 0), (I6 0), (I6 0), .sl [] 0 .nil], 4, .fresh⟩]⟩ (by kernel_rfl) ?_
    cases h2 : (decide (M.n < 0))
    · have h2' := of_decide_eq_false h2
      refine DerQ.pre 4 (True ∧ (48 < List.length (msgc g M)) ∧ True ∧ (49 < List.length (msgc g M)) ∧ True) ⟨[U6, U6, .ptr 0 0, .ptr 1 0, .ptr 2 0, (B6 false), .ptr 1 0, (I6 (M.kind)), (B6 false), (B6 false), .ptr 1 48, (I6 (M.n)), (B6 false), (B6 false), (B6 false), .ptr 1 48, List.getD (msgc g M) 48 U6, .ptr 1 49, List.getD (msgc g M) 49 AVal.undef] ++ UU 59, [⟨[(I6 f), (I6 m), (I6 o), .sl (bss l) (List.length l) .any], 4, .fresh⟩, ⟨msgc g M, 56, .fresh⟩, ⟨[(I6 0), (I6 0), (I6 0), .sl [] 0 .nil], 4, .fresh⟩]⟩ (by kernel_rfl) ⟨trivial, (by simp), trivial, (by simp), trivial⟩ ?_
      rw [Go.Chu.msg_48 (g) (M)]
      rw [Go.Chu.msg_49 (g) (M)]
      refine PT 3 3 ?_
      refine DerQ.to ⟨[U6, U6, .ptr 0 0, .ptr 1 0, .ptr 2 0, (B6 false), .ptr 1 0, (I6 (M.kind)), (B6 false), (B6 false), .ptr 1 48, (I6 (M.n)), (B6 false), (B6 false), (B6 false), .ptr 1 48, (I6 (M.n)), .ptr 1 49, (I6 (M.cnt)), (B6 (decide (M.n ≥ M.cnt))), (B6 (decide (M.n ≥ M.cnt))), (B6 (decide (M.n ≥ M.cnt)))] ++ UU 56, [⟨[(I6 f), (I6 m), (I6 o), .sl (bss l) (List.length l) .any], 4, .fresh⟩, ⟨msgc g M, 56, .fresh⟩, ⟨[(I6 0), (I6 0), (I6 0), .sl [] 0 .nil], 4, .fresh⟩]⟩ (by kernel_rfl) ?_
      cases h3 : (decide (M.n ≥ M.cnt))
      · have h3' := of_decide_eq_false h3
        refine DerQ.pre 2 (True ∧ (49 < List.length (msgc g M)) ∧ True) ⟨[U6, U6, .ptr 0 0, .ptr 1 0, .ptr 2 0, (B6 false), .ptr 1 0, (I6 (M.kind)), (B6 false), (B6 false), .ptr 1 48, (I6 (M.n)), (B6 false), (B6 false), (B6 false), .ptr 1 48, (I6 (M.n)), .ptr 1 49, (I6 (M.cnt)), (B6 false), (B6 false), (B6 false), .ptr 1 49, List.getD (msgc g M) 49 AVal.undef] ++ UU 54, [⟨[(I6 f), (I6 m), (I6 o), .sl (bss l) (List.length l) .any], 4, .fresh⟩, ⟨msgc g M, 56, .fresh⟩, ⟨[(I6 0), (I6 0), (I6 0), .sl [] 0 .nil], 4, .fresh⟩]⟩ (by kernel_rfl) ⟨trivial, (by simp), trivial⟩ ?_
        rw [Go.Chu.msg_49 (g) (M)]
        refine RT 2 ?_
        refine KL (NN 6 19) ⟨[U6, U6, .ptr 0 0, .ptr 1 0, .ptr 2 0, (B6 false)] ++ UU 19 ++ [(B6 (decide (M.cnt > 4096)))] ++ UU 52, [⟨[(I6 f), (I6 m), (I6 o), .sl (bss l) (List.length l) .any], 4, .fresh⟩, ⟨msgc g M, 56, .fresh⟩, ⟨[(I6 0), (I6 0), (I6 0), .sl [] 0 .nil], 4, .fresh⟩]⟩ ?_
        refine CN (decide (M.cnt > 4096)) (fun h4 => ?_) (fun h4 => ?_)
        · have h4' := of_decide_eq_true h4
          refine SQ (RI (4 ≤ 4 ∧ 4 ≤ 4 ∧ True ∧ True) ⟨(by omega), (by omega), trivial, trivial⟩ ?_)
          refine AWP.ret FA
        · have h4' := of_decide_eq_false h4
          refine AWP.skip (AWP.seq (SQ ?_))
          refine DerQ.pre 2 (True ∧ (48 < List.length (msgc g M)) ∧ True) ⟨[U6, U6, .ptr 0 0, .ptr 1 0, .ptr 2 0, (B6 false)] ++ UU 19 ++ [(B6 (decide (M.cnt > 4096))), U6, .ptr 1 48, List.getD (msgc g M) 48 AVal.undef] ++ UU 49, [⟨[(I6 f), (I6 m), (I6 o), .sl (bss l) (List.length l) .any], 4, .fresh⟩, ⟨msgc g M, 56, .fresh⟩, ⟨[(I6 0), (I6 0), (I6 0), .sl [] 0 .nil], 4, .fresh⟩]⟩ (by kernel_rfl) ⟨trivial, (by simp), trivial⟩ ?_
          rw [Go.Chu.msg_48 (g) (M)]
          refine RT 1 ?_
          refine KL [25, 27, 28] ⟨[U6, U6, .ptr 0 0, .ptr 1 0, .ptr 2 0, (B6 false)] ++ UU 23 ++ [(B6 (M.n == 0))] ++ UU 48, [⟨[(I6 f), (I6 m), (I6 o), .sl (bss l) (List.length l) .any], 4, .fresh⟩, ⟨msgc g M, 56, .fresh⟩, ⟨[(I6 0), (I6 0), (I6 0), .sl [] 0 .nil], 4, .fresh⟩]⟩ ?_
          refine CN (M.n == 0) (fun h5 => ?_) (fun h5 => ?_)
          · have h5' := eq_of_beq h5
            exfalso; omega
          · have h5' := ne_of_beq_false h5
            refine AWP.skip (AWP.seq (SQ ?_))
            refine DerQ.pre 4 (True ∧ (1 < List.length (msgc g M)) ∧ True ∧ 0 < 4 ∧ True) ⟨[U6, U6, .ptr 0 0, .ptr 1 0, .ptr 2 0, (B6 false)] ++ UU 23 ++ [(B6 (M.n == 0))] ++ UU 10 ++ [.ptr 1 1, List.getD (msgc g M) 1 U6, .ptr 0 0, (I6 f)] ++ UU 34, [⟨[(I6 f), (I6 m), (I6 o), .sl (bss l) (List.length l) .any], 4, .fresh⟩, ⟨msgc g M, 56, .fresh⟩, ⟨[(I6 0), (I6 0), (I6 0), .sl [] 0 .nil], 4, .fresh⟩]⟩ (by kernel_rfl) ⟨trivial, (by simp), trivial, (by omega), trivial⟩ ?_
            rw [Go.Chu.msg_1 (g) (M)]
            refine PT 2 2 ?_
            refine DerQ.to ⟨[U6, U6, .ptr 0 0, .ptr 1 0, .ptr 2 0, (B6 false)] ++ UU 23 ++ [(B6 (M.n == 0))] ++ UU 10 ++ [.ptr 1 1, (I6 (M.src)), .ptr 0 0, (I6 f), (B6 (M.src != f)), (B6 (M.src != f))] ++ UU 32, [⟨[(I6 f), (I6 m), (I6 o), .sl (bss l) (List.length l) .any], 4, .fresh⟩, ⟨msgc g M, 56, .fresh⟩, ⟨[(I6 0), (I6 0), (I6 0), .sl [] 0 .nil], 4, .fresh⟩]⟩ (by kernel_rfl) ?_
            cases h6 : (M.src != f)
            · have h6' := bne_eq_false_iff_eq.1 h6
              refine DerQ.pre 4 (True ∧ (47 < List.length (msgc g M)) ∧ True ∧ 1 < 4 ∧ True) ⟨[U6, U6, .ptr 0 0, .ptr 1 0, .ptr 2 0, (B6 false)] ++ UU 23 ++ [(B6 (M.n == 0))] ++ UU 10 ++ [.ptr 1 1, (I6 (M.src)), .ptr 0 0, (I6 f), (B6 false), (B6 false), .ptr 1 47, List.getD (msgc g M) 47 U6, .ptr 0 1, (I6 m)] ++ UU 28, [⟨[(I6 f), (I6 m), (I6 o), .sl (bss l) (List.length l) .any], 4, .fresh⟩, ⟨msgc g M, 56, .fresh⟩, ⟨[(I6 0), (I6 0), (I6 0), .sl [] 0 .nil], 4, .fresh⟩]⟩ (by kernel_rfl) ⟨trivial, (by simp), trivial, (by omega), trivial⟩ ?_
              rw [Go.Chu.msg_47 (g) (M)]
              refine PT 3 3 ?_
              refine DerQ.to ⟨[U6, U6, .ptr 0 0, .ptr 1 0, .ptr 2 0, (B6 false)] ++ UU 23 ++ [(B6 (M.n == 0))] ++ UU 10 ++ [.ptr 1 1, (I6 (M.src)), .ptr 0 0, (I6 f), (B6 false), (B6 false), .ptr 1 47, (I6 (M.num)), .ptr 0 1, (I6 m), (B6 (M.num != m)), (B6 (M.num != m)), (B6 (M.num != m))] ++ UU 25, [⟨[(I6 f), (I6 m), (I6 o), .sl (bss l) (List.length l) .any], 4, .fresh⟩, ⟨msgc g M, 56, .fresh⟩, ⟨[(I6 0), (I6 0), (I6 0), .sl [] 0 .nil], 4, .fresh⟩]⟩ (by kernel_rfl) ?_
              cases h7 : (M.num != m)
              · have h7' := bne_eq_false_iff_eq.1 h7
                refine DerQ.pre 4 (True ∧ (49 < List.length (msgc g M)) ∧ True ∧ 2 < 4 ∧ True) ⟨[U6, U6, .ptr 0 0, .ptr 1 0, .ptr 2 0, (B6 false)] ++ UU 23 ++ [(B6 (M.n == 0))] ++ UU 10 ++ [.ptr 1 1, (I6 (M.src)), .ptr 0 0, (I6 f), (B6 false), (B6 false), .ptr 1 47, (I6 (M.num)), .ptr 0 1, (I6 m), (B6 false), (B6 false), (B6 false), .ptr 1 49, List.getD (msgc g M) 49 U6, .ptr 0 2, (I6 o)] ++ UU 21, [⟨[(I6 f), (I6 m), (I6 o), .sl (bss l) (List.length l) .any], 4, .fresh⟩, ⟨msgc g M, 56, .fresh⟩, ⟨[(I6 0), (I6 0), (I6 0), .sl [] 0 .nil], 4, .fresh⟩]⟩ (by kernel_rfl) ⟨trivial, (by simp), trivial, (by omega), trivial⟩ ?_
                rw [Go.Chu.msg_49 (g) (M)]
                refine PT 3 3 ?_
                refine DerQ.to ⟨[U6, U6, .ptr 0 0, .ptr 1 0, .ptr 2 0, (B6 false)] ++ UU 23 ++ [(B6 (M.n == 0))] ++ UU 10 ++ [.ptr 1 1, (I6 (M.src)), .ptr 0 0, (I6 f), (B6 false), (B6 false), .ptr 1 47, (I6 (M.num)), .ptr 0 1, (I6 m), (B6 false), (B6 false), (B6 false), .ptr 1 49, (I6 (M.cnt)), .ptr 0 2, (I6 o), (B6 (M.cnt != o)), (B6 (M.cnt != o)), (B6 (M.cnt != o))] ++ UU 18, [⟨[(I6 f), (I6 m), (I6 o), .sl (bss l) (List.length l) .any], 4, .fresh⟩, ⟨msgc g M, 56, .fresh⟩, ⟨[(I6 0), (I6 0), (I6 0), .sl [] 0 .nil], 4, .fresh⟩]⟩ (by kernel_rfl) ?_
                cases h8 : (M.cnt != o)
                · have h8' := bne_eq_false_iff_eq.1 h8
                  refine DerQ.pre 5 (True ∧ (48 < List.length (msgc g M)) ∧ True ∧ 3 < 4 ∧ True ∧ True) ⟨[U6, U6, .ptr 0 0, .ptr 1 0, .ptr 2 0, (B6 false)] ++ UU 23 ++ [(B6 (M.n == 0))] ++ UU 10 ++ [.ptr 1 1, (I6 (M.src)), .ptr 0 0, (I6 f), (B6 false), (B6 false), .ptr 1 47, (I6 (M.num)), .ptr 0 1, (I6 m), (B6 false), (B6 false), (B6 false), .ptr 1 49, (I6 (M.cnt)), .ptr 0 2, (I6 o), (B6 false), (B6 false), (B6 false), .ptr 1 48, List.getD (msgc g M) 48 U6, .ptr 0 3, .sl (bss l) (List.length l) .any, (I6 (↑(List.length l) : Int))] ++ UU 13, [⟨[(I6 f), (I6 m), (I6 o), .sl (bss l) (List.length l) .any], 4, .fresh⟩, ⟨msgc g M, 56, .fresh⟩, ⟨[(I6 0), (I6 0), (I6 0), .sl [] 0 .nil], 4, .fresh⟩]⟩ (by kernel_rfl) ⟨trivial, (by simp), trivial, (by omega), trivial, trivial⟩ ?_
                  rw [Go.Chu.msg_48 (g) (M)]
                  refine RT 2 ?_
                  refine KL ([29] ++ NN 40 26) ⟨[U6, U6, .ptr 0 0, .ptr 1 0, .ptr 2 0, (B6 false)] ++ UU 60 ++ [(B6 (M.n != (↑(List.length l) : Int)))] ++ UU 11, [⟨[(I6 f), (I6 m), (I6 o), .sl (bss l) (List.length l) .any], 4, .fresh⟩, ⟨msgc g M, 56, .fresh⟩, ⟨[(I6 0), (I6 0), (I6 0), .sl [] 0 .nil], 4, .fresh⟩]⟩ ?_
                  refine CN (M.n != (↑(List.length l) : Int)) (fun h9 => ?_) (fun h9 => ?_)
                  · have h9' := bne_iff_ne.1 h9
                    refine SQ (RI (4 ≤ 4 ∧ 4 ≤ 4 ∧ True ∧ True) ⟨(by omega), (by omega), trivial, trivial⟩ ?_)
                    refine AWP.ret FA
                  · have h9' := bne_eq_false_iff_eq.1 h9
                    exfalso; omega
                · have h8' := bne_iff_ne.1 h8
                  refine RT 1 ?_
                  refine KL ([29] ++ NN 40 26) ⟨[U6, U6, .ptr 0 0, .ptr 1 0, .ptr 2 0, (B6 false)] ++ UU 60 ++ [(B6 true)] ++ UU 11, [⟨[(I6 f), (I6 m), (I6 o), .sl (bss l) (List.length l) .any], 4, .fresh⟩, ⟨msgc g M, 56, .fresh⟩, ⟨[(I6 0), (I6 0), (I6 0), .sl [] 0 .nil], 4, .fresh⟩]⟩ ?_
                  refine CN true (fun _ => ?_) (fun h => nomatch h)
                  refine SQ (RI (4 ≤ 4 ∧ 4 ≤ 4 ∧ True ∧ True) ⟨(by omega), (by omega), trivial, trivial⟩ ?_)
                  refine AWP.ret FA
              · have h7' := bne_iff_ne.1 h7
                refine RT 3 ?_
                refine KL ([29] ++ NN 40 26) ⟨[U6, U6, .ptr 0 0, .ptr 1 0, .ptr 2 0, (B6 false)] ++ UU 60 ++ [(B6 true)] ++ UU 11, [⟨[(I6 f), (I6 m), (I6 o), .sl (bss l) (List.length l) .any], 4, .fresh⟩, ⟨msgc g M, 56, .fresh⟩, ⟨[(I6 0), (I6 0), (I6 0), .sl [] 0 .nil], 4, .fresh⟩]⟩ ?_
                refine CN true (fun _ => ?_) (fun h => nomatch h)
                refine SQ (RI (4 ≤ 4 ∧ 4 ≤ 4 ∧ True ∧ True) ⟨(by omega), (by omega), trivial, trivial⟩ ?_)
                refine AWP.ret FA
            · have h6' := bne_iff_ne.1 h6
              refine RT 5 ?_
              refine KL ([29] ++ NN 40 26) ⟨[U6, U6, .ptr 0 0, .ptr 1 0, .ptr 2 0, (B6 false)] ++ UU 60 ++ [(B6 true)] ++ UU 11, [⟨[(I6 f), (I6 m), (I6 o), .sl (bss l) (List.length l) .any], 4, .fresh⟩, ⟨msgc g M, 56, .fresh⟩, ⟨[(I6 0), (I6 0), (I6 0), .sl [] 0 .nil], 4, .fresh⟩]⟩ ?_
              refine CN true (fun _ => ?_) (fun h => nomatch h)
              refine SQ (RI (4 ≤ 4 ∧ 4 ≤ 4 ∧ True ∧ True) ⟨(by omega), (by omega), trivial, trivial⟩ ?_)
              refine AWP.ret FA
      · have h3' := of_decide_eq_true h3
        refine RT 1 ?_
        refine KL (NN 6 19) ⟨[U6, U6, .ptr 0 0, .ptr 1 0, .ptr 2 0, (B6 false)] ++ UU 19 ++ [(B6 true)] ++ UU 52, [⟨[(I6 f), (I6 m), (I6 o), .sl (bss l) (List.length l) .any], 4, .fresh⟩, ⟨msgc g M, 56, .fresh⟩, ⟨[(I6 0), (I6 0), (I6 0), .sl [] 0 .nil], 4, .fresh⟩]⟩ ?_
        refine CN true (fun _ => ?_) (fun h => nomatch h)
        refine SQ (RI (4 ≤ 4 ∧ 4 ≤ 4 ∧ True ∧ True) ⟨(by omega), (by omega), trivial, trivial⟩ ?_)
        refine AWP.ret FA
    · have h2' := of_decide_eq_true h2
      refine RT 3 ?_
      refine KL (NN 6 19) ⟨[U6, U6, .ptr 0 0, .ptr 1 0, .ptr 2 0, (B6 false)] ++ UU 19 ++ [(B6 true)] ++ UU 52, [⟨[(I6 f), (I6 m), (I6 o), .sl (bss l) (List.length l) .any], 4, .fresh⟩, ⟨msgc g M, 56, .fresh⟩, ⟨[(I6 0), (I6 0), (I6 0), .sl [] 0 .nil], 4, .fresh⟩]⟩ ?_
      refine CN true (fun _ => ?_) (fun h => nomatch h)
      refine SQ (RI (4 ≤ 4 ∧ 4 ≤ 4 ∧ True ∧ True) ⟨(by omega), (by omega), trivial, trivial⟩ ?_)
      refine AWP.ret FA
  · have h1' := bne_iff_ne.1 h1
    refine RT 5 ?_
    refine KL (NN 6 19) ⟨[U6, U6, .ptr 0 0, .ptr 1 0, .ptr 2 0, (B6 false)] ++ UU 19 ++ [(B6 true)] ++ UU 52, [⟨[(I6 f), (I6 m), (I6 o), .sl (bss l) (List.length l) .any], 4, .fresh⟩, ⟨msgc g M, 56, .fresh⟩, ⟨[(I6 0), (I6 0), (I6 0), .sl [] 0 .nil], 4, .fresh⟩]⟩ ?_
    refine CN true (fun _ => ?_) (fun h => nomatch h)
    refine SQ (RI (4 ≤ 4 ∧ 4 ≤ 4 ∧ True ∧ True) ⟨(by omega), (by omega), trivial, trivial⟩ ?_)
    refine AWP.ret FA
theorem r_take_first (g : Gate) (M : MsgD) (f m o : Int) (l : List (List Int)) (h : M.kind = 4 ∧ M.n = 0 ∧ 0 < M.cnt ∧ M.cnt ≤ 4096) : EvD Try.prog 15 [.agg [.sc (.int .i64 f), .sc (.int .i64 m), .sc (.int .i64 o), .sl (bss l) l.length .any], .agg (msgc g M)] (.tup [.agg [.sc (.int .i64 M.src), .sc (.int .i64 M.num), .sc (.int .i64 M.cnt), .sl (bss [M.data]) 1 .any], .sc (.bool true)]) := by
  refine EvD.body Try.func15 rfl (by simp [dataAll, AVal.data]) (by simp [dataAll, AVal.data]) ?_
  refine AWP.seq ?_
  refine TO ⟨[.agg [(I6 f), (I6 m), (I6 o), .sl (bss l) (List.length l) .any], .agg (msgc g M)] ++ UU 76, []⟩ ?_
  refine AWP.reg (RT 4 ?_)
  refine AWP.seq (AWP.seq (KL [0, 1] ⟨[U6, U6, .ptr 0 0, .ptr 1 0, .ptr 2 0, (B6 false)] ++ UU 72, [⟨[(I6 f), (I6 m), (I6 o), .sl (bss l) (List.length l) .any], 4, .fresh⟩, ⟨msgc g M, 56, .fresh⟩, ⟨[(I6 0), (I6 0), (I6 0), .sl [] 0 .nil], 4, .fresh⟩]⟩ ?_))
  refine AWP.reg ?_
  refine DerQ.pre 2 (True ∧ (0 < List.length (msgc g M)) ∧ True) ⟨[U6, U6, .ptr 0 0, .ptr 1 0, .ptr 2 0, (B6 false), .ptr 1 0, List.getD (msgc g M) 0 AVal.undef] ++ UU 70, [⟨[(I6 f), (I6 m), (I6 o), .sl (bss l) (List.length l) .any], 4, .fresh⟩, ⟨msgc g M, 56, .fresh⟩, ⟨[(I6 0), (I6 0), (I6 0), .sl [] 0 .nil], 4, .fresh⟩]⟩ (by kernel_rfl) ⟨trivial, (by simp), trivial⟩ ?_
  rw [Go.Chu.msg_0 (g) (M)]
  refine PT 2 2 ?_
  refine DerQ.to ⟨[U6, U6, .ptr 0 0, .ptr 1 0, .ptr 2 0, (B6 false), .ptr 1 0, (I6 (M.kind)), (B6 (M.kind != 4)), (B6 (M.kind != 4))] ++ UU 68, [⟨[(I6 f), (I6 m), (I6 o), .sl (bss l) (List.length l) .any], 4, .fresh⟩, ⟨msgc g M, 56, .fresh⟩, ⟨[(I6 0), (I6 0), (I6 0), .sl [] 0 .nil], 4, .fresh⟩]⟩ (by kernel_rfl) ?_
  cases h1 : (M.kind != 4)
  · have h1' := bne_eq_false_iff_eq.1 h1
    refine DerQ.pre 2 (True ∧ (48 < List.length (msgc g M)) ∧ True) ⟨[U6, U6, .ptr 0 0, .ptr 1 0, .ptr 2 0, (B6 false), .ptr 1 0, (I6 (M.kind)), (B6 false), (B6 false), .ptr 1 48, List.getD (msgc g M) 48 AVal.undef] ++ UU 66, [⟨[(I6 f), (I6 m), (I6 o), .sl (bss l) (List.length l) .any], 4, .fresh⟩, ⟨msgc g M, 56, .fresh⟩, ⟨[(I6 0), (I6 0), (I6 0), .sl [] 0 .nil], 4, .fresh⟩]⟩ (by kernel_rfl) ⟨trivial, (by simp), trivial⟩ ?_
    rw [Go.Chu.msg_48 (g) (M)]
    refine PT 3 3 ?_
    refine DerQ.to ⟨[U6, U6, .ptr 0 0, .ptr 1 0, .ptr 2 0, (B6 false), .ptr 1 0, (I6 (M.kind)), (B6 false), (B6 false), .ptr 1 48, (I6 (M.n)), (B6 (decide (M.n < 0))), (B6 (decide (M.n < 0))), (B6 (decide (M.n < 0)))] ++ UU 63, [⟨[(I6 f), (I6 m), (I6 o), .sl (bss l) (List.length l) .any], 4, .fresh⟩, ⟨msgc g M, 56, .fresh⟩, ⟨[(I6 0), (I6 0), (I6 0), .sl [] 0 .nil], 4, .fresh⟩]⟩ (by kernel_rfl) ?_
    cases h2 : (decide (M.n < 0))
    · have h2' := of_decide_eq_false h2
      refine DerQ.pre 4 (True ∧ (48 < List.length (msgc g M)) ∧ True ∧ (49 < List.length (msgc g M)) ∧ True) ⟨[U6, U6, .ptr 0 0, .ptr 1 0, .ptr 2 0, (B6 false), .ptr 1 0, (I6 (M.kind)), (B6 false), (B6 false), .ptr 1 48, (I6 (M.n)), (B6 false), (B6 false), (B6 false), .ptr 1 48, List.getD (msgc g M) 48 U6, .ptr 1 49, List.getD (msgc g M) 49 AVal.undef] ++ UU 59, [⟨[(I6 f), (I6 m), (I6 o), .sl (bss l) (List.length l) .any], 4, .fresh⟩, ⟨msgc g M, 56, .fresh⟩, ⟨[(I6 0), (I6 0), (I6 0), .sl [] 0 .nil], 4, .fresh⟩]⟩ (by kernel_rfl) ⟨trivial, (by simp), trivial, (by simp), trivial⟩ ?_
      rw [Go.Chu.msg_48 (g) (M)]
      rw [Go.Chu.msg_49 (g) (M)]
      refine PT 3 3 ?_
      refine DerQ.to ⟨[U6, U6, .ptr 0 0, .ptr 1 0, .ptr 2 0, (B6 false), .ptr 1 0, (I6 (M.kind)), (B6 false), (B6 false), .ptr 1 48, (I6 (M.n)), (B6 false), (B6 false), (B6 false), .ptr 1 48, (I6 (M.n)), .ptr 1 49, (I6 (M.cnt)), (B6 (decide (M.n ≥ M.cnt))), (B6 (decide (M.n ≥ M.cnt))), (B6 (decide (M.n ≥ M.cnt)))] ++ UU 56, [⟨[(I6 f), (I6 m), (I6 o), .sl (bss l) (List.length l) .any], 4, .fresh⟩, ⟨msgc g M, 56, .fresh⟩, ⟨[(I6 0), (I6 0), (I6 0), .sl [] 0 .nil], 4, .fresh⟩]⟩ (by kernel_rfl) ?_
      cases h3 : (decide (M.n ≥ M.cnt))
      · have h3' := of_decide_eq_false h3
        refine DerQ.pre 2 (True ∧ (49 < List.length (msgc g M)) ∧ True) ⟨[U6, U6, .ptr 0 0, .ptr 1 0, .ptr 2 0, (B6 false), .ptr 1 0, (I6 (M.kind)), (B6 false), (B6 false), .ptr 1 48, (I6 (M.n)), (B6 false), (B6 false), (B6 false), .ptr 1 48, (I6 (M.n)), .ptr 1 49, (I6 (M.cnt)), (B6 false), (B6 false), (B6 false), .ptr 1 49, List.getD (msgc g M) 49 AVal.undef] ++ UU 54, [⟨[(I6 f), (I6 m), (I6 o), .sl (bss l) (List.length l) .any], 4, .fresh⟩, ⟨msgc g M, 56, .fresh⟩, ⟨[(I6 0), (I6 0), (I6 0), .sl [] 0 .nil], 4, .fresh⟩]⟩ (by kernel_rfl) ⟨trivial, (by simp), trivial⟩ ?_
        rw [Go.Chu.msg_49 (g) (M)]
        refine RT 2 ?_
        refine KL (NN 6 19) ⟨[U6, U6, .ptr 0 0, .ptr 1 0, .ptr 2 0, (B6 false)] ++ UU 19 ++ [(B6 (decide (M.cnt > 4096)))] ++ UU 52, [⟨[(I6 f), (I6 m), (I6 o), .sl (bss l) (List.length l) .any], 4, .fresh⟩, ⟨msgc g M, 56, .fresh⟩, ⟨[(I6 0), (I6 0), (I6 0), .sl [] 0 .nil], 4, .fresh⟩]⟩ ?_
        refine CN (decide (M.cnt > 4096)) (fun h4 => ?_) (fun h4 => ?_)
        · have h4' := of_decide_eq_true h4
          exfalso; omega
        · have h4' := of_decide_eq_false h4
          refine AWP.skip (AWP.seq (SQ ?_))
          refine DerQ.pre 2 (True ∧ (48 < List.length (msgc g M)) ∧ True) ⟨[U6, U6, .ptr 0 0, .ptr 1 0, .ptr 2 0, (B6 false)] ++ UU 19 ++ [(B6 (decide (M.cnt > 4096))), U6, .ptr 1 48, List.getD (msgc g M) 48 AVal.undef] ++ UU 49, [⟨[(I6 f), (I6 m), (I6 o), .sl (bss l) (List.length l) .any], 4, .fresh⟩, ⟨msgc g M, 56, .fresh⟩, ⟨[(I6 0), (I6 0), (I6 0), .sl [] 0 .nil], 4, .fresh⟩]⟩ (by kernel_rfl) ⟨trivial, (by simp), trivial⟩ ?_
          rw [Go.Chu.msg_48 (g) (M)]
          refine RT 1 ?_
          refine KL [25, 27, 28] ⟨[U6, U6, .ptr 0 0, .ptr 1 0, .ptr 2 0, (B6 false)] ++ UU 23 ++ [(B6 (M.n == 0))] ++ UU 48, [⟨[(I6 f), (I6 m), (I6 o), .sl (bss l) (List.length l) .any], 4, .fresh⟩, ⟨msgc g M, 56, .fresh⟩, ⟨[(I6 0), (I6 0), (I6 0), .sl [] 0 .nil], 4, .fresh⟩]⟩ ?_
          refine CN (M.n == 0) (fun h5 => ?_) (fun h5 => ?_)
          · have h5' := eq_of_beq h5
            refine SQ ?_
            refine DerQ.pre 8 (True ∧ (1 < List.length (msgc g M)) ∧ True ∧ (47 < List.length (msgc g M)) ∧ True ∧ (49 < List.length (msgc g M)) ∧ True ∧ (50 < List.length (msgc g M)) ∧ True) ⟨[U6, U6, .ptr 0 0, .ptr 1 0, .ptr 2 0, (B6 false)] ++ UU 23 ++ [(B6 (M.n == 0)), .ptr 1 1, List.getD (msgc g M) 1 U6, .ptr 1 47, List.getD (msgc g M) 47 U6, .ptr 1 49, List.getD (msgc g M) 49 U6, .ptr 1 50, List.getD (msgc g M) 50 AVal.undef] ++ UU 40, [⟨[(I6 f), (I6 m), (I6 o), .sl (bss l) (List.length l) .any], 4, .fresh⟩, ⟨msgc g M, 56, .fresh⟩, ⟨[(I6 0), (I6 0), (I6 0), .sl [] 0 .nil], 4, .fresh⟩]⟩ (by kernel_rfl) ⟨trivial, (by simp), trivial, (by simp), trivial, (by simp), trivial, (by simp), trivial⟩ ?_
            rw [Go.Chu.msg_1 (g) (M)]
            rw [Go.Chu.msg_47 (g) (M)]
            rw [Go.Chu.msg_49 (g) (M)]
            rw [Go.Chu.msg_50 (g) (M)]
            refine RI (True ∧ True ∧ 4 ≤ 4 ∧ True ∧ True) ⟨trivial, trivial, (by omega), trivial, trivial⟩ ?_
            refine AWP.ret ?_
            refine FI (.tup [.agg [.sc (.int .i64 (M.src)), .sc (.int .i64 (M.num)), .sc (.int .i64 (M.cnt)), .sl [.sl (u8s M.data) (List.length M.data) .any] 1 .nn], .sc (.bool true)]) ?_
            refine Shrink.dataK [] (True) (.tup [.agg [.sc (.int .i64 (M.src)), .sc (.int .i64 (M.num)), .sc (.int .i64 (M.cnt)), .sl [.sl (u8s M.data) (List.length M.data) .any] 1 .nn], .sc (.bool true)]) (by kernel_rfl) trivial ?_ rfl
            kernel_rfl
          · have h5' := ne_of_beq_false h5
            exfalso; omega
      · have h3' := of_decide_eq_true h3
        exfalso; omega
    · have h2' := of_decide_eq_true h2
      exfalso; omega
  · have h1' := bne_iff_ne.1 h1
    exfalso; omega
theorem r_take_next (g : Gate) (M : MsgD) (l : List (List Int)) (hl : l.length ≤ 5000) (h : M.kind = 4 ∧ M.n < M.cnt ∧ M.cnt ≤ 4096 ∧ M.n ≠ 0 ∧ M.n = l.length) : EvD Try.prog 15 [.agg [.sc (.int .i64 M.src), .sc (.int .i64 M.num), .sc (.int .i64 M.cnt), .sl (bss l) l.length .any], .agg (msgc g M)] (.tup [.agg [.sc (.int .i64 M.src), .sc (.int .i64 M.num), .sc (.int .i64 M.cnt), .sl (bss (l ++ [M.data])) (l.length + 1) .any], .sc (.bool true)]) := by
  refine EvD.body Try.func15 rfl (by simp [dataAll, AVal.data]) (by simp [dataAll, AVal.data]) ?_
  refine AWP.seq ?_
  refine TO ⟨[.agg [(I6 (M.src)), (I6 (M.num)), (I6 (M.cnt)), .sl (bss l) (List.length l) .any], .agg (msgc g M)] ++ UU 76, []⟩ ?_
  refine AWP.reg (RT 4 ?_)
  refine AWP.seq (AWP.seq (KL [0, 1] ⟨[U6, U6, .ptr 0 0, .ptr 1 0, .ptr 2 0, (B6 false)] ++ UU 72, [⟨[(I6 (M.src)), (I6 (M.num)), (I6 (M.cnt)), .sl (bss l) (List.length l) .any], 4, .fresh⟩, ⟨msgc g M, 56, .fresh⟩, ⟨[(I6 0), (I6 0), (I6 0), .sl [] 0 .nil], 4, .fresh⟩]⟩ ?_))
  refine AWP.reg ?_
  refine DerQ.pre 2 (True ∧ (0 < List.length (msgc g M)) ∧ True) ⟨[U6, U6, .ptr 0 0, .ptr 1 0, .ptr 2 0, (B6 false), .ptr 1 0, List.getD (msgc g M) 0 AVal.undef] ++ UU 70, [⟨[(I6 (M.src)), (I6 (M.num)), (I6 (M.cnt)), .sl (bss l) (List.length l) .any], 4, .fresh⟩, ⟨msgc g M, 56, .fresh⟩, ⟨[(I6 0), (I6 0), (I6 0), .sl [] 0 .nil], 4, .fresh⟩]⟩ (by kernel_rfl) ⟨trivial, (by simp), trivial⟩ ?_
  rw [Go.Chu.msg_0 (g) (M)]
  refine PT 2 2 ?_
  refine DerQ.to ⟨[U6, U6, .ptr 0 0, .ptr 1 0, .ptr 2 0, (B6 false), .ptr 1 0, (I6 (M.kind)), (B6 (M.kind != 4)), (B6 (M.kind != 4))] ++ UU 68, [⟨[(I6 (M.src)), (I6 (M.num)), (I6 (M.cnt)), .sl (bss l) (List.length l) .any], 4, .fresh⟩, ⟨msgc g M, 56, .fresh⟩, ⟨[(I6 0), (I6 0), (I6 0), .sl [] 0 .nil], 4, .fresh⟩]⟩ (by kernel_rfl) ?_
  cases h1 : (M.kind != 4)
  · have h1' := bne_eq_false_iff_eq.1 h1
    refine DerQ.pre 2 (True ∧ (48 < List.length (msgc g M)) ∧ True) ⟨[U6, U6, .ptr 0 0, .ptr 1 0, .ptr 2 0, (B6 false), .ptr 1 0, (I6 (M.kind)), (B6 false), (B6 false), .ptr 1 48, List.getD (msgc g M) 48 AVal.undef] ++ UU 66, [⟨[(I6 (M.src)), (I6 (M.num)), (I6 (M.cnt)), .sl (bss l) (List.length l) .any], 4, .fresh⟩, ⟨msgc g M, 56, .fresh⟩, ⟨[(I6 0), (I6 0), (I6 0), .sl [] 0 .nil], 4, .fresh⟩]⟩ (by kernel_rfl) ⟨trivial, (by simp), trivial⟩ ?_
    rw [Go.Chu.msg_48 (g) (M)]
    refine PT 3 3 ?_
    refine DerQ.to ⟨[U6, U6, .ptr 0 0, .ptr 1 0, .ptr 2 0, (B6 false), .ptr 1 0, (I6 (M.kind)), (B6 false), (B6 false), .ptr 1 48, (I6 (M.n)), (B6 (decide (M.n < 0))), (B6 (decide (M.n < 0))), (B6 (decide (M.n < 0)))] ++ UU 63, [⟨[(I6 (M.src)), (I6 (M.num)), (I6 (M.cnt)), .sl (bss l) (List.length l) .any], 4, .fresh⟩, ⟨msgc g M, 56, .fresh⟩, ⟨[(I6 0), (I6 0), (I6 0), .sl [] 0 .nil], 4, .fresh⟩]⟩ (by kernel_rfl) ?_
    cases h2 : (decide (M.n < 0))
    · have h2' := of_decide_eq_false h2
      refine DerQ.pre 4 (True ∧ (48 < List.length (msgc g M)) ∧ True ∧ (49 < List.length (msgc g M)) ∧ True) ⟨[U6, U6, .ptr 0 0, .ptr 1 0, .ptr 2 0, (B6 false), .ptr 1 0, (I6 (M.kind)), (B6 false), (B6 false), .ptr 1 48, (I6 (M.n)), (B6 false), (B6 false), (B6 false), .ptr 1 48, List.getD (msgc g M) 48 U6, .ptr 1 49, List.getD (msgc g M) 49 AVal.undef] ++ UU 59, [⟨[(I6 (M.src)), (I6 (M.num)), (I6 (M.cnt)), .sl (bss l) (List.length l) .any], 4, .fresh⟩, ⟨msgc g M, 56, .fresh⟩, ⟨[(I6 0), (I6 0), (I6 0), .sl [] 0 .nil], 4, .fresh⟩]⟩ (by kernel_rfl) ⟨trivial, (by simp), trivial, (by simp), trivial⟩ ?_
      rw [Go.Chu.msg_48 (g) (M)]
      rw [Go.Chu.msg_49 (g) (M)]
      refine PT 3 3 ?_
      refine DerQ.to ⟨[U6, U6, .ptr 0 0, .ptr 1 0, .ptr 2 0, (B6 false), .ptr 1 0, (I6 (M.kind)), (B6 false), (B6 false), .ptr 1 48, (I6 (M.n)), (B6 false), (B6 false), (B6 false), .ptr 1 48, (I6 (M.n)), .ptr 1 49, (I6 (M.cnt)), (B6 (decide (M.n ≥ M.cnt))), (B6 (decide (M.n ≥ M.cnt))), (B6 (decide (M.n ≥ M.cnt)))] ++ UU 56, [⟨[(I6 (M.src)), (I6 (M.num)), (I6 (M.cnt)), .sl (bss l) (List.length l) .any], 4, .fresh⟩, ⟨msgc g M, 56, .fresh⟩, ⟨[(I6 0), (I6 0), (I6 0), .sl [] 0 .nil], 4, .fresh⟩]⟩ (by kernel_rfl) ?_
      cases h3 : (decide (M.n ≥ M.cnt))
      · have h3' := of_decide_eq_false h3
        refine DerQ.pre 2 (True ∧ (49 < List.length (msgc g M)) ∧ True) ⟨[U6, U6, .ptr 0 0, .ptr 1 0, .ptr 2 0, (B6 false), .ptr 1 0, (I6 (M.kind)), (B6 false), (B6 false), .ptr 1 48, (I6 (M.n)), (B6 false), (B6 false), (B6 false), .ptr 1 48, (I6 (M.n)), .ptr 1 49, (I6 (M.cnt)), (B6 false), (B6 false), (B6 false), .ptr 1 49, List.getD (msgc g M) 49 AVal.undef] ++ UU 54, [⟨[(I6 (M.src)), (I6 (M.num)), (I6 (M.cnt)), .sl (bss l) (List.length l) .any], 4, .fresh⟩, ⟨msgc g M, 56, .fresh⟩, ⟨[(I6 0), (I6 0), (I6 0), .sl [] 0 .nil], 4, .fresh⟩]⟩ (by kernel_rfl) ⟨trivial, (by simp), trivial⟩ ?_
        rw [Go.Chu.msg_49 (g) (M)]
        refine RT 2 ?_
        refine KL (NN 6 19) ⟨[U6, U6, .ptr 0 0, .ptr 1 0, .ptr 2 0, (B6 false)] ++ UU 19 ++ [(B6 (decide (M.cnt > 4096)))] ++ UU 52, [⟨[(I6 (M.src)), (I6 (M.num)), (I6 (M.cnt)), .sl (bss l) (List.length l) .any], 4, .fresh⟩, ⟨msgc g M, 56, .fresh⟩, ⟨[(I6 0), (I6 0), (I6 0), .sl [] 0 .nil], 4, .fresh⟩]⟩ ?_
        refine CN (decide (M.cnt > 4096)) (fun h4 => ?_) (fun h4 => ?_)
        · have h4' := of_decide_eq_true h4
          exfalso; omega
        · have h4' := of_decide_eq_false h4
          refine AWP.skip (AWP.seq (SQ ?_))
          refine DerQ.pre 2 (True ∧ (48 < List.length (msgc g M)) ∧ True) ⟨[U6, U6, .ptr 0 0, .ptr 1 0, .ptr 2 0, (B6 false)] ++ UU 19 ++ [(B6 (decide (M.cnt > 4096))), U6, .ptr 1 48, List.getD (msgc g M) 48 AVal.undef] ++ UU 49, [⟨[(I6 (M.src)), (I6 (M.num)), (I6 (M.cnt)), .sl (bss l) (List.length l) .any], 4, .fresh⟩, ⟨msgc g M, 56, .fresh⟩, ⟨[(I6 0), (I6 0), (I6 0), .sl [] 0 .nil], 4, .fresh⟩]⟩ (by kernel_rfl) ⟨trivial, (by simp), trivial⟩ ?_
          rw [Go.Chu.msg_48 (g) (M)]
          refine RT 1 ?_
          refine KL [25, 27, 28] ⟨[U6, U6, .ptr 0 0, .ptr 1 0, .ptr 2 0, (B6 false)] ++ UU 23 ++ [(B6 (M.n == 0))] ++ UU 48, [⟨[(I6 (M.src)), (I6 (M.num)), (I6 (M.cnt)), .sl (bss l) (List.length l) .any], 4, .fresh⟩, ⟨msgc g M, 56, .fresh⟩, ⟨[(I6 0), (I6 0), (I6 0), .sl [] 0 .nil], 4, .fresh⟩]⟩ ?_
          refine CN (M.n == 0) (fun h5 => ?_) (fun h5 => ?_)
          · have h5' := eq_of_beq h5
            exfalso; omega
          · have h5' := ne_of_beq_false h5
            refine AWP.skip (AWP.seq (SQ ?_))
            refine DerQ.pre 4 (True ∧ (1 < List.length (msgc g M)) ∧ True ∧ 0 < 4 ∧ True) ⟨[U6, U6, .ptr 0 0, .ptr 1 0, .ptr 2 0, (B6 false)] ++ UU 23 ++ [(B6 (M.n == 0))] ++ UU 10 ++ [.ptr 1 1, List.getD (msgc g M) 1 U6, .ptr 0 0, (I6 (M.src))] ++ UU 34, [⟨[(I6 (M.src)), (I6 (M.num)), (I6 (M.cnt)), .sl (bss l) (List.length l) .any], 4, .fresh⟩, ⟨msgc g M, 56, .fresh⟩, ⟨[(I6 0), (I6 0), (I6 0), .sl [] 0 .nil], 4, .fresh⟩]⟩ (by kernel_rfl) ⟨trivial, (by simp), trivial, (by omega), trivial⟩ ?_
            rw [Go.Chu.msg_1 (g) (M)]
            refine PT 2 2 ?_
            refine DerQ.to ⟨[U6, U6, .ptr 0 0, .ptr 1 0, .ptr 2 0, (B6 false)] ++ UU 23 ++ [(B6 (M.n == 0))] ++ UU 10 ++ [.ptr 1 1, (I6 (M.src)), .ptr 0 0, (I6 (M.src)), (B6 (M.src != M.src)), (B6 (M.src != M.src))] ++ UU 32, [⟨[(I6 (M.src)), (I6 (M.num)), (I6 (M.cnt)), .sl (bss l) (List.length l) .any], 4, .fresh⟩, ⟨msgc g M, 56, .fresh⟩, ⟨[(I6 0), (I6 0), (I6 0), .sl [] 0 .nil], 4, .fresh⟩]⟩ (by kernel_rfl) ?_
            cases h6 : (M.src != M.src)
            · have h6' := bne_eq_false_iff_eq.1 h6
              refine DerQ.pre 4 (True ∧ (47 < List.length (msgc g M)) ∧ True ∧ 1 < 4 ∧ True) ⟨[U6, U6, .ptr 0 0, .ptr 1 0, .ptr 2 0, (B6 false)] ++ UU 23 ++ [(B6 (M.n == 0))] ++ UU 10 ++ [.ptr 1 1, (I6 (M.src)), .ptr 0 0, (I6 (M.src)), (B6 false), (B6 false), .ptr 1 47, List.getD (msgc g M) 47 U6, .ptr 0 1, (I6 (M.num))] ++ UU 28, [⟨[(I6 (M.src)), (I6 (M.num)), (I6 (M.cnt)), .sl (bss l) (List.length l) .any], 4, .fresh⟩, ⟨msgc g M, 56, .fresh⟩, ⟨[(I6 0), (I6 0), (I6 0), .sl [] 0 .nil], 4, .fresh⟩]⟩ (by kernel_rfl) ⟨trivial, (by simp), trivial, (by omega), trivial⟩ ?_
              rw [Go.Chu.msg_47 (g) (M)]
              refine PT 3 3 ?_
              refine DerQ.to ⟨[U6, U6, .ptr 0 0, .ptr 1 0, .ptr 2 0, (B6 false)] ++ UU 23 ++ [(B6 (M.n == 0))] ++ UU 10 ++ [.ptr 1 1, (I6 (M.src)), .ptr 0 0, (I6 (M.src)), (B6 false), (B6 false), .ptr 1 47, (I6 (M.num)), .ptr 0 1, (I6 (M.num)), (B6 (M.num != M.num)), (B6 (M.num != M.num)), (B6 (M.num != M.num))] ++ UU 25, [⟨[(I6 (M.src)), (I6 (M.num)), (I6 (M.cnt)), .sl (bss l) (List.length l) .any], 4, .fresh⟩, ⟨msgc g M, 56, .fresh⟩, ⟨[(I6 0), (I6 0), (I6 0), .sl [] 0 .nil], 4, .fresh⟩]⟩ (by kernel_rfl) ?_
              cases h7 : (M.num != M.num)
              · have h7' := bne_eq_false_iff_eq.1 h7
                refine DerQ.pre 4 (True ∧ (49 < List.length (msgc g M)) ∧ True ∧ 2 < 4 ∧ True) ⟨[U6, U6, .ptr 0 0, .ptr 1 0, .ptr 2 0, (B6 false)] ++ UU 23 ++ [(B6 (M.n == 0))] ++ UU 10 ++ [.ptr 1 1, (I6 (M.src)), .ptr 0 0, (I6 (M.src)), (B6 false), (B6 false), .ptr 1 47, (I6 (M.num)), .ptr 0 1, (I6 (M.num)), (B6 false), (B6 false), (B6 false), .ptr 1 49, List.getD (msgc g M) 49 U6, .ptr 0 2, (I6 (M.cnt))] ++ UU 21, [⟨[(I6 (M.src)), (I6 (M.num)), (I6 (M.cnt)), .sl (bss l) (List.length l) .any], 4, .fresh⟩, ⟨msgc g M, 56, .fresh⟩, ⟨[(I6 0), (I6 0), (I6 0), .sl [] 0 .nil], 4, .fresh⟩]⟩ (by kernel_rfl) ⟨trivial, (by simp), trivial, (by omega), trivial⟩ ?_
                rw [Go.Chu.msg_49 (g) (M)]
                refine PT 3 3 ?_
                refine DerQ.to ⟨[U6, U6, .ptr 0 0, .ptr 1 0, .ptr 2 0, (B6 false)] ++ UU 23 ++ [(B6 (M.n == 0))] ++ UU 10 ++ [.ptr 1 1, (I6 (M.src)), .ptr 0 0, (I6 (M.src)), (B6 false), (B6 false), .ptr 1 47, (I6 (M.num)), .ptr 0 1, (I6 (M.num)), (B6 false), (B6 false), (B6 false), .ptr 1 49, (I6 (M.cnt)), .ptr 0 2, (I6 (M.cnt)), (B6 (M.cnt != M.cnt)), (B6 (M.cnt != M.cnt)), (B6 (M.cnt != M.cnt))] ++ UU 18, [⟨[(I6 (M.src)), (I6 (M.num)), (I6 (M.cnt)), .sl (bss l) (List.length l) .any], 4, .fresh⟩, ⟨msgc g M, 56, .fresh⟩, ⟨[(I6 0), (I6 0), (I6 0), .sl [] 0 .nil], 4, .fresh⟩]⟩ (by kernel_rfl) ?_
                cases h8 : (M.cnt != M.cnt)
                · have h8' := bne_eq_false_iff_eq.1 h8
                  refine DerQ.pre 5 (True ∧ (48 < List.length (msgc g M)) ∧ True ∧ 3 < 4 ∧ True ∧ True) ⟨[U6, U6, .ptr 0 0, .ptr 1 0, .ptr 2 0, (B6 false)] ++ UU 23 ++ [(B6 (M.n == 0))] ++ UU 10 ++ [.ptr 1 1, (I6 (M.src)), .ptr 0 0, (I6 (M.src)), (B6 false), (B6 false), .ptr 1 47, (I6 (M.num)), .ptr 0 1, (I6 (M.num)), (B6 false), (B6 false), (B6 false), .ptr 1 49, (I6 (M.cnt)), .ptr 0 2, (I6 (M.cnt)), (B6 false), (B6 false), (B6 false), .ptr 1 48, List.getD (msgc g M) 48 U6, .ptr 0 3, .sl (bss l) (List.length l) .any, (I6 (↑(List.length l) : Int))] ++ UU 13, [⟨[(I6 (M.src)), (I6 (M.num)), (I6 (M.cnt)), .sl (bss l) (List.length l) .any], 4, .fresh⟩, ⟨msgc g M, 56, .fresh⟩, ⟨[(I6 0), (I6 0), (I6 0), .sl [] 0 .nil], 4, .fresh⟩]⟩ (by kernel_rfl) ⟨trivial, (by simp), trivial, (by omega), trivial, trivial⟩ ?_
                  rw [Go.Chu.msg_48 (g) (M)]
                  refine RT 2 ?_
                  refine KL ([29] ++ NN 40 26) ⟨[U6, U6, .ptr 0 0, .ptr 1 0, .ptr 2 0, (B6 false)] ++ UU 60 ++ [(B6 (M.n != (↑(List.length l) : Int)))] ++ UU 11, [⟨[(I6 (M.src)), (I6 (M.num)), (I6 (M.cnt)), .sl (bss l) (List.length l) .any], 4, .fresh⟩, ⟨msgc g M, 56, .fresh⟩, ⟨[(I6 0), (I6 0), (I6 0), .sl [] 0 .nil], 4, .fresh⟩]⟩ ?_
                  refine CN (M.n != (↑(List.length l) : Int)) (fun h9 => ?_) (fun h9 => ?_)
                  · have h9' := bne_iff_ne.1 h9
                    exfalso; omega
                  · have h9' := bne_eq_false_iff_eq.1 h9
                    refine AWP.skip (AWP.seq ?_)
                    refine AWP.drawB mixed (fun o => if [].contains (o.dst.getD 0) then 1 else if [].contains (o.dst.getD 0) then 2 else if [71, 75, 0, 70].contains (o.dst.getD 0) then 3 else 0) 0 3 (fun x => [⟨x 0, 4, .fresh⟩, ⟨msgc g M, 56, .fresh⟩, ⟨[(I6 0), (I6 0), (I6 0), .sl [] 0 .nil], 4, .fresh⟩]) ⟨[U6, U6, .ptr 0 0, .ptr 1 0, .ptr 2 0, (B6 false)] ++ UU 60 ++ [(B6 (M.n != (↑(List.length l) : Int)))] ++ UU 11, [⟨[(I6 (M.src)), (I6 (M.num)), (I6 (M.cnt)), .sl (bss l) (List.length l) .any], 4, .fresh⟩, ⟨msgc g M, 56, .fresh⟩, ⟨[(I6 0), (I6 0), (I6 0), .sl [] 0 .nil], 4, .fresh⟩]⟩ (by kernel_rfl) ⟨by kernel_rfl, by kernel_rfl⟩ (by kernel_rfl) ?_
                    refine DerZ.preI 2 ((True) ∧ ((True) ∧ (True))) (by intro x ext; kernel_rfl) ⟨trivial, ⟨trivial, trivial⟩⟩ ?_
                    refine DerZ.effI 3 ((3 : Nat) < (4 : Nat)) (by kernel_rfl) ⟨⟨by kernel_rfl, by kernel_rfl⟩, by kernel_rfl⟩ (by omega) ?_
                    refine DerZ.effI 3 ((List.length (bss l) = List.length l * 1) ∧ (List.length l ≤ 1073741824)) (by kernel_rfl) ⟨⟨by kernel_rfl, by kernel_rfl⟩, by kernel_rfl⟩ ⟨(by simp), (by omega)⟩ ?_
                    refine DerZ.pre 2 ((True) ∧ ((50 < List.length (msgc g M)) ∧ (True))) [.ptr 1 50, List.getD (msgc g M) 50 AVal.undef] ⟨[U6, U6, .ptr 0 0, .ptr 1 0, .ptr 2 0, (B6 false)] ++ UU 60 ++ [(B6 (M.n != (↑(List.length l) : Int))), U6, .sl [] 0 .cap0, .ptr 0 3, .sl (bss l) (List.length l) .any, .row 3 0 (List.length l), .ptr 1 50, List.getD (msgc g M) 50 U6, U6, U6, U6, .undef], [⟨[(I6 (M.src)), (I6 (M.num)), (I6 (M.cnt)), .sl (bss l) (List.length l) .any], 4, .fresh⟩, ⟨msgc g M, 56, .fresh⟩, ⟨[(I6 0), (I6 0), (I6 0), .sl [] 0 .nil], 4, .fresh⟩, ⟨bss l, 1, .fresh⟩]⟩ (by intro x ext; kernel_rfl) (by kernel_rfl) ⟨trivial, ⟨(by simp), trivial⟩⟩ ?_
                    rw [Go.Chu.msg_50 (g) (M)]
                    refine DerZ.quietI (True) (by intro x ext; kernel_rfl) (by kernel_rfl) trivial ?_
                    refine DerZ.eff 3 (((1 : Nat) = (1 : Nat)) ∧ (((1 : Nat) = (1 : Nat)) ∧ ((List.length l * 1 = List.length (bss l)) ∧ ((List.length l + 1 ≤ 1073741824) ∧ ((dataAll (bss l ++ [AVal.sl (u8s M.data) (List.length M.data) SlK.any]) = true) ∧ (∀ (i : Nat), i < 1 → AVal.one (List.getD [AVal.sl (u8s M.data) (List.length M.data) SlK.any] i AVal.undef) = true)))))) (.row 3 0 (List.length l + 1)) [⟨[(I6 (M.src)), (I6 (M.num)), (I6 (M.cnt)), .sl (bss l) (List.length l) .any], 4, .fresh⟩, ⟨msgc g M, 56, .fresh⟩, ⟨[(I6 0), (I6 0), (I6 0), .sl [] 0 .nil], 4, .fresh⟩, ⟨bss l ++ [AVal.sl (u8s M.data) (List.length M.data) SlK.any], 1, .grown⟩] ⟨[U6, U6, .ptr 0 0, .ptr 1 0, .ptr 2 0, (B6 false)] ++ UU 60 ++ [(B6 (M.n != (↑(List.length l) : Int))), U6, .sl [] 0 .cap0, .ptr 0 3, .sl (bss l) (List.length l) .any, .row 3 0 (List.length l), .ptr 1 50, .sl (u8s M.data) (List.length M.data) .any, .sl [.sl (u8s M.data) (List.length M.data) .any] 1 .nn, .row 3 0 (List.length l + 1), U6, .undef], [⟨[(I6 (M.src)), (I6 (M.num)), (I6 (M.cnt)), .sl (bss l) (List.length l) .any], 4, .fresh⟩, ⟨msgc g M, 56, .fresh⟩, ⟨[(I6 0), (I6 0), (I6 0), .sl [] 0 .nil], 4, .fresh⟩, ⟨bss l ++ [AVal.sl (u8s M.data) (List.length M.data) SlK.any], 1, .grown⟩]⟩ (by kernel_rfl) ⟨⟨by kernel_rfl, by kernel_rfl⟩, by kernel_rfl, by kernel_rfl⟩ ⟨(by omega), ⟨(by omega), ⟨(by simp), ⟨(by omega), ⟨(by (exact snoc_data _ _)), (by (exact one_sl _ _ _))⟩⟩⟩⟩⟩ ?_
                    rw [Go.Chu.bss_snoc (l) (M.data)]
                    refine DerZ.quiet (True) (.ptr 0 3) ⟨[U6, U6, .ptr 0 0, .ptr 1 0, .ptr 2 0, (B6 false)] ++ UU 60 ++ [(B6 (M.n != (↑(List.length l) : Int))), U6, .sl [] 0 .cap0, .ptr 0 3, .sl (bss l) (List.length l) .any, .row 3 0 (List.length l), .ptr 1 50, .sl (u8s M.data) (List.length M.data) .any, .sl [.sl (u8s M.data) (List.length M.data) .any] 1 .nn, .row 3 0 (List.length l + 1), .ptr 0 3, .undef], [⟨[(I6 (M.src)), (I6 (M.num)), (I6 (M.cnt)), .sl (bss l) (List.length l) .any], 4, .fresh⟩, ⟨msgc g M, 56, .fresh⟩, ⟨[(I6 0), (I6 0), (I6 0), .sl [] 0 .nil], 4, .fresh⟩, ⟨bss (l ++ [M.data]), 1, .grown⟩]⟩ (by intro x ext; kernel_rfl) ⟨by kernel_rfl, by kernel_rfl⟩ trivial ?_
                    refine DerZ.eff 3 ((4 : Nat) ≤ (4 : Nat)) (.tup []) [⟨[(I6 (M.src)), (I6 (M.num)), (I6 (M.cnt)), .row 3 0 (List.length l + 1)], 4, .fresh⟩, ⟨msgc g M, 56, .fresh⟩, ⟨[(I6 0), (I6 0), (I6 0), .sl [] 0 .nil], 4, .fresh⟩, ⟨bss (l ++ [M.data]), 1, .grown⟩] ⟨[U6, U6, .ptr 0 0, .ptr 1 0, .ptr 2 0, (B6 false)] ++ UU 60 ++ [(B6 (M.n != (↑(List.length l) : Int))), U6, .sl [] 0 .cap0, .ptr 0 3, .sl (bss l) (List.length l) .any, .row 3 0 (List.length l), .ptr 1 50, .sl (u8s M.data) (List.length M.data) .any, .sl [.sl (u8s M.data) (List.length M.data) .any] 1 .nn, .row 3 0 (List.length l + 1), .ptr 0 3, .undef], [⟨[(I6 (M.src)), (I6 (M.num)), (I6 (M.cnt)), .row 3 0 (List.length l + 1)], 4, .fresh⟩, ⟨msgc g M, 56, .fresh⟩, ⟨[(I6 0), (I6 0), (I6 0), .sl [] 0 .nil], 4, .fresh⟩, ⟨bss (l ++ [M.data]), 1, .grown⟩]⟩ (by kernel_rfl) ⟨⟨by kernel_rfl, by kernel_rfl⟩, by kernel_rfl, by kernel_rfl⟩ (by omega) ?_
                    refine DerZ.nil ?_
                    refine AWP.seq (KL ([3, 66] ++ NN 68 9) ⟨[U6, U6, .ptr 0 0, U6, .ptr 2 0, (B6 false)] ++ UU 72, [⟨[(I6 (M.src)), (I6 (M.num)), (I6 (M.cnt)), .row 3 0 (List.length l + 1)], 4, .fresh⟩, ⟨msgc g M, 56, .fresh⟩, ⟨[(I6 0), (I6 0), (I6 0), .sl [] 0 .nil], 4, .fresh⟩, ⟨bss (l ++ [M.data]), 1, .grown⟩]⟩ ?_)
                    refine AWP.reg ?_
                    refine DerQ.run (4 ≤ 4 ∧ 4 ≤ 4 ∧ True ∧ True) ⟨[U6, U6, .ptr 0 0, U6, .ptr 2 0, (B6 true)] ++ UU 71 ++ [.agg [(I6 (M.src)), (I6 (M.num)), (I6 (M.cnt)), .row 3 0 (List.length l + 1)]], [⟨[(I6 (M.src)), (I6 (M.num)), (I6 (M.cnt)), .row 3 0 (List.length l + 1)], 4, .fresh⟩, ⟨msgc g M, 56, .fresh⟩, ⟨[(I6 (M.src)), (I6 (M.num)), (I6 (M.cnt)), .row 3 0 (List.length l + 1)], 4, .fresh⟩, ⟨bss (l ++ [M.data]), 1, .grown⟩]⟩ (by kernel_rfl) ⟨(by omega), (by omega), trivial, trivial⟩ ?_
                    refine AWP.ret ?_
                    refine FI (.tup [.agg [.sc (.int .i64 (M.src)), .sc (.int .i64 (M.num)), .sc (.int .i64 (M.cnt)), .row 3 0 (List.length l + 1)], .sc (.bool true)]) ?_
                    refine Shrink.dataK [3] ((dataAll (bss (l ++ [M.data])) = true) ∧ (True)) (.tup [.agg [.sc (.int .i64 (M.src)), .sc (.int .i64 (M.num)), .sc (.int .i64 (M.cnt)), .sl (List.take ((List.length l + 1) * 1) (List.drop 0 (bss (l ++ [M.data])))) (List.length l + 1) .any], .sc (.bool true)]) (by kernel_rfl) ⟨(by (exact dataAll_bss _)), trivial⟩ ?_ rfl
                    (rw [List.drop_zero, Nat.mul_one, List.take_of_length_le (by simp [bss_length])]; rfl; done)
                · have h8' := bne_iff_ne.1 h8
                  exfalso; omega
              · have h7' := bne_iff_ne.1 h7
                exfalso; omega
            · have h6' := bne_iff_ne.1 h6
              exfalso; omega
      · have h3' := of_decide_eq_true h3
        exfalso; omega
    · have h2' := of_decide_eq_true h2
      exfalso; omega
  · have h1' := bne_iff_ne.1 h1
    exfalso; omega
theorem r_join (f m o : Int) (l : List (List Int)) (hl : l.length ≤ 1000) (hs : l.flatten.length ≤ 1000000) : EvD Try.prog 27 [.agg [.sc (.int .i64 f), .sc (.int .i64 m), .sc (.int .i64 o), .sl (bss l) l.length .any]] (.sl (u8s l.flatten) l.flatten.length .any) := by
  refine EvD.body Try.func27 rfl rfl rfl ?_
  refine AWP.seq ?_
  refine TO ⟨[.agg [(I6 f), (I6 m), (I6 o), .sl (bss l) (List.length l) .any]] ++ UU 19, []⟩ ?_
  refine AWP.reg (RT 2 ?_)
  refine AWP.seq (KL [0] ⟨[U6, .ptr 0 0, .sl [] 0 .nil] ++ UU 17, [⟨[(I6 f), (I6 m), (I6 o), .sl (bss l) (List.length l) .any], 4, .fresh⟩]⟩ ?_)
  refine AWP.reg (RT 1 ?_)
  refine AWP.seq (AWP.seq ?_)
  refine TO ⟨[U6, .ptr 0 0, .sl [] 0 .nil, .sl [] 0 .nil] ++ UU 16, [⟨[(I6 f), (I6 m), (I6 o), .sl (bss l) (List.length l) .any], 4, .fresh⟩]⟩ ?_
  refine AWP.reg (RT 1 ?_)
  refine AWP.block ?_
  refine TO ⟨[U6, .ptr 0 0, .sl [] 0 .nil, .sl [] 0 .nil, (I6 0)] ++ UU 15, [⟨[(I6 f), (I6 m), (I6 o), .sl (bss l) (List.length l) .any], 4, .fresh⟩]⟩ ?_
  refine AWP.virt 3 1 ⟨[U6, .ptr 0 0, .sl [] 0 .nil, .row 1 0 0, (I6 0)] ++ UU 15, [⟨[(I6 f), (I6 m), (I6 o), .sl (bss l) (List.length l) .any], 4, .fresh⟩, ⟨[], 1, .fresh⟩]⟩ ⟨by kernel_rfl, by kernel_rfl⟩ ?_
  refine AWP.grow 1 ⟨[], 1, .fresh⟩ ⟨[U6, .ptr 0 0, .sl [] 0 .nil, .row 1 0 0, (I6 0), U6, U6, U6, U6, U6, U6, U6, U6, U6, U6, U6, U6, U6, U6, .undef], [⟨[(I6 f), (I6 m), (I6 o), .sl (bss l) (List.length l) .any], 4, .fresh⟩, ⟨[], 1, .grown⟩]⟩ ⟨by kernel_rfl, by kernel_rfl⟩ rfl rfl ?_
  refine AWP.loopM [false, true, true, true, true, false, false, false, false, false, false, false, false, false, false, false, false, false, false, false] (fun kk st => ∃ (j : Nat), kk = l.length - j ∧ j ≤ l.length ∧ st = ⟨[U6, .ptr 0 0, .sl [] 0 .nil, .row 1 0 (flt l j), (I6 (j : Int)), U6, U6, U6, U6, U6, U6, U6, U6, U6, U6, U6, U6, U6, U6, .undef], [⟨[(I6 f), (I6 m), (I6 o), .sl (bss l) (List.length l) .any], 4, .fresh⟩, ⟨u8s ((l.take j).flatten), 1, .grown⟩]⟩) _ ⟨0, rfl, by omega, by kernel_rfl⟩ ?_
  rintro kk s ⟨j, rfl, hj, rfl⟩
  have hle := flt_le l j
  have hit := item_le l j
  refine AWP.seq (SQ (RI (True ∧ True ∧ 3 < 4 ∧ True ∧ True ∧ True) ⟨trivial, trivial, (by omega), trivial, trivial, trivial⟩ ?_))
  refine KL [5, 6, 7, 8] ⟨[U6, .ptr 0 0, .sl [] 0 .nil, .row 1 0 (flt l j), (I6 (↑j : Int)), U6, U6, U6, U6, (B6 (decide ((↑j : Int) < (↑(List.length l) : Int))))] ++ UU 10, [⟨[(I6 f), (I6 m), (I6 o), .sl (bss l) (List.length l) .any], 4, .fresh⟩, ⟨u8s (List.flatten (List.take j l)), 1, .grown⟩]⟩ ?_
  refine CN (decide ((↑j : Int) < (↑(List.length l) : Int))) (fun h1 => ?_) (fun h1 => ?_)
  · have h1' := of_decide_eq_true h1
    refine AWP.skip (AWP.seq (AWP.block (AWP.reg ?_)))
    refine DerQ.pre 6 (True ∧ True ∧ 3 < 4 ∧ True ∧ (((0 ≤ (↑j : Int)) ∧ ((↑j : Int) < (↑(List.length l) : Int))) ∧ (Int.toNat (↑j : Int) * 1 + 1 ≤ List.length (bss l))) ∧ 0 < 1 ∧ True) ⟨[U6, .ptr 0 0, .sl [] 0 .nil, .row 1 0 (flt l j), (I6 (↑j : Int)), U6, U6, U6, U6, (B6 (decide ((↑j : Int) < (↑(List.length l) : Int)))), U6, U6, .row 1 0 (flt l j), .ptr 0 3, .sl (bss l) (List.length l) .any, (I6 (↑j : Int)), .dptr [List.getD (bss l) (Int.toNat (↑j : Int) * 1 + 0) AVal.undef], List.getD [List.getD (bss l) (Int.toNat (↑j : Int) * 1 + 0) AVal.undef] 0 U6, U6, .undef], [⟨[(I6 f), (I6 m), (I6 o), .sl (bss l) (List.length l) .any], 4, .fresh⟩, ⟨u8s (List.flatten (List.take j l)), 1, .grown⟩]⟩ (by kernel_rfl) ⟨trivial, trivial, (by omega), trivial, ⟨⟨(by omega), (by omega)⟩, (by (simp [spliceA_length] <;> omega))⟩, (by omega), trivial⟩ ?_
    rw [Int.toNat_natCast (j)]
    rw [Nat.mul_one (j)]
    rw [Nat.add_zero (j)]
    rw [Go.Chu.bss_getD (l) (j) (by omega)]
    refine DerQ.run (((List.length (u8s (List.getD l j [])) = List.length (List.getD l j []) * 1) ∧ (((1 : Nat) = (1 : Nat)) ∧ ((flt l j * 1 = List.length (u8s (List.flatten (List.take j l)))) ∧ ((flt l j + List.length (List.getD l j []) ≤ 1073741824) ∧ ((dataAll (u8s (List.flatten (List.take j l)) ++ u8s (List.getD l j [])) = true) ∧ (∀ (i : Nat), i < List.length (u8s (List.getD l j [])) → AVal.one (List.getD (u8s (List.getD l j [])) i AVal.undef) = true)))))) ∧ True ∧ True) ⟨[U6, .ptr 0 0, .sl [] 0 .nil, .row 1 0 (flt l j + List.length (List.getD l j [])), (I6 (↑j : Int)), U6, U6, U6, U6, (B6 (decide ((↑j : Int) < (↑(List.length l) : Int)))), U6, U6, .row 1 0 (flt l j), .ptr 0 3, .sl (bss l) (List.length l) .any, (I6 (↑j : Int)), .dptr [.sl (u8s (List.getD l j [])) (List.length (List.getD l j [])) .any], .sl (u8s (List.getD l j [])) (List.length (List.getD l j [])) .any, .row 1 0 (flt l j + List.length (List.getD l j [])), .undef], [⟨[(I6 f), (I6 m), (I6 o), .sl (bss l) (List.length l) .any], 4, .fresh⟩, ⟨u8s (List.flatten (List.take j l)) ++ u8s (List.getD l j []), 1, .grown⟩]⟩ (by kernel_rfl) ⟨⟨(by simp), ⟨(by omega), ⟨(by (rw [u8s_length, Nat.mul_one]; rfl)), ⟨(by omega), ⟨(by (simp only [byteV_map, dataAll_append, dataAll_u8s, Bool.and_self])), (by exact u8s_one _)⟩⟩⟩⟩⟩, trivial, trivial⟩ ?_
    rw [Go.Abs.u8s_append (List.flatten (List.take j l)) (List.getD l j [])]
    rw [Go.Chu.flt_stepN (l) (j) (by omega)]
    rw [Go.Chu.take_flat' (l) (j) (by omega)]
    refine KL ([9] ++ NN 12 7) ⟨[U6, .ptr 0 0, .sl [] 0 .nil, .row 1 0 (flt l (j + 1)), (I6 (↑j : Int))] ++ UU 15, [⟨[(I6 f), (I6 m), (I6 o), .sl (bss l) (List.length l) .any], 4, .fresh⟩, ⟨u8s (List.flatten (List.take (j + 1) l)), 1, .grown⟩]⟩ ?_
    refine AWP.reg ?_
    refine DerQ.run (TT 3) ⟨[U6, .ptr 0 0, .sl [] 0 .nil, .row 1 0 (flt l (j + 1)), (I6 (IntKind.wrap IntKind.i64 ((↑j : Int) + 1)))] ++ UU 5 ++ [(I6 (↑j : Int)), (I6 (IntKind.wrap IntKind.i64 ((↑j : Int) + 1)))] ++ UU 8, [⟨[(I6 f), (I6 m), (I6 o), .sl (bss l) (List.length l) .any], 4, .fresh⟩, ⟨u8s (List.flatten (List.take (j + 1) l)), 1, .grown⟩]⟩ (by kernel_rfl) (tt 3) ?_
    rw [IntWalk.i64_in ((↑j : Int) + 1) (by omega)]
    (exact ⟨_, by omega, j + 1, rfl, by omega, by kernel_rfl⟩; done)
  · have h1' := of_decide_eq_false h1
    refine AWP.exit ?_
    refine SQ (RT 2 ?_)
    refine AWP.ret ?_
    refine FI (.row 1 0 (flt l j)) ?_
    refine Shrink.dataK [1] ((dataAll (u8s (List.flatten (List.take j l))) = true) ∧ (True)) (.sl (List.take (flt l j * 1) (List.drop 0 (u8s (List.flatten (List.take j l))))) (flt l j) .any) (by kernel_rfl) ⟨(by exact dataAll_u8s _), trivial⟩ ?_ rfl
    ((have e1 : List.take j l = l := List.take_of_length_le (by omega)); (have e2 : flt l j = l.flatten.length := flt_all l j (by omega)); rw [e1, e2, List.drop_zero, Nat.mul_one, List.take_of_length_le (Nat.le_of_eq (u8s_length _))]; rfl; done)
theorem r_few (f m o : Int) (l : List (List Int)) : EvD Try.prog 9 [.agg [.sc (.int .i64 f), .sc (.int .i64 m), .sc (.int .i64 o), .sl (bss l) l.length .any]] (.sc (.bool (decide (l.length ≤ 40 ∧ ∀ i, i < l.length → (l.getD i []).length ≤ 2000)))) := by
  refine EvD.body Try.func9 rfl rfl rfl ?_
  refine AWP.seq ?_
  refine TO ⟨[.agg [(I6 f), (I6 m), (I6 o), .sl (bss l) (List.length l) .any]] ++ UU 27, []⟩ ?_
  refine AWP.reg (RT 2 ?_)
  refine AWP.seq (AWP.seq (KL [0] ⟨[U6, .ptr 0 0, (B6 false)] ++ UU 25, [⟨[(I6 f), (I6 m), (I6 o), .sl (bss l) (List.length l) .any], 4, .fresh⟩]⟩ ?_))
  refine AWP.reg (RT 1 ?_)
  refine AWP.block ?_
  refine TO ⟨[U6, .ptr 0 0, (B6 false), (I6 0)] ++ UU 24, [⟨[(I6 f), (I6 m), (I6 o), .sl (bss l) (List.length l) .any], 4, .fresh⟩]⟩ ?_
  refine AWP.loopM [false, true, true, true, false, false, false, false, false, false, false, false, false, false, false, false, false, false, false, false, false, false, false, false, false, false, false, false] (fun kk st => ∃ (i : Nat), kk = l.length - i ∧ i ≤ l.length ∧ (∀ j, j < i → (l.getD j []).length ≤ 2000) ∧ st = ⟨[U6, .ptr 0 0, (B6 false), (I6 (i : Int)), U6, U6, U6, U6, U6, U6, U6, U6, U6, U6, U6, U6, U6, U6, U6, U6, U6, U6, U6, U6, U6, U6, U6, .undef], [⟨[(I6 f), (I6 m), (I6 o), .sl (bss l) (List.length l) .any], 4, .fresh⟩]⟩) _ ⟨0, rfl, by omega, fun j hj => absurd hj (by omega), by kernel_rfl⟩ ?_
  rintro kk s ⟨i, rfl, hi, hd, rfl⟩
  refine AWP.seq (SQ (PI 6 (True ∧ True ∧ 3 < 4 ∧ True ∧ True ∧ True ∧ True) ⟨trivial, trivial, (by omega), trivial, trivial, trivial, trivial⟩ ?_))
  refine DerQ.to ⟨[U6, .ptr 0 0, (B6 false), (I6 (↑i : Int)), (I6 (↑i : Int)), .ptr 0 3, .sl (bss l) (List.length l) .any, (I6 (↑(List.length l) : Int)), (B6 (decide ((↑i : Int) < (↑(List.length l) : Int)))), (B6 (decide ((↑i : Int) < (↑(List.length l) : Int))))] ++ UU 18, [⟨[(I6 f), (I6 m), (I6 o), .sl (bss l) (List.length l) .any], 4, .fresh⟩]⟩ (by kernel_rfl) ?_
  cases h1 : (decide ((↑i : Int) < (↑(List.length l) : Int)))
  · have h1' := of_decide_eq_false h1
    refine RT 1 ?_
    refine KL (NN 4 10) ⟨[U6, .ptr 0 0, (B6 false), (I6 (↑i : Int))] ++ UU 10 ++ [(B6 false)] ++ UU 13, [⟨[(I6 f), (I6 m), (I6 o), .sl (bss l) (List.length l) .any], 4, .fresh⟩]⟩ ?_
    refine CN false (fun h => nomatch h) (fun _ => ?_)
    refine AWP.exit ?_
    refine SQ (RI (True ∧ 3 < 4 ∧ True ∧ True ∧ True ∧ True) ⟨trivial, (by omega), trivial, trivial, trivial, trivial⟩ ?_)
    refine AWP.ret ?_
    refine FI (.sc (.bool (decide ((↑(List.length l) : Int) ≤ 40)))) ?_
    refine Shrink.all ?_ rfl
    (congr 2; exact decide_eq_decide.2 ⟨fun h1 => ⟨by omega, fun j hj => hd j (by omega)⟩, fun h1 => by have := h1.1; omega⟩; done)
  · have h1' := of_decide_eq_true h1
    refine RI (True ∧ 3 < 4 ∧ True ∧ True ∧ True ∧ True) ⟨trivial, (by omega), trivial, trivial, trivial, trivial⟩ ?_
    refine KL (NN 4 10) ⟨[U6, .ptr 0 0, (B6 false), (I6 (↑i : Int))] ++ UU 10 ++ [(B6 (decide ((↑(List.length l) : Int) ≤ 40)))] ++ UU 13, [⟨[(I6 f), (I6 m), (I6 o), .sl (bss l) (List.length l) .any], 4, .fresh⟩]⟩ ?_
    refine CN (decide ((↑(List.length l) : Int) ≤ 40)) (fun h2 => ?_) (fun h2 => ?_)
    · have h2' := of_decide_eq_true h2
      refine AWP.skip (AWP.seq (AWP.block (SQ ?_)))
      refine DerQ.pre 5 (True ∧ 3 < 4 ∧ True ∧ (((0 ≤ (↑i : Int)) ∧ ((↑i : Int) < (↑(List.length l) : Int))) ∧ (Int.toNat (↑i : Int) * 1 + 1 ≤ List.length (bss l))) ∧ 0 < 1 ∧ True) ⟨[U6, .ptr 0 0, (B6 false), (I6 (↑i : Int))] ++ UU 10 ++ [(B6 (decide ((↑(List.length l) : Int) ≤ 40))), U6, U6, .ptr 0 3, .sl (bss l) (List.length l) .any, (I6 (↑i : Int)), .dptr [List.getD (bss l) (Int.toNat (↑i : Int) * 1 + 0) AVal.undef], List.getD [List.getD (bss l) (Int.toNat (↑i : Int) * 1 + 0) AVal.undef] 0 AVal.undef] ++ UU 6, [⟨[(I6 f), (I6 m), (I6 o), .sl (bss l) (List.length l) .any], 4, .fresh⟩]⟩ (by kernel_rfl) ⟨trivial, (by omega), trivial, ⟨⟨(by omega), (by omega)⟩, (by (simp [spliceA_length] <;> omega))⟩, (by omega), trivial⟩ ?_
      rw [Int.toNat_natCast (i)]
      rw [Nat.mul_one (i)]
      rw [Nat.add_zero (i)]
      rw [Go.Chu.bss_getD (l) (i) (by omega)]
      refine RT 2 ?_
      refine KL ([14] ++ NN 17 6) ⟨[U6, .ptr 0 0, (B6 false), (I6 (↑i : Int))] ++ UU 19 ++ [(B6 (decide ((↑(List.length (List.getD l i [])) : Int) > 2000))), U6, U6, U6, .undef], [⟨[(I6 f), (I6 m), (I6 o), .sl (bss l) (List.length l) .any], 4, .fresh⟩]⟩ ?_
      refine CN (decide ((↑(List.length (List.getD l i [])) : Int) > 2000)) (fun h3 => ?_) (fun h3 => ?_)
      · have h3' := of_decide_eq_true h3
        refine SQ (RT 1 ?_)
        refine AWP.ret ?_
        refine FI (.sc (.bool false)) ?_
        refine Shrink.all ?_ rfl
        (exact dec_no (fun h => by have := h.2 i (by omega); omega); done)
      · have h3' := of_decide_eq_false h3
        refine AWP.skip (AWP.reg ?_)
        refine DerQ.run (TT 3) ⟨[U6, .ptr 0 0, (B6 false), (I6 (IntKind.wrap IntKind.i64 ((↑i : Int) + 1)))] ++ UU 11 ++ [(I6 (↑i : Int)), (I6 (IntKind.wrap IntKind.i64 ((↑i : Int) + 1)))] ++ UU 6 ++ [(B6 (decide ((↑(List.length (List.getD l i [])) : Int) > 2000))), U6, U6, U6, .undef], [⟨[(I6 f), (I6 m), (I6 o), .sl (bss l) (List.length l) .any], 4, .fresh⟩]⟩ (by kernel_rfl) (tt 3) ?_
        rw [IntWalk.i64_in ((↑i : Int) + 1) (by omega)]
        (exact ⟨_, by omega, i + 1, rfl, by omega, succ_all hd (by omega), by kernel_rfl⟩; done)
    · have h2' := of_decide_eq_false h2
      refine AWP.exit ?_
      refine SQ (RI (True ∧ 3 < 4 ∧ True ∧ True ∧ True ∧ True) ⟨trivial, (by omega), trivial, trivial, trivial, trivial⟩ ?_)
      refine AWP.ret ?_
      refine FI (.sc (.bool (decide ((↑(List.length l) : Int) ≤ 40)))) ?_
      refine Shrink.all ?_ rfl
      (congr 2; exact decide_eq_decide.2 ⟨fun h1 => ⟨by omega, fun j hj => hd j (by omega)⟩, fun h1 => by have := h1.1; omega⟩; done)
theorem r_split (b : List Int) (hb : b.length ≤ 1000000) : EvD Try.prog 18 [.sl (u8s b) b.length .any] (.sl (bss (pieces b)) (np b) .any) := by
  refine EvD.body Try.func18 rfl rfl rfl ?_
  refine AWP.seq ?_
  refine TO ⟨[.sl (u8s b) (List.length b) .any] ++ UU 17, []⟩ ?_
  refine AWP.reg (RT 1 ?_)
  refine AWP.seq ?_
  refine TO ⟨[.sl (u8s b) (List.length b) .any, U6, .sl [] 0 .nil] ++ UU 15, []⟩ ?_
  refine AWP.reg (RT 1 ?_)
  refine AWP.seq (AWP.block ?_)
  refine TO ⟨[.sl (u8s b) (List.length b) .any, U6, .sl [] 0 .nil, .sl [] 0 .nil] ++ UU 14, []⟩ ?_
  refine AWP.virt 3 1 ⟨[.sl (u8s b) (List.length b) .any, U6, .sl [] 0 .nil, .row 0 0 0] ++ UU 14, [⟨[], 1, .fresh⟩]⟩ ⟨by kernel_rfl, by kernel_rfl⟩ ?_
  refine AWP.grow 0 ⟨[], 1, .fresh⟩ ⟨[.sl (u8s b) (List.length b) .any, U6, .sl [] 0 .nil, .row 0 0 0, U6, U6, U6, U6, U6, U6, U6, U6, U6, U6, U6, U6, U6, .undef], [⟨[], 1, .grown⟩]⟩ ⟨by kernel_rfl, by kernel_rfl⟩ rfl rfl ?_
  refine AWP.loopM [true, false, true, true, false, false, false, false, false, false, false, false, false, false, false, false, false, false] (fun kk st => ∃ (j : Nat), kk = b.length - 512 * j ∧ 512 * j ≤ b.length ∧ (0 < j → 512 * j < b.length) ∧ st = ⟨[.sl (u8s (List.drop (512 * j) b)) (b.length - 512 * j) .any, U6, .sl [] 0 .nil, .row 0 0 j, U6, U6, U6, U6, U6, U6, U6, U6, U6, U6, U6, U6, U6, .undef], [⟨bss (pcs b j), 1, .grown⟩]⟩) _ ⟨0, rfl, by omega, by omega, by kernel_rfl⟩ ?_
  rintro kk s ⟨j, rfl, hj, hj2, rfl⟩
  refine AWP.seq (SQ ?_)
  refine DerQ.run (TT 3) ⟨[.sl (u8s (List.drop (512 * j) b)) (List.length b - 512 * j) .any, U6, .sl [] 0 .nil, .row 0 0 (j), .sl (u8s (List.drop (512 * j) b)) (List.length b - 512 * j) .any, (I6 (↑(List.length b - 512 * j) : Int)), (B6 (decide ((↑(List.length b - 512 * j) : Int) > 512)))] ++ UU 11, [⟨bss (pcs b j), 1, .grown⟩]⟩ (by kernel_rfl) (tt 3) ?_
  refine CN (decide ((↑(List.length b - 512 * j) : Int) > 512)) (fun h1 => ?_) (fun h1 => ?_)
  · have h1' := of_decide_eq_true h1
    refine AWP.skip (AWP.block (SQ ?_))
    refine DerQ.run (True ∧ True ∧ ((((0 : Int) ≤ (0 : Int)) ∧ (((0 : Int) ≤ (512 : Int)) ∧ ((512 ≤ (↑(List.length b - 512 * j) : Int)) ∧ ((↑(List.length b - 512 * j) : Int) ≤ (↑(List.length b - 512 * j) : Int))))) ∧ (512 ≤ List.length (u8s (List.drop (512 * j) b)))) ∧ True ∧ (((1 : Nat) = (1 : Nat)) ∧ (((1 : Nat) = (1 : Nat)) ∧ ((j * 1 = List.length (bss (pcs b j))) ∧ ((j + 1 ≤ 1073741824) ∧ ((dataAll (bss (pcs b j) ++ [AVal.sl (List.take 512 (List.drop 0 (u8s (List.drop (512 * j) b)))) 512 SlK.any]) = true) ∧ (∀ (i : Nat), i < 1 → AVal.one (List.getD [AVal.sl (List.take 512 (List.drop 0 (u8s (List.drop (512 * j) b)))) 512 SlK.any] i AVal.undef) = true)))))) ∧ True ∧ True) ⟨[.sl (u8s (List.drop (512 * j) b)) (List.length b - 512 * j) .any, U6, .sl [] 0 .nil, .row 0 0 (j + 1), .sl (u8s (List.drop (512 * j) b)) (List.length b - 512 * j) .any, (I6 (↑(List.length b - 512 * j) : Int)), (B6 (decide ((↑(List.length b - 512 * j) : Int) > 512))), .row 0 0 (j), .sl (u8s (List.drop (512 * j) b)) (List.length b - 512 * j) .any, .sl (List.take 512 (List.drop 0 (u8s (List.drop (512 * j) b)))) 512 .any, .sl [.sl (List.take 512 (List.drop 0 (u8s (List.drop (512 * j) b)))) 512 .any] 1 .nn, .row 0 0 (j + 1)] ++ UU 6, [⟨bss (pcs b j) ++ [AVal.sl (List.take 512 (List.drop 0 (u8s (List.drop (512 * j) b)))) 512 SlK.any], 1, .grown⟩]⟩ (by kernel_rfl) ⟨trivial, trivial, ⟨⟨(by omega), ⟨(by omega), ⟨(by omega), (by omega)⟩⟩⟩, (by (simp [spliceA_length] <;> omega))⟩, trivial, ⟨(by omega), ⟨(by omega), ⟨(by simp), ⟨(by omega), ⟨(by (exact snocA _ _ _ _)), (by (exact one_sl _ _ _))⟩⟩⟩⟩⟩, trivial, trivial⟩ ?_
    rw [List.drop_zero]
    rw [Go.Abs.u8s_take ((512 : Nat)) (List.drop (512 * j) b)]
    refine KL (NN 4 8) ⟨[.sl (u8s (List.drop (512 * j) b)) (List.length b - 512 * j) .any, U6, .sl [] 0 .nil, .row 0 0 (j + 1)] ++ UU 14, [⟨bss (pcs b j) ++ [AVal.sl (u8s (List.take 512 (List.drop (512 * j) b))) 512 SlK.any], 1, .grown⟩]⟩ ?_
    refine AWP.reg ?_
    refine DerQ.run (True ∧ ((((0 : Int) ≤ (512 : Int)) ∧ ((512 ≤ (↑(List.length b - 512 * j) : Int)) ∧ (((↑(List.length b - 512 * j) : Int) ≤ (↑(List.length b - 512 * j) : Int)) ∧ ((↑(List.length b - 512 * j) : Int) ≤ (↑(List.length b - 512 * j) : Int))))) ∧ (Int.toNat (↑(List.length b - 512 * j) : Int) * 1 ≤ List.length (u8s (List.drop (512 * j) b)))) ∧ True ∧ True) ⟨[.sl (List.take ((Int.toNat (↑(List.length b - 512 * j) : Int) - 512) * 1) (List.drop 512 (u8s (List.drop (512 * j) b)))) (Int.toNat (↑(List.length b - 512 * j) : Int) - 512) .any, U6, .sl [] 0 .nil, .row 0 0 (j + 1)] ++ UU 8 ++ [.sl (u8s (List.drop (512 * j) b)) (List.length b - 512 * j) .any, .sl (List.take ((Int.toNat (↑(List.length b - 512 * j) : Int) - 512) * 1) (List.drop 512 (u8s (List.drop (512 * j) b)))) (Int.toNat (↑(List.length b - 512 * j) : Int) - 512) .any, U6, U6, U6, .undef], [⟨bss (pcs b j) ++ [AVal.sl (u8s (List.take 512 (List.drop (512 * j) b))) 512 SlK.any], 1, .grown⟩]⟩ (by kernel_rfl) ⟨trivial, ⟨⟨(by omega), ⟨(by omega), ⟨(by omega), (by omega)⟩⟩⟩, (by simp)⟩, trivial, trivial⟩ ?_
    (rw [pcs_round b j (by omega), u8s_drop, drop_next, show Int.toNat (↑(b.length - 512 * j) : Int) - 512 = b.length - 512 * (j + 1) by omega, Nat.mul_one, List.take_of_length_le (Nat.le_of_eq (by rw [u8s_length, List.length_drop]))]; exact ⟨_, by omega, j + 1, rfl, by omega, by omega, by kernel_rfl⟩; done)
  · have h1' := of_decide_eq_false h1
    refine AWP.exit ?_
    refine SQ ?_
    refine DerQ.run (True ∧ True ∧ True ∧ (((1 : Nat) = (1 : Nat)) ∧ (((1 : Nat) = (1 : Nat)) ∧ ((j * 1 = List.length (bss (pcs b j))) ∧ ((j + 1 ≤ 1073741824) ∧ ((dataAll (bss (pcs b j) ++ [AVal.sl (u8s (List.drop (512 * j) b)) (List.length b - 512 * j) SlK.any]) = true) ∧ (∀ (i : Nat), i < 1 → AVal.one (List.getD [AVal.sl (u8s (List.drop (512 * j) b)) (List.length b - 512 * j) SlK.any] i AVal.undef) = true)))))) ∧ True ∧ True) ⟨[.sl (u8s (List.drop (512 * j) b)) (List.length b - 512 * j) .any, U6, .row 0 0 (j + 1), .row 0 0 (j), .sl (u8s (List.drop (512 * j) b)) (List.length b - 512 * j) .any, (I6 (↑(List.length b - 512 * j) : Int)), (B6 (decide ((↑(List.length b - 512 * j) : Int) > 512)))] ++ UU 7 ++ [.row 0 0 (j), .sl (u8s (List.drop (512 * j) b)) (List.length b - 512 * j) .any, .sl [.sl (u8s (List.drop (512 * j) b)) (List.length b - 512 * j) .any] 1 .nn, .row 0 0 (j + 1)], [⟨bss (pcs b j) ++ [AVal.sl (u8s (List.drop (512 * j) b)) (List.length b - 512 * j) SlK.any], 1, .grown⟩]⟩ (by kernel_rfl) ⟨trivial, trivial, trivial, ⟨(by omega), ⟨(by omega), ⟨(by simp), ⟨(by omega), ⟨(by (exact snocA _ _ _ _)), (by (exact one_sl _ _ _))⟩⟩⟩⟩⟩, trivial, trivial⟩ ?_
    refine KL [0, 3, 4, 5, 6, 14, 15, 16, 17] ⟨[U6, U6, .row 0 0 (j + 1)] ++ UU 15, [⟨bss (pcs b j) ++ [AVal.sl (u8s (List.drop (512 * j) b)) (List.length b - 512 * j) SlK.any], 1, .grown⟩]⟩ ?_
    refine AWP.ret ?_
    refine FI (.row 0 0 (j + 1)) ?_
    refine Shrink.dataK [0] ((dataAll (bss (pcs b j) ++ [AVal.sl (u8s (List.drop (512 * j) b)) (List.length b - 512 * j) SlK.any]) = true) ∧ (True)) (.sl (List.take ((j + 1) * 1) (List.drop 0 (bss (pcs b j) ++ [AVal.sl (u8s (List.drop (512 * j) b)) (List.length b - 512 * j) SlK.any]))) (j + 1) .any) (by kernel_rfl) ⟨(by (exact snocA _ _ _ _)), trivial⟩ ?_ rfl
    ((have hh := pcs_end b j (by omega) (by omega) hj2); rw [List.drop_zero, Nat.mul_one, List.take_of_length_le (by simp [bss_length]), hh.1, hh.2]; rfl; done)
theorem r_begins (b : List Int) (hb : b.length ≤ 1000000) (f m : Int) : EvD Try.prog 21 [.sl (u8s b) b.length .any, .sc (.int .i64 f), .sc (.int .i64 m)] (.agg [.sc (.int .i64 f), .sc (.int .i64 m), .sc (.int .i64 (np b : Int)), .sl (bss (pieces b)) (np b) .any]) := by
  have s1 := r_split b hb
  have hnp := npn_spec b.length
  refine EvD.body Try.func21 rfl rfl rfl ?_
  refine AWP.seq ?_
  refine TO ⟨[.sl (u8s b) (List.length b) .any, (I6 f), (I6 m)] ++ UU 13, []⟩ ?_
  refine AWP.reg (RT 1 ?_)
  refine AWP.seq ?_
  refine TO ⟨[.sl (u8s b) (List.length b) .any, (I6 f), (I6 m), U6, U6, U6, .ptr 0 0] ++ UU 9, [⟨[(I6 0), (I6 0), (I6 0), .sl [] 0 .nil], 4, .fresh⟩]⟩ ?_
  refine AWP.reg (PT 1 1 ?_)
  refine CD (s1) ?_
  refine RT 1 ?_
  refine AWP.seq (KL [0, 8, 9] ⟨[U6, (I6 f), (I6 m), U6, U6, U6, .ptr 0 0, .sl (bss (pieces b)) (np b) .any] ++ UU 8, [⟨[(I6 0), (I6 0), (I6 0), .sl [] 0 .nil], 4, .fresh⟩]⟩ ?_)
  refine AWP.reg (RI (True ∧ True ∧ True ∧ True ∧ True ∧ True ∧ 4 ≤ 4 ∧ True) ⟨trivial, trivial, trivial, trivial, trivial, trivial, (by omega), trivial⟩ ?_)
  refine AWP.ret FA
theorem r_same (f m o : Int) (l : List (List Int)) (hl : l.length ≤ 1000000) : EvD Try.prog 19 [.agg [.sc (.int .i64 f), .sc (.int .i64 m), .sc (.int .i64 o), .sl (bss l) l.length .any], .agg [.sc (.int .i64 f), .sc (.int .i64 m), .sc (.int .i64 o), .sl (bss l) l.length .any]] (.sc (.bool true)) := by
  refine EvD.body Try.func19 rfl rfl rfl ?_
  refine AWP.seq ?_
  refine TO ⟨[.agg [(I6 f), (I6 m), (I6 o), .sl (bss l) (List.length l) .any], .agg [(I6 f), (I6 m), (I6 o), .sl (bss l) (List.length l) .any]] ++ UU 52, []⟩ ?_
  refine AWP.reg (RT 3 ?_)
  refine AWP.seq (AWP.seq (KL [0, 1] ⟨[U6, U6, .ptr 0 0, .ptr 1 0, (B6 false)] ++ UU 49, [⟨[(I6 f), (I6 m), (I6 o), .sl (bss l) (List.length l) .any], 4, .fresh⟩, ⟨[(I6 f), (I6 m), (I6 o), .sl (bss l) (List.length l) .any], 4, .fresh⟩]⟩ ?_))
  refine AWP.reg (PI 6 (True ∧ 0 < 4 ∧ True ∧ 0 < 4 ∧ True ∧ True ∧ True) ⟨trivial, (by omega), trivial, (by omega), trivial, trivial, trivial⟩ ?_)
  refine DerQ.to ⟨[U6, U6, .ptr 0 0, .ptr 1 0, (B6 false), U6, .ptr 0 0, (I6 f), .ptr 1 0, (I6 f), (B6 (f != f)), (B6 (f != f))] ++ UU 42, [⟨[(I6 f), (I6 m), (I6 o), .sl (bss l) (List.length l) .any], 4, .fresh⟩, ⟨[(I6 f), (I6 m), (I6 o), .sl (bss l) (List.length l) .any], 4, .fresh⟩]⟩ (by kernel_rfl) ?_
  cases h1 : (f != f)
  · have h1' := bne_eq_false_iff_eq.1 h1
    refine PI 7 (True ∧ 1 < 4 ∧ True ∧ 1 < 4 ∧ True ∧ True ∧ True ∧ True) ⟨trivial, (by omega), trivial, (by omega), trivial, trivial, trivial, trivial⟩ ?_
    refine DerQ.to ⟨[U6, U6, .ptr 0 0, .ptr 1 0, (B6 false), U6, .ptr 0 0, (I6 f), .ptr 1 0, (I6 f), (B6 false), (B6 false), .ptr 0 1, (I6 m), .ptr 1 1, (I6 m), (B6 (m != m)), (B6 (m != m)), (B6 (m != m))] ++ UU 35, [⟨[(I6 f), (I6 m), (I6 o), .sl (bss l) (List.length l) .any], 4, .fresh⟩, ⟨[(I6 f), (I6 m), (I6 o), .sl (bss l) (List.length l) .any], 4, .fresh⟩]⟩ (by kernel_rfl) ?_
    cases h2 : (m != m)
    · have h2' := bne_eq_false_iff_eq.1 h2
      refine PI 7 (True ∧ 2 < 4 ∧ True ∧ 2 < 4 ∧ True ∧ True ∧ True ∧ True) ⟨trivial, (by omega), trivial, (by omega), trivial, trivial, trivial, trivial⟩ ?_
      refine DerQ.to ⟨[U6, U6, .ptr 0 0, .ptr 1 0, (B6 false), U6, .ptr 0 0, (I6 f), .ptr 1 0, (I6 f), (B6 false), (B6 false), .ptr 0 1, (I6 m), .ptr 1 1, (I6 m), (B6 false), (B6 false), (B6 false), .ptr 0 2, (I6 o), .ptr 1 2, (I6 o), (B6 (o != o)), (B6 (o != o)), (B6 (o != o))] ++ UU 28, [⟨[(I6 f), (I6 m), (I6 o), .sl (bss l) (List.length l) .any], 4, .fresh⟩, ⟨[(I6 f), (I6 m), (I6 o), .sl (bss l) (List.length l) .any], 4, .fresh⟩]⟩ (by kernel_rfl) ?_
      cases h3 : (o != o)
      · have h3' := bne_eq_false_iff_eq.1 h3
        refine RI (True ∧ 3 < 4 ∧ True ∧ True ∧ 3 < 4 ∧ True ∧ True ∧ True ∧ True) ⟨trivial, (by omega), trivial, trivial, (by omega), trivial, trivial, trivial, trivial⟩ ?_
        refine KL (NN 6 27) ⟨[U6, U6, .ptr 0 0, .ptr 1 0, (B6 false)] ++ UU 28 ++ [(B6 ((↑(List.length l) : Int) != (↑(List.length l) : Int)))] ++ UU 20, [⟨[(I6 f), (I6 m), (I6 o), .sl (bss l) (List.length l) .any], 4, .fresh⟩, ⟨[(I6 f), (I6 m), (I6 o), .sl (bss l) (List.length l) .any], 4, .fresh⟩]⟩ ?_
        refine CN ((↑(List.length l) : Int) != (↑(List.length l) : Int)) (fun h4 => ?_) (fun h4 => ?_)
        · have h4' := bne_iff_ne.1 h4
          exfalso; omega
        · have h4' := bne_eq_false_iff_eq.1 h4
          refine AWP.skip (AWP.seq (SQ (RT 1 ?_)))
          refine AWP.block (KL [33] ⟨[U6, U6, .ptr 0 0, .ptr 1 0, (B6 false), (I6 0)] ++ UU 48, [⟨[(I6 f), (I6 m), (I6 o), .sl (bss l) (List.length l) .any], 4, .fresh⟩, ⟨[(I6 f), (I6 m), (I6 o), .sl (bss l) (List.length l) .any], 4, .fresh⟩]⟩ ?_)
          refine AWP.loopM [false, false, true, true, true, true, false, false, false, false, false, false, false, false, false, false, false, false, false, false, false, false, false, false, false, false, false, false, false, false, false, false, false, false, false, false, false, false, false, false, false, false, false, false, false, false, false, false, false, false, false, false, false, false] (fun kk st => ∃ (i : Nat), kk = l.length - i ∧ i ≤ l.length ∧ st = ⟨[U6, U6, .ptr 0 0, .ptr 1 0, (B6 false), (I6 (i : Int)), U6, U6, U6, U6, U6, U6, U6, U6, U6, U6, U6, U6, U6, U6, U6, U6, U6, U6, U6, U6, U6, U6, U6, U6, U6, U6, U6, U6, U6, U6, U6, U6, U6, U6, U6, U6, U6, U6, U6, U6, U6, U6, U6, U6, U6, U6, U6, .undef], [⟨[(I6 f), (I6 m), (I6 o), .sl (bss l) (List.length l) .any], 4, .fresh⟩, ⟨[(I6 f), (I6 m), (I6 o), .sl (bss l) (List.length l) .any], 4, .fresh⟩]⟩) _ ⟨0, rfl, by omega, by kernel_rfl⟩ ?_
          rintro kk s ⟨i, rfl, hi, rfl⟩
          refine AWP.seq (SQ (RI (True ∧ True ∧ 3 < 4 ∧ True ∧ True ∧ True) ⟨trivial, trivial, (by omega), trivial, trivial, trivial⟩ ?_))
          refine KL [34, 35, 36, 37] ⟨[U6, U6, .ptr 0 0, .ptr 1 0, (B6 false), (I6 (↑i : Int))] ++ UU 32 ++ [(B6 (decide ((↑i : Int) < (↑(List.length l) : Int))))] ++ UU 15, [⟨[(I6 f), (I6 m), (I6 o), .sl (bss l) (List.length l) .any], 4, .fresh⟩, ⟨[(I6 f), (I6 m), (I6 o), .sl (bss l) (List.length l) .any], 4, .fresh⟩]⟩ ?_
          refine CN (decide ((↑i : Int) < (↑(List.length l) : Int))) (fun h5 => ?_) (fun h5 => ?_)
          · have h5' := of_decide_eq_true h5
            refine AWP.skip (AWP.seq (AWP.block (AWP.seq ?_)))
            refine AWP.drawX mixed (fun _ => false) (by kernel_rfl) ?_
            refine DerX.pre 5 ((True) ∧ (((3 : Nat) < (4 : Nat)) ∧ ((True) ∧ ((((0 ≤ (↑i : Int)) ∧ ((↑i : Int) < (↑(List.length l) : Int))) ∧ (Int.toNat (↑i : Int) * 1 + 1 ≤ List.length (bss l))) ∧ (((0 : Nat) < (1 : Nat)) ∧ (True)))))) [.ptr 0 3, .sl (bss l) (List.length l) .any, (I6 (↑i : Int)), .dptr [List.getD (bss l) (Int.toNat (↑i : Int) * 1 + 0) AVal.undef], List.getD [List.getD (bss l) (Int.toNat (↑i : Int) * 1 + 0) AVal.undef] 0 AVal.undef] ⟨[U6, U6, .ptr 0 0, .ptr 1 0, (B6 false), (I6 (↑i : Int))] ++ UU 32 ++ [(B6 (decide ((↑i : Int) < (↑(List.length l) : Int)))), U6, U6, .ptr 0 3, .sl (bss l) (List.length l) .any, (I6 (↑i : Int)), .dptr [List.getD (bss l) (Int.toNat (↑i : Int) * 1 + 0) AVal.undef], List.getD (bss l) (Int.toNat (↑i : Int) * 1 + 0) AVal.undef] ++ UU 8, [⟨[(I6 f), (I6 m), (I6 o), .sl (bss l) (List.length l) .any], 4, .fresh⟩, ⟨[(I6 f), (I6 m), (I6 o), .sl (bss l) (List.length l) .any], 4, .fresh⟩]⟩ (by intro ext; kernel_rfl) (by kernel_rfl) ⟨trivial, ⟨(by omega), ⟨trivial, ⟨⟨⟨(by omega), (by omega)⟩, (by (simp [spliceA_length] <;> omega))⟩, ⟨(by omega), trivial⟩⟩⟩⟩⟩ ?_
            rw [Int.toNat_natCast (i)]
            rw [Nat.mul_one (i)]
            rw [Nat.add_zero (i)]
            rw [Go.Chu.bss_getD (l) (i) (by omega)]
            refine DerX.pre 6 (((List.length (List.getD l i []) = List.length (u8s (List.getD l i []))) ∧ (∀ (i_1 : Nat), i_1 < List.length (u8s (List.getD l i [])) → isByteA (List.getD (u8s (List.getD l i [])) i_1 AVal.undef) = true)) ∧ ((True) ∧ (((3 : Nat) < (4 : Nat)) ∧ ((True) ∧ ((((0 ≤ (↑i : Int)) ∧ ((↑i : Int) < (↑(List.length l) : Int))) ∧ (Int.toNat (↑i : Int) * 1 + 1 ≤ List.length (bss l))) ∧ (((0 : Nat) < (1 : Nat)) ∧ (True))))))) [(S6 (strOf (u8s (List.getD l i [])))), .ptr 1 3, .sl (bss l) (List.length l) .any, (I6 (↑i : Int)), .dptr [List.getD (bss l) (Int.toNat (↑i : Int) * 1 + 0) AVal.undef], List.getD [List.getD (bss l) (Int.toNat (↑i : Int) * 1 + 0) AVal.undef] 0 AVal.undef] ⟨[U6, U6, .ptr 0 0, .ptr 1 0, (B6 false), (I6 (↑i : Int))] ++ UU 32 ++ [(B6 (decide ((↑i : Int) < (↑(List.length l) : Int)))), U6, U6, .ptr 0 3, .sl (bss l) (List.length l) .any, (I6 (↑i : Int)), .dptr [.sl (u8s (List.getD l i [])) (List.length (List.getD l i [])) .any], .sl (u8s (List.getD l i [])) (List.length (List.getD l i [])) .any, (S6 (strOf (u8s (List.getD l i [])))), .ptr 1 3, .sl (bss l) (List.length l) .any, (I6 (↑i : Int)), .dptr [List.getD (bss l) (Int.toNat (↑i : Int) * 1 + 0) AVal.undef], List.getD (bss l) (Int.toNat (↑i : Int) * 1 + 0) U6, U6, .undef], [⟨[(I6 f), (I6 m), (I6 o), .sl (bss l) (List.length l) .any], 4, .fresh⟩, ⟨[(I6 f), (I6 m), (I6 o), .sl (bss l) (List.length l) .any], 4, .fresh⟩]⟩ (by intro ext; kernel_rfl) (by kernel_rfl) ⟨⟨(by simp), (by exact u8s_isByte _)⟩, ⟨trivial, ⟨(by omega), ⟨trivial, ⟨⟨⟨(by omega), (by omega)⟩, (by (simp [spliceA_length] <;> omega))⟩, ⟨(by omega), trivial⟩⟩⟩⟩⟩⟩ ?_
            rw [Int.toNat_natCast (i)]
            rw [Nat.mul_one (i)]
            rw [Nat.add_zero (i)]
            rw [Go.Chu.bss_getD (l) (i) (by omega)]
            refine DerX.preI 2 (((List.length (List.getD l i []) = List.length (u8s (List.getD l i []))) ∧ (∀ (i_1 : Nat), i_1 < List.length (u8s (List.getD l i [])) → isByteA (List.getD (u8s (List.getD l i [])) i_1 AVal.undef) = true)) ∧ ((True) ∧ (True))) (by intro ext; kernel_rfl) ⟨⟨(by simp), (by exact u8s_isByte _)⟩, ⟨trivial, trivial⟩⟩ ?_
            refine DerX.nil ?_
            refine KL ([38] ++ NN 41 12) ⟨[U6, U6, .ptr 0 0, .ptr 1 0, (B6 false), (I6 (↑i : Int))] ++ UU 47 ++ [(B6 (!ByteArray.toList (strOf (u8s (List.getD l i []))) == ByteArray.toList (strOf (u8s (List.getD l i [])))))], [⟨[(I6 f), (I6 m), (I6 o), .sl (bss l) (List.length l) .any], 4, .fresh⟩, ⟨[(I6 f), (I6 m), (I6 o), .sl (bss l) (List.length l) .any], 4, .fresh⟩]⟩ ?_
            refine CN (!ByteArray.toList (strOf (u8s (List.getD l i []))) == ByteArray.toList (strOf (u8s (List.getD l i [])))) (fun h6 => ?_) (fun h6 => ?_)
            · have h6' := h6
              simp only [Bool.and_eq_true, Bool.and_eq_false_iff, Bool.or_eq_true, Bool.or_eq_false_iff, Bool.not_eq_true', Bool.not_eq_false', beq_iff_eq, beq_eq_false_iff_ne, decide_eq_true_eq, decide_eq_false_iff_not, ne_eq] at h6'
              (exfalso; simp_all; done)
            · have h6' := h6
              simp only [Bool.and_eq_true, Bool.and_eq_false_iff, Bool.or_eq_true, Bool.or_eq_false_iff, Bool.not_eq_true', Bool.not_eq_false', beq_iff_eq, beq_eq_false_iff_ne, decide_eq_true_eq, decide_eq_false_iff_not, ne_eq] at h6'
              refine AWP.skip (AWP.reg ?_)
              refine DerQ.run (TT 3) ⟨[U6, U6, .ptr 0 0, .ptr 1 0, (B6 false), (I6 (IntKind.wrap IntKind.i64 ((↑i : Int) + 1)))] ++ UU 33 ++ [(I6 (↑i : Int)), (I6 (IntKind.wrap IntKind.i64 ((↑i : Int) + 1)))] ++ UU 12 ++ [(B6 (!ByteArray.toList (strOf (u8s (List.getD l i []))) == ByteArray.toList (strOf (u8s (List.getD l i [])))))], [⟨[(I6 f), (I6 m), (I6 o), .sl (bss l) (List.length l) .any], 4, .fresh⟩, ⟨[(I6 f), (I6 m), (I6 o), .sl (bss l) (List.length l) .any], 4, .fresh⟩]⟩ (by kernel_rfl) (tt 3) ?_
              rw [IntWalk.i64_in ((↑i : Int) + 1) (by omega)]
              (exact ⟨_, by omega, i + 1, rfl, by omega, by kernel_rfl⟩; done)
          · have h5' := of_decide_eq_false h5
            refine AWP.exit ?_
            refine AWP.seq (KL [2, 3, 5, 38] ⟨[U6, U6, U6, U6, (B6 false)] ++ UU 49, [⟨[(I6 f), (I6 m), (I6 o), .sl (bss l) (List.length l) .any], 4, .fresh⟩, ⟨[(I6 f), (I6 m), (I6 o), .sl (bss l) (List.length l) .any], 4, .fresh⟩]⟩ ?_)
            refine AWP.reg (RT 1 ?_)
            refine AWP.ret FA
      · have h3' := bne_iff_ne.1 h3
        exfalso; omega
    · have h2' := bne_iff_ne.1 h2
      exfalso; omega
  · have h1' := bne_iff_ne.1 h1
    exfalso; omega
theorem lists (l : List (List Int)) (hl : l.length ≤ 1000000) : EvD Try.prog 16 [.sl (bss l) l.length .any, .sl (bss l) l.length .any] (.sc (.bool true)) := by
  refine EvD.body Try.func16 rfl rfl rfl ?_
  refine AWP.seq ?_
  refine TO ⟨[.sl (bss l) (List.length l) .any, .sl (bss l) (List.length l) .any] ++ UU 26, []⟩ ?_
  refine AWP.reg (RT 1 ?_)
  refine AWP.seq (AWP.seq ?_)
  refine TO ⟨[.sl (bss l) (List.length l) .any, .sl (bss l) (List.length l) .any, U6, U6, (B6 false)] ++ UU 23, []⟩ ?_
  refine AWP.reg (RT 5 ?_)
  refine KL [6, 7, 8, 9] ⟨[.sl (bss l) (List.length l) .any, .sl (bss l) (List.length l) .any, U6, U6, (B6 false)] ++ UU 5 ++ [(B6 ((↑(List.length l) : Int) != (↑(List.length l) : Int)))] ++ UU 17, []⟩ ?_
  refine CN ((↑(List.length l) : Int) != (↑(List.length l) : Int)) (fun h1 => ?_) (fun h1 => ?_)
  · have h1' := bne_iff_ne.1 h1
    exfalso; omega
  · have h1' := bne_eq_false_iff_eq.1 h1
    refine AWP.skip (AWP.seq (SQ (RT 1 ?_)))
    refine AWP.block (KL [10] ⟨[.sl (bss l) (List.length l) .any, .sl (bss l) (List.length l) .any, U6, U6, (B6 false), (I6 0)] ++ UU 22, []⟩ ?_)
    refine AWP.loopM [true, true, false, false, true, true, false, false, false, false, false, false, false, false, false, false, false, false, false, false, false, false, false, false, false, false, false, false] (fun kk st => ∃ (i : Nat), kk = l.length - i ∧ i ≤ l.length ∧ st = ⟨[.sl (bss l) (List.length l) .any, .sl (bss l) (List.length l) .any, U6, U6, (B6 false), (I6 (i : Int)), U6, U6, U6, U6, U6, U6, U6, U6, U6, U6, U6, U6, U6, U6, U6, U6, U6, U6, U6, U6, U6, .undef], []⟩) _ ⟨0, rfl, by omega, by kernel_rfl⟩ ?_
    rintro kk s ⟨i, rfl, hi, rfl⟩
    refine AWP.seq (SQ (RT 4 ?_))
    refine KL [11, 12, 13] ⟨[.sl (bss l) (List.length l) .any, .sl (bss l) (List.length l) .any, U6, U6, (B6 false), (I6 (↑i : Int))] ++ UU 8 ++ [(B6 (decide ((↑i : Int) < (↑(List.length l) : Int))))] ++ UU 13, []⟩ ?_
    refine CN (decide ((↑i : Int) < (↑(List.length l) : Int))) (fun h2 => ?_) (fun h2 => ?_)
    · have h2' := of_decide_eq_true h2
      refine AWP.skip (AWP.seq (AWP.block (AWP.seq ?_)))
      refine AWP.drawX mixed (fun _ => false) (by kernel_rfl) ?_
      refine DerX.pre 4 ((True) ∧ ((True) ∧ ((((0 ≤ (↑i : Int)) ∧ ((↑i : Int) < (↑(List.length l) : Int))) ∧ (Int.toNat (↑i : Int) * 1 + 1 ≤ List.length (bss l))) ∧ (((0 : Nat) < (1 : Nat)) ∧ (True))))) [.sl (bss l) (List.length l) .any, (I6 (↑i : Int)), .dptr [List.getD (bss l) (Int.toNat (↑i : Int) * 1 + 0) AVal.undef], List.getD [List.getD (bss l) (Int.toNat (↑i : Int) * 1 + 0) AVal.undef] 0 AVal.undef] ⟨[.sl (bss l) (List.length l) .any, .sl (bss l) (List.length l) .any, U6, U6, (B6 false), (I6 (↑i : Int))] ++ UU 8 ++ [(B6 (decide ((↑i : Int) < (↑(List.length l) : Int)))), U6, U6, .sl (bss l) (List.length l) .any, (I6 (↑i : Int)), .dptr [List.getD (bss l) (Int.toNat (↑i : Int) * 1 + 0) AVal.undef], List.getD (bss l) (Int.toNat (↑i : Int) * 1 + 0) AVal.undef] ++ UU 7, []⟩ (by intro ext; kernel_rfl) (by kernel_rfl) ⟨trivial, ⟨trivial, ⟨⟨⟨(by omega), (by omega)⟩, (by (simp [spliceA_length] <;> omega))⟩, ⟨(by omega), trivial⟩⟩⟩⟩ ?_
      rw [Int.toNat_natCast (i)]
      rw [Nat.mul_one (i)]
      rw [Nat.add_zero (i)]
      rw [Go.Chu.bss_getD (l) (i) (by omega)]
      refine DerX.pre 5 (((List.length (List.getD l i []) = List.length (u8s (List.getD l i []))) ∧ (∀ (i_1 : Nat), i_1 < List.length (u8s (List.getD l i [])) → isByteA (List.getD (u8s (List.getD l i [])) i_1 AVal.undef) = true)) ∧ ((True) ∧ ((True) ∧ ((((0 ≤ (↑i : Int)) ∧ ((↑i : Int) < (↑(List.length l) : Int))) ∧ (Int.toNat (↑i : Int) * 1 + 1 ≤ List.length (bss l))) ∧ (((0 : Nat) < (1 : Nat)) ∧ (True)))))) [(S6 (strOf (u8s (List.getD l i [])))), .sl (bss l) (List.length l) .any, (I6 (↑i : Int)), .dptr [List.getD (bss l) (Int.toNat (↑i : Int) * 1 + 0) AVal.undef], List.getD [List.getD (bss l) (Int.toNat (↑i : Int) * 1 + 0) AVal.undef] 0 AVal.undef] ⟨[.sl (bss l) (List.length l) .any, .sl (bss l) (List.length l) .any, U6, U6, (B6 false), (I6 (↑i : Int))] ++ UU 8 ++ [(B6 (decide ((↑i : Int) < (↑(List.length l) : Int)))), U6, U6, .sl (bss l) (List.length l) .any, (I6 (↑i : Int)), .dptr [.sl (u8s (List.getD l i [])) (List.length (List.getD l i [])) .any], .sl (u8s (List.getD l i [])) (List.length (List.getD l i [])) .any, (S6 (strOf (u8s (List.getD l i [])))), .sl (bss l) (List.length l) .any, (I6 (↑i : Int)), .dptr [List.getD (bss l) (Int.toNat (↑i : Int) * 1 + 0) AVal.undef], List.getD (bss l) (Int.toNat (↑i : Int) * 1 + 0) U6, U6, .undef], []⟩ (by intro ext; kernel_rfl) (by kernel_rfl) ⟨⟨(by simp), (by exact u8s_isByte _)⟩, ⟨trivial, ⟨trivial, ⟨⟨⟨(by omega), (by omega)⟩, (by (simp [spliceA_length] <;> omega))⟩, ⟨(by omega), trivial⟩⟩⟩⟩⟩ ?_
      rw [Int.toNat_natCast (i)]
      rw [Nat.mul_one (i)]
      rw [Nat.add_zero (i)]
      rw [Go.Chu.bss_getD (l) (i) (by omega)]
      refine DerX.preI 2 (((List.length (List.getD l i []) = List.length (u8s (List.getD l i []))) ∧ (∀ (i_1 : Nat), i_1 < List.length (u8s (List.getD l i [])) → isByteA (List.getD (u8s (List.getD l i [])) i_1 AVal.undef) = true)) ∧ ((True) ∧ (True))) (by intro ext; kernel_rfl) ⟨⟨(by simp), (by exact u8s_isByte _)⟩, ⟨trivial, trivial⟩⟩ ?_
      refine DerX.nil ?_
      refine KL ([14] ++ NN 17 10) ⟨[.sl (bss l) (List.length l) .any, .sl (bss l) (List.length l) .any, U6, U6, (B6 false), (I6 (↑i : Int))] ++ UU 21 ++ [(B6 (!ByteArray.toList (strOf (u8s (List.getD l i []))) == ByteArray.toList (strOf (u8s (List.getD l i [])))))], []⟩ ?_
      refine CN (!ByteArray.toList (strOf (u8s (List.getD l i []))) == ByteArray.toList (strOf (u8s (List.getD l i [])))) (fun h3 => ?_) (fun h3 => ?_)
      · have h3' := h3
        simp only [Bool.and_eq_true, Bool.and_eq_false_iff, Bool.or_eq_true, Bool.or_eq_false_iff, Bool.not_eq_true', Bool.not_eq_false', beq_iff_eq, beq_eq_false_iff_ne, decide_eq_true_eq, decide_eq_false_iff_not, ne_eq] at h3'
        (exfalso; simp_all; done)
      · have h3' := h3
        simp only [Bool.and_eq_true, Bool.and_eq_false_iff, Bool.or_eq_true, Bool.or_eq_false_iff, Bool.not_eq_true', Bool.not_eq_false', beq_iff_eq, beq_eq_false_iff_ne, decide_eq_true_eq, decide_eq_false_iff_not, ne_eq] at h3'
        refine AWP.skip (AWP.reg ?_)
        refine DerQ.run (TT 3) ⟨[.sl (bss l) (List.length l) .any, .sl (bss l) (List.length l) .any, U6, U6, (B6 false), (I6 (IntKind.wrap IntKind.i64 ((↑i : Int) + 1)))] ++ UU 9 ++ [(I6 (↑i : Int)), (I6 (IntKind.wrap IntKind.i64 ((↑i : Int) + 1)))] ++ UU 10 ++ [(B6 (!ByteArray.toList (strOf (u8s (List.getD l i []))) == ByteArray.toList (strOf (u8s (List.getD l i [])))))], []⟩ (by kernel_rfl) (tt 3) ?_
        rw [IntWalk.i64_in ((↑i : Int) + 1) (by omega)]
        (exact ⟨_, by omega, i + 1, rfl, by omega, by kernel_rfl⟩; done)
    · have h2' := of_decide_eq_false h2
      refine AWP.exit ?_
      refine AWP.seq (KL [0, 1, 5, 14] ⟨[U6, U6, U6, U6, (B6 false)] ++ UU 23, []⟩ ?_)
      refine AWP.reg (RT 1 ?_)
      refine AWP.ret FA
end Go.Chu
