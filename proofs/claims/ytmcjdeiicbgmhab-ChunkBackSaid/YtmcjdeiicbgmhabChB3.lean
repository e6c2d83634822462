/- Walks and laws. -/
import Derived.Test.YtmcjdeiicbgmhabChB2
import Derived.Test.YtmcjdeiicbgmhabLibB
set_option maxRecDepth 100000
set_option maxHeartbeats 0
set_option linter.unusedSimpArgs false
set_option linter.unusedVariables false
namespace Go.Chu
open Go Go.Abs Go.Proofs
theorem join (f m o : Int) (l : List (List Int)) (hl : l.length ≤ 1000) (hs : l.flatten.length ≤ 1000000) : EvD Try.prog 26 [.agg [.sc (.int .i64 f), .sc (.int .i64 m), .sc (.int .i64 o), .sl (bss l) l.length .any]] (.sl (u8s l.flatten) l.flatten.length .any) := by
  have c1 := concat l hl hs
  refine EvD.body Try.func26 rfl rfl rfl ?_
  refine AWP.seq ?_
  refine TO ⟨[.agg [(I6 f), (I6 m), (I6 o), .sl (bss l) (List.length l) .any]] ++ UU 5, []⟩ ?_
  refine AWP.reg (RT 2 ?_)
  refine AWP.seq (KL [0] ⟨[U6, .ptr 0 0, .sl [] 0 .nil, U6, U6, .undef], [⟨[(I6 f), (I6 m), (I6 o), .sl (bss l) (List.length l) .any], 4, .fresh⟩]⟩ ?_)
  refine AWP.reg (PI 2 (True ∧ 3 < 4 ∧ True) ⟨trivial, (by omega), trivial⟩ ?_)
  refine CD (c1) ?_
  refine RT 1 ?_
  refine AWP.ret FA
theorem piece_yes (g : Gate) (f m o n to : Int) (l : List (List Int)) (hx : ∀ i, i < l.length → (l.getD i []).length ≤ 1000000) (h : (0 ≤ n ∧ n < o) ∧ n < l.length) : EvD Try.prog 12 [.agg [.sc (.int .i64 f), .sc (.int .i64 m), .sc (.int .i64 o), .sl (bss l) l.length .any], .sc (.int .i64 n), .sc (.int .i64 to)] (.tup [.agg (msgc g (pieceM 4 f to m n o (l.getD n.toNat []))), .sc (.bool true)]) := by
  have hy := hx n.toNat (by omega)
  refine EvD.body Try.func12 rfl rfl (by simp [dataAll, AVal.data]) ?_
  refine AWP.seq ?_
  refine TO ⟨[.agg [(I6 f), (I6 m), (I6 o), .sl (bss l) (List.length l) .any], (I6 n), (I6 to)] ++ UU 33, []⟩ ?_
  refine AWP.reg (RT 3 ?_)
  refine AWP.seq (AWP.seq (KL [0] ⟨[U6, (I6 n), (I6 to), .ptr 0 0, U6, U6, .ptr 1 0, (B6 false)] ++ UU 28, [⟨[(I6 f), (I6 m), (I6 o), .sl (bss l) (List.length l) .any], 4, .fresh⟩, ⟨[(I6 0), (I6 0), (I6 0), (I6 0), (I6 0), (I6 0), (I6 0), (I6 0), (I6 0), (I6 0), (I6 0), (I6 0), (I6 0), (I6 0), (I6 0), (I6 0), (I6 0), (I6 0), (I6 0), .sl [] 0 .nil, (I6 0), (I6 0), (I6 0), (I6 0), (I6 0), (I6 0), (I6 0), (I6 0), (I6 0), (I6 0), (I6 0), (I6 0), (I6 0), (I6 0), (I6 0), (I6 0), (I6 0), (I6 0), (I6 0), (I6 0), (I6 0), (I6 0), (I6 0), (I6 0), (I6 0), (I6 0), (B6 false), (I6 0), (I6 0), (I6 0), .sl [] 0 .nil, (I6 0), .sl [] 0 .nil, (I6 0), .sl [] 0 .nil, .sl [] 0 .nil], 56, .fresh⟩]⟩ ?_))
  refine AWP.reg (PT 3 3 ?_)
  refine DerQ.to ⟨[U6, (I6 n), (I6 to), .ptr 0 0, U6, U6, .ptr 1 0, (B6 false), (I6 n), (B6 (decide (n < 0))), (B6 (decide (n < 0)))] ++ UU 25, [⟨[(I6 f), (I6 m), (I6 o), .sl (bss l) (List.length l) .any], 4, .fresh⟩, ⟨[(I6 0), (I6 0), (I6 0), (I6 0), (I6 0), (I6 0), (I6 0), (I6 0), (I6 0), (I6 0), (I6 0), (I6 0), (I6 0), (I6 0), (I6 0), (I6 0), (I6 0), (I6 0), (I6 0), .sl [] 0 .nil, (I6 0), (I6 0), (I6 0), (I6 0), (I6 0), (I6 0), (I6 0), (I6 0), (I6 0), (I6 0), (I6 0), (I6 0), (I6 0), (I6 0), (I6 0), (I6 0), (I6 0), (I6 0), (I6 0), (I6 0), (I6 0), (I6 0), (I6 0), (I6 0), (I6 0), (I6 0), (B6 false), (I6 0), (I6 0), (I6 0), .sl [] 0 .nil, (I6 0), .sl [] 0 .nil, (I6 0), .sl [] 0 .nil, .sl [] 0 .nil], 56, .fresh⟩]⟩ (by kernel_rfl) ?_
  cases h1 : (decide (n < 0))
  · have h1' := of_decide_eq_false h1
    refine RI (True ∧ True ∧ 2 < 4 ∧ True ∧ 3 < 4 ∧ True ∧ True ∧ True ∧ True ∧ True) ⟨trivial, trivial, (by omega), trivial, (by omega), trivial, trivial, trivial, trivial, trivial⟩ ?_
    refine KL (NN 8 11) ⟨[U6, (I6 n), (I6 to), .ptr 0 0, U6, U6, .ptr 1 0, (B6 false)] ++ UU 11 ++ [(B6 (decide (n ≥ if (↑(List.length l) : Int) < o then (↑(List.length l) : Int) else o)))] ++ UU 16, [⟨[(I6 f), (I6 m), (I6 o), .sl (bss l) (List.length l) .any], 4, .fresh⟩, ⟨[(I6 0), (I6 0), (I6 0), (I6 0), (I6 0), (I6 0), (I6 0), (I6 0), (I6 0), (I6 0), (I6 0), (I6 0), (I6 0), (I6 0), (I6 0), (I6 0), (I6 0), (I6 0), (I6 0), .sl [] 0 .nil, (I6 0), (I6 0), (I6 0), (I6 0), (I6 0), (I6 0), (I6 0), (I6 0), (I6 0), (I6 0), (I6 0), (I6 0), (I6 0), (I6 0), (I6 0), (I6 0), (I6 0), (I6 0), (I6 0), (I6 0), (I6 0), (I6 0), (I6 0), (I6 0), (I6 0), (I6 0), (B6 false), (I6 0), (I6 0), (I6 0), .sl [] 0 .nil, (I6 0), .sl [] 0 .nil, (I6 0), .sl [] 0 .nil, .sl [] 0 .nil], 56, .fresh⟩]⟩ ?_
    refine CN (decide (n ≥ if (↑(List.length l) : Int) < o then (↑(List.length l) : Int) else o)) (fun h2 => ?_) (fun h2 => ?_)
    · have h2' := of_decide_eq_true h2
      exfalso; omega
    · have h2' := of_decide_eq_false h2
      refine AWP.skip (AWP.seq ?_)
      refine AWP.drawB mixed (fun o => if [].contains (o.dst.getD 0) then 1 else if [].contains (o.dst.getD 0) then 2 else if [0, 34].contains (o.dst.getD 0) then 3 else 0) 0 2 (fun x => [⟨[(I6 f), (I6 m), (I6 o), .sl (bss l) (List.length l) .any], 4, .fresh⟩, ⟨x 1, 56, .fresh⟩]) ⟨[U6, (I6 n), (I6 to), .ptr 0 0, U6, U6, .ptr 1 0, (B6 false)] ++ UU 11 ++ [(B6 (decide (n ≥ if (↑(List.length l) : Int) < o then (↑(List.length l) : Int) else o)))] ++ UU 16, [⟨[(I6 f), (I6 m), (I6 o), .sl (bss l) (List.length l) .any], 4, .fresh⟩, ⟨[(I6 0), (I6 0), (I6 0), (I6 0), (I6 0), (I6 0), (I6 0), (I6 0), (I6 0), (I6 0), (I6 0), (I6 0), (I6 0), (I6 0), (I6 0), (I6 0), (I6 0), (I6 0), (I6 0), .sl [] 0 .nil, (I6 0), (I6 0), (I6 0), (I6 0), (I6 0), (I6 0), (I6 0), (I6 0), (I6 0), (I6 0), (I6 0), (I6 0), (I6 0), (I6 0), (I6 0), (I6 0), (I6 0), (I6 0), (I6 0), (I6 0), (I6 0), (I6 0), (I6 0), (I6 0), (I6 0), (I6 0), (B6 false), (I6 0), (I6 0), (I6 0), .sl [] 0 .nil, (I6 0), .sl [] 0 .nil, (I6 0), .sl [] 0 .nil, .sl [] 0 .nil], 56, .fresh⟩]⟩ (by kernel_rfl) ⟨by kernel_rfl, by kernel_rfl⟩ (by kernel_rfl) ?_
      refine DerZ.pre 13 ((True) ∧ (((0 : Nat) < (4 : Nat)) ∧ ((True) ∧ ((True) ∧ (((1 : Nat) < (4 : Nat)) ∧ ((True) ∧ ((True) ∧ (((2 : Nat) < (4 : Nat)) ∧ ((True) ∧ (((3 : Nat) < (4 : Nat)) ∧ ((True) ∧ ((((0 ≤ n) ∧ (n < (↑(List.length l) : Int))) ∧ (Int.toNat n * 1 + 1 ≤ List.length (bss l))) ∧ (((0 : Nat) < (1 : Nat)) ∧ (True)))))))))))))) [.ptr 0 0, (I6 f), (I6 to), .ptr 0 1, (I6 m), (I6 n), .ptr 0 2, (I6 o), .ptr 0 3, .sl (bss l) (List.length l) .any, (I6 n), .dptr [List.getD (bss l) (Int.toNat n * 1 + 0) AVal.undef], List.getD [List.getD (bss l) (Int.toNat n * 1 + 0) AVal.undef] 0 AVal.undef] ⟨[U6, (I6 n), (I6 to), .ptr 0 0, U6, U6, .ptr 1 0, (B6 false)] ++ UU 11 ++ [(B6 (decide (n ≥ if (↑(List.length l) : Int) < o then (↑(List.length l) : Int) else o))), U6, .ptr 0 0, (I6 f), (I6 to), .ptr 0 1, (I6 m), (I6 n), .ptr 0 2, (I6 o), .ptr 0 3, .sl (bss l) (List.length l) .any, (I6 n), .dptr [List.getD (bss l) (Int.toNat n * 1 + 0) AVal.undef], List.getD (bss l) (Int.toNat n * 1 + 0) U6, U6, .undef], [⟨[(I6 f), (I6 m), (I6 o), .sl (bss l) (List.length l) .any], 4, .fresh⟩, ⟨[(I6 0), (I6 0), (I6 0), (I6 0), (I6 0), (I6 0), (I6 0), (I6 0), (I6 0), (I6 0), (I6 0), (I6 0), (I6 0), (I6 0), (I6 0), (I6 0), (I6 0), (I6 0), (I6 0), .sl [] 0 .nil, (I6 0), (I6 0), (I6 0), (I6 0), (I6 0), (I6 0), (I6 0), (I6 0), (I6 0), (I6 0), (I6 0), (I6 0), (I6 0), (I6 0), (I6 0), (I6 0), (I6 0), (I6 0), (I6 0), (I6 0), (I6 0), (I6 0), (I6 0), (I6 0), (I6 0), (I6 0), (B6 false), (I6 0), (I6 0), (I6 0), .sl [] 0 .nil, (I6 0), .sl [] 0 .nil, (I6 0), .sl [] 0 .nil, .sl [] 0 .nil], 56, .fresh⟩]⟩ (by intro x ext; kernel_rfl) (by kernel_rfl) ⟨trivial, ⟨(by omega), ⟨trivial, ⟨trivial, ⟨(by omega), ⟨trivial, ⟨trivial, ⟨(by omega), ⟨trivial, ⟨(by omega), ⟨trivial, ⟨⟨⟨(by omega), (by omega)⟩, (by (simp [spliceA_length] <;> omega))⟩, ⟨(by omega), trivial⟩⟩⟩⟩⟩⟩⟩⟩⟩⟩⟩⟩⟩ ?_
      rw [Nat.mul_one (Int.toNat n)]
      rw [Nat.add_zero (Int.toNat n)]
      rw [Go.Chu.bss_getD (l) (Int.toNat n) (by omega)]
      refine DerZ.callDI (clone (List.getD l (Int.toNat n) []) (List.length (List.getD l (Int.toNat n) [])) (by omega) (by omega)) ⟨by kernel_rfl, by kernel_rfl⟩ ?_
      refine DerZ.quietI (True) (by intro x ext; kernel_rfl) (by kernel_rfl) trivial ?_
      refine DerZ.effI 2 ((56 : Nat) ≤ (56 : Nat)) (by kernel_rfl) ⟨⟨by kernel_rfl, by kernel_rfl⟩, by kernel_rfl⟩ (by omega) ?_
      refine DerZ.quietI (True) (by intro x ext; kernel_rfl) (by kernel_rfl) trivial ?_
      refine DerZ.nil ?_
      refine AWP.ret ?_
      refine FI (.tup [.agg [.sc (.int .i64 4), .sc (.int .i64 (f)), .sc (.int .i64 (to)), .sc (.int .i64 0), .sc (.int .i64 0), .sc (.int .i64 0), .sc (.int .i64 0), .sc (.int .i64 0), .sc (.int .i64 0), .sc (.int .i64 0), .sc (.int .i64 0), .sc (.int .i64 0), .sc (.int .i64 0), .sc (.int .i64 0), .sc (.int .i64 0), .sc (.int .i64 0), .sc (.int .i64 0), .sc (.int .i64 0), .sc (.int .i64 0), .sl [] 0 .nil, .sc (.int .i64 0), .sc (.int .i64 0), .sc (.int .i64 0), .sc (.int .i64 0), .sc (.int .i64 0), .sc (.int .i64 0), .sc (.int .i64 0), .sc (.int .i64 0), .sc (.int .i64 0), .sc (.int .i64 0), .sc (.int .i64 0), .sc (.int .i64 0), .sc (.int .i64 0), .sc (.int .i64 0), .sc (.int .i64 0), .sc (.int .i64 0), .sc (.int .i64 0), .sc (.int .i64 0), .sc (.int .i64 0), .sc (.int .i64 0), .sc (.int .i64 0), .sc (.int .i64 0), .sc (.int .i64 0), .sc (.int .i64 0), .sc (.int .i64 0), .sc (.int .i64 0), .sc (.bool false), .sc (.int .i64 (m)), .sc (.int .i64 (n)), .sc (.int .i64 (o)), .sl (u8s (List.getD l (Int.toNat n) [])) (List.length (List.getD l (Int.toNat n) [])) .any, .sc (.int .i64 0), .sl [] 0 .nil, .sc (.int .i64 0), .sl [] 0 .nil, .sl [] 0 .nil], .sc (.bool true)]) ?_
      refine Shrink.dataK [] (True) (.tup [.agg [.sc (.int .i64 4), .sc (.int .i64 (f)), .sc (.int .i64 (to)), .sc (.int .i64 0), .sc (.int .i64 0), .sc (.int .i64 0), .sc (.int .i64 0), .sc (.int .i64 0), .sc (.int .i64 0), .sc (.int .i64 0), .sc (.int .i64 0), .sc (.int .i64 0), .sc (.int .i64 0), .sc (.int .i64 0), .sc (.int .i64 0), .sc (.int .i64 0), .sc (.int .i64 0), .sc (.int .i64 0), .sc (.int .i64 0), .sl [] 0 .nil, .sc (.int .i64 0), .sc (.int .i64 0), .sc (.int .i64 0), .sc (.int .i64 0), .sc (.int .i64 0), .sc (.int .i64 0), .sc (.int .i64 0), .sc (.int .i64 0), .sc (.int .i64 0), .sc (.int .i64 0), .sc (.int .i64 0), .sc (.int .i64 0), .sc (.int .i64 0), .sc (.int .i64 0), .sc (.int .i64 0), .sc (.int .i64 0), .sc (.int .i64 0), .sc (.int .i64 0), .sc (.int .i64 0), .sc (.int .i64 0), .sc (.int .i64 0), .sc (.int .i64 0), .sc (.int .i64 0), .sc (.int .i64 0), .sc (.int .i64 0), .sc (.int .i64 0), .sc (.bool false), .sc (.int .i64 (m)), .sc (.int .i64 (n)), .sc (.int .i64 (o)), .sl (u8s (List.getD l (Int.toNat n) [])) (List.length (List.getD l (Int.toNat n) [])) .any, .sc (.int .i64 0), .sl [] 0 .nil, .sc (.int .i64 0), .sl [] 0 .nil, .sl [] 0 .nil], .sc (.bool true)]) (by kernel_rfl) trivial ?_ (by simp [AVal.data, dataAll])
      (rw [msgc_eq]; rfl; done)
  · have h1' := of_decide_eq_true h1
    exfalso; omega
theorem piece_no (g : Gate) (f m o n to : Int) (l : List (List Int)) (h : ¬ ((0 ≤ n ∧ n < o) ∧ n < l.length)) : EvD Try.prog 12 [.agg [.sc (.int .i64 f), .sc (.int .i64 m), .sc (.int .i64 o), .sl (bss l) l.length .any], .sc (.int .i64 n), .sc (.int .i64 to)] (.tup [.agg (msgc g (pieceM 0 0 0 0 0 0 [])), .sc (.bool false)]) := by
  refine EvD.body Try.func12 rfl rfl (by simp [dataAll, AVal.data]) ?_
  refine AWP.seq ?_
  refine TO ⟨[.agg [(I6 f), (I6 m), (I6 o), .sl (bss l) (List.length l) .any], (I6 n), (I6 to)] ++ UU 33, []⟩ ?_
  refine AWP.reg (RT 3 ?_)
  refine AWP.seq (AWP.seq (KL [0] ⟨[U6, (I6 n), (I6 to), .ptr 0 0, U6, U6, .ptr 1 0, (B6 false)] ++ UU 28, [⟨[(I6 f), (I6 m), (I6 o), .sl (bss l) (List.length l) .any], 4, .fresh⟩, ⟨[(I6 0), (I6 0), (I6 0), (I6 0), (I6 0), (I6 0), (I6 0), (I6 0), (I6 0), (I6 0), (I6 0), (I6 0), (I6 0), (I6 0), (I6 0), (I6 0), (I6 0), (I6 0), (I6 0), .sl [] 0 .nil, (I6 0), (I6 0), (I6 0), (I6 0), (I6 0), (I6 0), (I6 0), (I6 0), (I6 0), (I6 0), (I6 0), (I6 0), (I6 0), (I6 0), (I6 0), (I6 0), (I6 0), (I6 0), (I6 0), (I6 0), (I6 0), (I6 0), (I6 0), (I6 0), (I6 0), (I6 0), (B6 false), (I6 0), (I6 0), (I6 0), .sl [] 0 .nil, (I6 0), .sl [] 0 .nil, (I6 0), .sl [] 0 .nil, .sl [] 0 .nil], 56, .fresh⟩]⟩ ?_))
  refine AWP.reg (PT 3 3 ?_)
  refine DerQ.to ⟨[U6, (I6 n), (I6 to), .ptr 0 0, U6, U6, .ptr 1 0, (B6 false), (I6 n), (B6 (decide (n < 0))), (B6 (decide (n < 0)))] ++ UU 25, [⟨[(I6 f), (I6 m), (I6 o), .sl (bss l) (List.length l) .any], 4, .fresh⟩, ⟨[(I6 0), (I6 0), (I6 0), (I6 0), (I6 0), (I6 0), (I6 0), (I6 0), (I6 0), (I6 0), (I6 0), (I6 0), (I6 0), (I6 0), (I6 0), (I6 0), (I6 0), (I6 0), (I6 0), .sl [] 0 .nil, (I6 0), (I6 0), (I6 0), (I6 0), (I6 0), (I6 0), (I6 0), (I6 0), (I6 0), (I6 0), (I6 0), (I6 0), (I6 0), (I6 0), (I6 0), (I6 0), (I6 0), (I6 0), (I6 0), (I6 0), (I6 0), (I6 0), (I6 0), (I6 0), (I6 0), (I6 0), (B6 false), (I6 0), (I6 0), (I6 0), .sl [] 0 .nil, (I6 0), .sl [] 0 .nil, (I6 0), .sl [] 0 .nil, .sl [] 0 .nil], 56, .fresh⟩]⟩ (by kernel_rfl) ?_
  cases h1 : (decide (n < 0))
  · have h1' := of_decide_eq_false h1
    refine RI (True ∧ True ∧ 2 < 4 ∧ True ∧ 3 < 4 ∧ True ∧ True ∧ True ∧ True ∧ True) ⟨trivial, trivial, (by omega), trivial, (by omega), trivial, trivial, trivial, trivial, trivial⟩ ?_
    refine KL (NN 8 11) ⟨[U6, (I6 n), (I6 to), .ptr 0 0, U6, U6, .ptr 1 0, (B6 false)] ++ UU 11 ++ [(B6 (decide (n ≥ if (↑(List.length l) : Int) < o then (↑(List.length l) : Int) else o)))] ++ UU 16, [⟨[(I6 f), (I6 m), (I6 o), .sl (bss l) (List.length l) .any], 4, .fresh⟩, ⟨[(I6 0), (I6 0), (I6 0), (I6 0), (I6 0), (I6 0), (I6 0), (I6 0), (I6 0), (I6 0), (I6 0), (I6 0), (I6 0), (I6 0), (I6 0), (I6 0), (I6 0), (I6 0), (I6 0), .sl [] 0 .nil, (I6 0), (I6 0), (I6 0), (I6 0), (I6 0), (I6 0), (I6 0), (I6 0), (I6 0), (I6 0), (I6 0), (I6 0), (I6 0), (I6 0), (I6 0), (I6 0), (I6 0), (I6 0), (I6 0), (I6 0), (I6 0), (I6 0), (I6 0), (I6 0), (I6 0), (I6 0), (B6 false), (I6 0), (I6 0), (I6 0), .sl [] 0 .nil, (I6 0), .sl [] 0 .nil, (I6 0), .sl [] 0 .nil, .sl [] 0 .nil], 56, .fresh⟩]⟩ ?_
    refine CN (decide (n ≥ if (↑(List.length l) : Int) < o then (↑(List.length l) : Int) else o)) (fun h2 => ?_) (fun h2 => ?_)
    · have h2' := of_decide_eq_true h2
      refine SQ (RI (True ∧ 56 ≤ 56 ∧ True ∧ True) ⟨trivial, (by omega), trivial, trivial⟩ ?_)
      refine AWP.ret ?_
      refine FI (.tup [.agg [.sc (.int .i64 0), .sc (.int .i64 0), .sc (.int .i64 0), .sc (.int .i64 0), .sc (.int .i64 0), .sc (.int .i64 0), .sc (.int .i64 0), .sc (.int .i64 0), .sc (.int .i64 0), .sc (.int .i64 0), .sc (.int .i64 0), .sc (.int .i64 0), .sc (.int .i64 0), .sc (.int .i64 0), .sc (.int .i64 0), .sc (.int .i64 0), .sc (.int .i64 0), .sc (.int .i64 0), .sc (.int .i64 0), .sl [] 0 .nil, .sc (.int .i64 0), .sc (.int .i64 0), .sc (.int .i64 0), .sc (.int .i64 0), .sc (.int .i64 0), .sc (.int .i64 0), .sc (.int .i64 0), .sc (.int .i64 0), .sc (.int .i64 0), .sc (.int .i64 0), .sc (.int .i64 0), .sc (.int .i64 0), .sc (.int .i64 0), .sc (.int .i64 0), .sc (.int .i64 0), .sc (.int .i64 0), .sc (.int .i64 0), .sc (.int .i64 0), .sc (.int .i64 0), .sc (.int .i64 0), .sc (.int .i64 0), .sc (.int .i64 0), .sc (.int .i64 0), .sc (.int .i64 0), .sc (.int .i64 0), .sc (.int .i64 0), .sc (.bool false), .sc (.int .i64 0), .sc (.int .i64 0), .sc (.int .i64 0), .sl [] 0 .nil, .sc (.int .i64 0), .sl [] 0 .nil, .sc (.int .i64 0), .sl [] 0 .nil, .sl [] 0 .nil], .sc (.bool false)]) ?_
      refine Shrink.dataK [] (True) (.tup [.agg [.sc (.int .i64 0), .sc (.int .i64 0), .sc (.int .i64 0), .sc (.int .i64 0), .sc (.int .i64 0), .sc (.int .i64 0), .sc (.int .i64 0), .sc (.int .i64 0), .sc (.int .i64 0), .sc (.int .i64 0), .sc (.int .i64 0), .sc (.int .i64 0), .sc (.int .i64 0), .sc (.int .i64 0), .sc (.int .i64 0), .sc (.int .i64 0), .sc (.int .i64 0), .sc (.int .i64 0), .sc (.int .i64 0), .sl [] 0 .nil, .sc (.int .i64 0), .sc (.int .i64 0), .sc (.int .i64 0), .sc (.int .i64 0), .sc (.int .i64 0), .sc (.int .i64 0), .sc (.int .i64 0), .sc (.int .i64 0), .sc (.int .i64 0), .sc (.int .i64 0), .sc (.int .i64 0), .sc (.int .i64 0), .sc (.int .i64 0), .sc (.int .i64 0), .sc (.int .i64 0), .sc (.int .i64 0), .sc (.int .i64 0), .sc (.int .i64 0), .sc (.int .i64 0), .sc (.int .i64 0), .sc (.int .i64 0), .sc (.int .i64 0), .sc (.int .i64 0), .sc (.int .i64 0), .sc (.int .i64 0), .sc (.int .i64 0), .sc (.bool false), .sc (.int .i64 0), .sc (.int .i64 0), .sc (.int .i64 0), .sl [] 0 .nil, .sc (.int .i64 0), .sl [] 0 .nil, .sc (.int .i64 0), .sl [] 0 .nil, .sl [] 0 .nil], .sc (.bool false)]) (by kernel_rfl) trivial ?_ (by simp [AVal.data, dataAll])
      (rw [msgc_eq]; rfl; done)
    · have h2' := of_decide_eq_false h2
      exfalso; omega
  · have h1' := of_decide_eq_true h1
    refine RT 1 ?_
    refine KL (NN 8 11) ⟨[U6, (I6 n), (I6 to), .ptr 0 0, U6, U6, .ptr 1 0, (B6 false)] ++ UU 11 ++ [(B6 true)] ++ UU 16, [⟨[(I6 f), (I6 m), (I6 o), .sl (bss l) (List.length l) .any], 4, .fresh⟩, ⟨[(I6 0), (I6 0), (I6 0), (I6 0), (I6 0), (I6 0), (I6 0), (I6 0), (I6 0), (I6 0), (I6 0), (I6 0), (I6 0), (I6 0), (I6 0), (I6 0), (I6 0), (I6 0), (I6 0), .sl [] 0 .nil, (I6 0), (I6 0), (I6 0), (I6 0), (I6 0), (I6 0), (I6 0), (I6 0), (I6 0), (I6 0), (I6 0), (I6 0), (I6 0), (I6 0), (I6 0), (I6 0), (I6 0), (I6 0), (I6 0), (I6 0), (I6 0), (I6 0), (I6 0), (I6 0), (I6 0), (I6 0), (B6 false), (I6 0), (I6 0), (I6 0), .sl [] 0 .nil, (I6 0), .sl [] 0 .nil, (I6 0), .sl [] 0 .nil, .sl [] 0 .nil], 56, .fresh⟩]⟩ ?_
    refine CN true (fun _ => ?_) (fun h => nomatch h)
    refine SQ (RI (True ∧ 56 ≤ 56 ∧ True ∧ True) ⟨trivial, (by omega), trivial, trivial⟩ ?_)
    refine AWP.ret ?_
    refine FI (.tup [.agg [.sc (.int .i64 0), .sc (.int .i64 0), .sc (.int .i64 0), .sc (.int .i64 0), .sc (.int .i64 0), .sc (.int .i64 0), .sc (.int .i64 0), .sc (.int .i64 0), .sc (.int .i64 0), .sc (.int .i64 0), .sc (.int .i64 0), .sc (.int .i64 0), .sc (.int .i64 0), .sc (.int .i64 0), .sc (.int .i64 0), .sc (.int .i64 0), .sc (.int .i64 0), .sc (.int .i64 0), .sc (.int .i64 0), .sl [] 0 .nil, .sc (.int .i64 0), .sc (.int .i64 0), .sc (.int .i64 0), .sc (.int .i64 0), .sc (.int .i64 0), .sc (.int .i64 0), .sc (.int .i64 0), .sc (.int .i64 0), .sc (.int .i64 0), .sc (.int .i64 0), .sc (.int .i64 0), .sc (.int .i64 0), .sc (.int .i64 0), .sc (.int .i64 0), .sc (.int .i64 0), .sc (.int .i64 0), .sc (.int .i64 0), .sc (.int .i64 0), .sc (.int .i64 0), .sc (.int .i64 0), .sc (.int .i64 0), .sc (.int .i64 0), .sc (.int .i64 0), .sc (.int .i64 0), .sc (.int .i64 0), .sc (.int .i64 0), .sc (.bool false), .sc (.int .i64 0), .sc (.int .i64 0), .sc (.int .i64 0), .sl [] 0 .nil, .sc (.int .i64 0), .sl [] 0 .nil, .sc (.int .i64 0), .sl [] 0 .nil, .sl [] 0 .nil], .sc (.bool false)]) ?_
    refine Shrink.dataK [] (True) (.tup [.agg [.sc (.int .i64 0), .sc (.int .i64 0), .sc (.int .i64 0), .sc (.int .i64 0), .sc (.int .i64 0), .sc (.int .i64 0), .sc (.int .i64 0), .sc (.int .i64 0), .sc (.int .i64 0), .sc (.int .i64 0), .sc (.int .i64 0), .sc (.int .i64 0), .sc (.int .i64 0), .sc (.int .i64 0), .sc (.int .i64 0), .sc (.int .i64 0), .sc (.int .i64 0), .sc (.int .i64 0), .sc (.int .i64 0), .sl [] 0 .nil, .sc (.int .i64 0), .sc (.int .i64 0), .sc (.int .i64 0), .sc (.int .i64 0), .sc (.int .i64 0), .sc (.int .i64 0), .sc (.int .i64 0), .sc (.int .i64 0), .sc (.int .i64 0), .sc (.int .i64 0), .sc (.int .i64 0), .sc (.int .i64 0), .sc (.int .i64 0), .sc (.int .i64 0), .sc (.int .i64 0), .sc (.int .i64 0), .sc (.int .i64 0), .sc (.int .i64 0), .sc (.int .i64 0), .sc (.int .i64 0), .sc (.int .i64 0), .sc (.int .i64 0), .sc (.int .i64 0), .sc (.int .i64 0), .sc (.int .i64 0), .sc (.int .i64 0), .sc (.bool false), .sc (.int .i64 0), .sc (.int .i64 0), .sc (.int .i64 0), .sl [] 0 .nil, .sc (.int .i64 0), .sl [] 0 .nil, .sc (.int .i64 0), .sl [] 0 .nil, .sl [] 0 .nil], .sc (.bool false)]) (by kernel_rfl) trivial ?_ (by simp [AVal.data, dataAll])
    (rw [msgc_eq]; rfl; done)
theorem take_no (g : Gate) (M : MsgD) (f m o : Int) (l : List (List Int)) (h : M.kind ≠ 4 ∨ M.n < 0 ∨ M.n ≥ M.cnt ∨ M.cnt > 4096 ∨ (M.n ≠ 0 ∧ (M.src ≠ f ∨ M.num ≠ m ∨ M.cnt ≠ o ∨ M.n ≠ l.length))) : EvD Try.prog 14 [.agg [.sc (.int .i64 f), .sc (.int .i64 m), .sc (.int .i64 o), .sl (bss l) l.length .any], .agg (msgc g M)] (.tup [.agg [.sc (.int .i64 f), .sc (.int .i64 m), .sc (.int .i64 o), .sl (bss l) l.length .any], .sc (.bool false)]) := by
  refine EvD.body Try.func14 rfl (by simp [dataAll, AVal.data]) (by simp [dataAll, AVal.data]) ?_
  refine AWP.seq ?_
  refine TO ⟨[.agg [(I6 f), (I6 m), (I6 o), .sl (bss l) (List.length l) .any], .agg (msgc g M)] ++ UU 68, []⟩ ?_
  refine AWP.reg (RT 4 ?_)
  refine AWP.seq (AWP.block (AWP.seq (AWP.seq (KL [0, 1] ⟨[U6, U6, .ptr 0 0, .ptr 1 0, .ptr 2 0, (B6 false)] ++ UU 64, [⟨[(I6 f), (I6 m), (I6 o), .sl (bss l) (List.length l) .any], 4, .fresh⟩, ⟨msgc g M, 56, .fresh⟩, ⟨[(I6 0), (I6 0), (I6 0), .sl [] 0 .nil], 4, .fresh⟩]⟩ ?_))))
  refine AWP.reg ?_
  refine DerQ.pre 2 (True ∧ (0 < List.length (msgc g M)) ∧ True) ⟨[U6, U6, .ptr 0 0, .ptr 1 0, .ptr 2 0, (B6 false), U6, .ptr 1 0, List.getD (msgc g M) 0 AVal.undef] ++ UU 61, [⟨[(I6 f), (I6 m), (I6 o), .sl (bss l) (List.length l) .any], 4, .fresh⟩, ⟨msgc g M, 56, .fresh⟩, ⟨[(I6 0), (I6 0), (I6 0), .sl [] 0 .nil], 4, .fresh⟩]⟩ (by kernel_rfl) ⟨trivial, (by simp), trivial⟩ ?_
  rw [Go.Chu.msg_0 (g) (M)]
  refine RT 2 ?_
  refine KL [7, 8, 9] ⟨[U6, U6, .ptr 0 0, .ptr 1 0, .ptr 2 0, (B6 false), (B6 (M.kind != 4))] ++ UU 63, [⟨[(I6 f), (I6 m), (I6 o), .sl (bss l) (List.length l) .any], 4, .fresh⟩, ⟨msgc g M, 56, .fresh⟩, ⟨[(I6 0), (I6 0), (I6 0), .sl [] 0 .nil], 4, .fresh⟩]⟩ ?_
  refine CN (M.kind != 4) (fun h1 => ?_) (fun h1 => ?_)
  · have h1' := bne_iff_ne.1 h1
    refine AWP.skip ?_
    refine CN (M.kind != 4) (fun h2 => ?_) (fun h2 => ?_)
    · have h2' := bne_iff_ne.1 h2
      refine SQ (RI (4 ≤ 4 ∧ 4 ≤ 4 ∧ True ∧ True) ⟨(by omega), (by omega), trivial, trivial⟩ ?_)
      refine AWP.ret FA
    · have h2' := bne_eq_false_iff_eq.1 h2
      exfalso; omega
  · have h1' := bne_eq_false_iff_eq.1 h1
    refine SQ ?_
    refine DerQ.pre 2 (True ∧ (48 < List.length (msgc g M)) ∧ True) ⟨[U6, U6, .ptr 0 0, .ptr 1 0, .ptr 2 0, (B6 false), (B6 (M.kind != 4)), U6, U6, U6, .ptr 1 48, List.getD (msgc g M) 48 AVal.undef] ++ UU 58, [⟨[(I6 f), (I6 m), (I6 o), .sl (bss l) (List.length l) .any], 4, .fresh⟩, ⟨msgc g M, 56, .fresh⟩, ⟨[(I6 0), (I6 0), (I6 0), .sl [] 0 .nil], 4, .fresh⟩]⟩ (by kernel_rfl) ⟨trivial, (by simp), trivial⟩ ?_
    rw [Go.Chu.msg_48 (g) (M)]
    refine RT 2 ?_
    refine KL [10, 11, 12] ⟨[U6, U6, .ptr 0 0, .ptr 1 0, .ptr 2 0, (B6 false), (B6 (decide (M.n < 0)))] ++ UU 63, [⟨[(I6 f), (I6 m), (I6 o), .sl (bss l) (List.length l) .any], 4, .fresh⟩, ⟨msgc g M, 56, .fresh⟩, ⟨[(I6 0), (I6 0), (I6 0), .sl [] 0 .nil], 4, .fresh⟩]⟩ ?_
    refine CN (decide (M.n < 0)) (fun h2 => ?_) (fun h2 => ?_)
    · have h2' := of_decide_eq_true h2
      refine AWP.skip ?_
      refine CN (decide (M.n < 0)) (fun h3 => ?_) (fun h3 => ?_)
      · have h3' := of_decide_eq_true h3
        refine SQ (RI (4 ≤ 4 ∧ 4 ≤ 4 ∧ True ∧ True) ⟨(by omega), (by omega), trivial, trivial⟩ ?_)
        refine AWP.ret FA
      · have h3' := of_decide_eq_false h3
        exfalso; omega
    · have h2' := of_decide_eq_false h2
      refine SQ ?_
      refine DerQ.pre 4 (True ∧ (48 < List.length (msgc g M)) ∧ True ∧ (49 < List.length (msgc g M)) ∧ True) ⟨[U6, U6, .ptr 0 0, .ptr 1 0, .ptr 2 0, (B6 false), (B6 (decide (M.n < 0)))] ++ UU 6 ++ [.ptr 1 48, List.getD (msgc g M) 48 U6, .ptr 1 49, List.getD (msgc g M) 49 AVal.undef] ++ UU 53, [⟨[(I6 f), (I6 m), (I6 o), .sl (bss l) (List.length l) .any], 4, .fresh⟩, ⟨msgc g M, 56, .fresh⟩, ⟨[(I6 0), (I6 0), (I6 0), .sl [] 0 .nil], 4, .fresh⟩]⟩ (by kernel_rfl) ⟨trivial, (by simp), trivial, (by simp), trivial⟩ ?_
      rw [Go.Chu.msg_48 (g) (M)]
      rw [Go.Chu.msg_49 (g) (M)]
      refine RT 2 ?_
      refine KL (NN 13 5) ⟨[U6, U6, .ptr 0 0, .ptr 1 0, .ptr 2 0, (B6 false), (B6 (decide (M.n ≥ M.cnt)))] ++ UU 63, [⟨[(I6 f), (I6 m), (I6 o), .sl (bss l) (List.length l) .any], 4, .fresh⟩, ⟨msgc g M, 56, .fresh⟩, ⟨[(I6 0), (I6 0), (I6 0), .sl [] 0 .nil], 4, .fresh⟩]⟩ ?_
      refine CN (decide (M.n ≥ M.cnt)) (fun h3 => ?_) (fun h3 => ?_)
      · have h3' := of_decide_eq_true h3
        refine AWP.skip ?_
        refine CN (decide (M.n ≥ M.cnt)) (fun h4 => ?_) (fun h4 => ?_)
        · have h4' := of_decide_eq_true h4
          refine SQ (RI (4 ≤ 4 ∧ 4 ≤ 4 ∧ True ∧ True) ⟨(by omega), (by omega), trivial, trivial⟩ ?_)
          refine AWP.ret FA
        · have h4' := of_decide_eq_false h4
          exfalso; omega
      · have h3' := of_decide_eq_false h3
        refine AWP.reg ?_
        refine DerQ.pre 2 (True ∧ (49 < List.length (msgc g M)) ∧ True) ⟨[U6, U6, .ptr 0 0, .ptr 1 0, .ptr 2 0, (B6 false), (B6 (decide (M.n ≥ M.cnt)))] ++ UU 11 ++ [.ptr 1 49, List.getD (msgc g M) 49 AVal.undef] ++ UU 50, [⟨[(I6 f), (I6 m), (I6 o), .sl (bss l) (List.length l) .any], 4, .fresh⟩, ⟨msgc g M, 56, .fresh⟩, ⟨[(I6 0), (I6 0), (I6 0), .sl [] 0 .nil], 4, .fresh⟩]⟩ (by kernel_rfl) ⟨trivial, (by simp), trivial⟩ ?_
        rw [Go.Chu.msg_49 (g) (M)]
        refine RT 2 ?_
        refine KL [18, 19, 20] ⟨[U6, U6, .ptr 0 0, .ptr 1 0, .ptr 2 0, (B6 false), (B6 (decide (M.cnt > 4096)))] ++ UU 63, [⟨[(I6 f), (I6 m), (I6 o), .sl (bss l) (List.length l) .any], 4, .fresh⟩, ⟨msgc g M, 56, .fresh⟩, ⟨[(I6 0), (I6 0), (I6 0), .sl [] 0 .nil], 4, .fresh⟩]⟩ ?_
        refine CN (decide (M.cnt > 4096)) (fun h4 => ?_) (fun h4 => ?_)
        · have h4' := of_decide_eq_true h4
          refine SQ (RI (4 ≤ 4 ∧ 4 ≤ 4 ∧ True ∧ True) ⟨(by omega), (by omega), trivial, trivial⟩ ?_)
          refine AWP.ret FA
        · have h4' := of_decide_eq_false h4
          refine SQ ?_
          refine DerQ.pre 2 (True ∧ (48 < List.length (msgc g M)) ∧ True) ⟨[U6, U6, .ptr 0 0, .ptr 1 0, .ptr 2 0, (B6 false), (B6 (decide (M.cnt > 4096)))] ++ UU 16 ++ [.ptr 1 48, List.getD (msgc g M) 48 AVal.undef] ++ UU 45, [⟨[(I6 f), (I6 m), (I6 o), .sl (bss l) (List.length l) .any], 4, .fresh⟩, ⟨msgc g M, 56, .fresh⟩, ⟨[(I6 0), (I6 0), (I6 0), .sl [] 0 .nil], 4, .fresh⟩]⟩ (by kernel_rfl) ⟨trivial, (by simp), trivial⟩ ?_
          rw [Go.Chu.msg_48 (g) (M)]
          refine RT 2 ?_
          refine KL [6, 23, 24, 25] ⟨[U6, U6, .ptr 0 0, .ptr 1 0, .ptr 2 0, (B6 false)] ++ UU 16 ++ [(B6 (M.n == 0))] ++ UU 47, [⟨[(I6 f), (I6 m), (I6 o), .sl (bss l) (List.length l) .any], 4, .fresh⟩, ⟨msgc g M, 56, .fresh⟩, ⟨[(I6 0), (I6 0), (I6 0), .sl [] 0 .nil], 4, .fresh⟩]⟩ ?_
          refine CN (M.n == 0) (fun h5 => ?_) (fun h5 => ?_)
          · have h5' := eq_of_beq h5
            exfalso; omega
          · have h5' := ne_of_beq_false h5
            refine AWP.seq (SQ ?_)
            refine DerQ.pre 4 (True ∧ (1 < List.length (msgc g M)) ∧ True ∧ 0 < 4 ∧ True) ⟨[U6, U6, .ptr 0 0, .ptr 1 0, .ptr 2 0, (B6 false)] ++ UU 16 ++ [(B6 (M.n == 0))] ++ UU 15 ++ [.ptr 1 1, List.getD (msgc g M) 1 U6, .ptr 0 0, (I6 f)] ++ UU 28, [⟨[(I6 f), (I6 m), (I6 o), .sl (bss l) (List.length l) .any], 4, .fresh⟩, ⟨msgc g M, 56, .fresh⟩, ⟨[(I6 0), (I6 0), (I6 0), .sl [] 0 .nil], 4, .fresh⟩]⟩ (by kernel_rfl) ⟨trivial, (by simp), trivial, (by omega), trivial⟩ ?_
            rw [Go.Chu.msg_1 (g) (M)]
            refine RT 2 ?_
            refine KL ([22] ++ NN 38 5) ⟨[U6, U6, .ptr 0 0, .ptr 1 0, .ptr 2 0, (B6 false)] ++ UU 31 ++ [(B6 (M.src != f))] ++ UU 32, [⟨[(I6 f), (I6 m), (I6 o), .sl (bss l) (List.length l) .any], 4, .fresh⟩, ⟨msgc g M, 56, .fresh⟩, ⟨[(I6 0), (I6 0), (I6 0), .sl [] 0 .nil], 4, .fresh⟩]⟩ ?_
            refine CN (M.src != f) (fun h6 => ?_) (fun h6 => ?_)
            · have h6' := bne_iff_ne.1 h6
              refine AWP.skip ?_
              refine CN (M.src != f) (fun h7 => ?_) (fun h7 => ?_)
              · have h7' := bne_iff_ne.1 h7
                refine SQ (RI (4 ≤ 4 ∧ 4 ≤ 4 ∧ True ∧ True) ⟨(by omega), (by omega), trivial, trivial⟩ ?_)
                refine AWP.ret FA
              · have h7' := bne_eq_false_iff_eq.1 h7
                exfalso; omega
            · have h6' := bne_eq_false_iff_eq.1 h6
              refine SQ ?_
              refine DerQ.pre 4 (True ∧ (47 < List.length (msgc g M)) ∧ True ∧ 1 < 4 ∧ True) ⟨[U6, U6, .ptr 0 0, .ptr 1 0, .ptr 2 0, (B6 false)] ++ UU 31 ++ [(B6 (M.src != f))] ++ UU 5 ++ [.ptr 1 47, List.getD (msgc g M) 47 U6, .ptr 0 1, (I6 m)] ++ UU 23, [⟨[(I6 f), (I6 m), (I6 o), .sl (bss l) (List.length l) .any], 4, .fresh⟩, ⟨msgc g M, 56, .fresh⟩, ⟨[(I6 0), (I6 0), (I6 0), .sl [] 0 .nil], 4, .fresh⟩]⟩ (by kernel_rfl) ⟨trivial, (by simp), trivial, (by omega), trivial⟩ ?_
              rw [Go.Chu.msg_47 (g) (M)]
              refine RT 2 ?_
              refine KL (NN 43 5) ⟨[U6, U6, .ptr 0 0, .ptr 1 0, .ptr 2 0, (B6 false)] ++ UU 31 ++ [(B6 (M.num != m))] ++ UU 32, [⟨[(I6 f), (I6 m), (I6 o), .sl (bss l) (List.length l) .any], 4, .fresh⟩, ⟨msgc g M, 56, .fresh⟩, ⟨[(I6 0), (I6 0), (I6 0), .sl [] 0 .nil], 4, .fresh⟩]⟩ ?_
              refine CN (M.num != m) (fun h7 => ?_) (fun h7 => ?_)
              · have h7' := bne_iff_ne.1 h7
                refine AWP.skip ?_
                refine CN (M.num != m) (fun h8 => ?_) (fun h8 => ?_)
                · have h8' := bne_iff_ne.1 h8
                  refine SQ (RI (4 ≤ 4 ∧ 4 ≤ 4 ∧ True ∧ True) ⟨(by omega), (by omega), trivial, trivial⟩ ?_)
                  refine AWP.ret FA
                · have h8' := bne_eq_false_iff_eq.1 h8
                  exfalso; omega
              · have h7' := bne_eq_false_iff_eq.1 h7
                refine SQ ?_
                refine DerQ.pre 4 (True ∧ (49 < List.length (msgc g M)) ∧ True ∧ 2 < 4 ∧ True) ⟨[U6, U6, .ptr 0 0, .ptr 1 0, .ptr 2 0, (B6 false)] ++ UU 31 ++ [(B6 (M.num != m))] ++ UU 10 ++ [.ptr 1 49, List.getD (msgc g M) 49 U6, .ptr 0 2, (I6 o)] ++ UU 18, [⟨[(I6 f), (I6 m), (I6 o), .sl (bss l) (List.length l) .any], 4, .fresh⟩, ⟨msgc g M, 56, .fresh⟩, ⟨[(I6 0), (I6 0), (I6 0), .sl [] 0 .nil], 4, .fresh⟩]⟩ (by kernel_rfl) ⟨trivial, (by simp), trivial, (by omega), trivial⟩ ?_
                rw [Go.Chu.msg_49 (g) (M)]
                refine RT 2 ?_
                refine KL (NN 48 5) ⟨[U6, U6, .ptr 0 0, .ptr 1 0, .ptr 2 0, (B6 false)] ++ UU 31 ++ [(B6 (M.cnt != o))] ++ UU 32, [⟨[(I6 f), (I6 m), (I6 o), .sl (bss l) (List.length l) .any], 4, .fresh⟩, ⟨msgc g M, 56, .fresh⟩, ⟨[(I6 0), (I6 0), (I6 0), .sl [] 0 .nil], 4, .fresh⟩]⟩ ?_
                refine CN (M.cnt != o) (fun h8 => ?_) (fun h8 => ?_)
                · have h8' := bne_iff_ne.1 h8
                  refine AWP.skip ?_
                  refine CN (M.cnt != o) (fun h9 => ?_) (fun h9 => ?_)
                  · have h9' := bne_iff_ne.1 h9
                    refine SQ (RI (4 ≤ 4 ∧ 4 ≤ 4 ∧ True ∧ True) ⟨(by omega), (by omega), trivial, trivial⟩ ?_)
                    refine AWP.ret FA
                  · have h9' := bne_eq_false_iff_eq.1 h9
                    exfalso; omega
                · have h8' := bne_eq_false_iff_eq.1 h8
                  refine AWP.reg ?_
                  refine DerQ.pre 5 (True ∧ (48 < List.length (msgc g M)) ∧ True ∧ 3 < 4 ∧ True ∧ True) ⟨[U6, U6, .ptr 0 0, .ptr 1 0, .ptr 2 0, (B6 false)] ++ UU 31 ++ [(B6 (M.cnt != o))] ++ UU 15 ++ [.ptr 1 48, List.getD (msgc g M) 48 U6, .ptr 0 3, .sl (bss l) (List.length l) .any, (I6 (↑(List.length l) : Int))] ++ UU 12, [⟨[(I6 f), (I6 m), (I6 o), .sl (bss l) (List.length l) .any], 4, .fresh⟩, ⟨msgc g M, 56, .fresh⟩, ⟨[(I6 0), (I6 0), (I6 0), .sl [] 0 .nil], 4, .fresh⟩]⟩ (by kernel_rfl) ⟨trivial, (by simp), trivial, (by omega), trivial, trivial⟩ ?_
                  rw [Go.Chu.msg_48 (g) (M)]
                  refine RT 2 ?_
                  refine KL (NN 53 6) ⟨[U6, U6, .ptr 0 0, .ptr 1 0, .ptr 2 0, (B6 false)] ++ UU 31 ++ [(B6 (M.n != (↑(List.length l) : Int)))] ++ UU 32, [⟨[(I6 f), (I6 m), (I6 o), .sl (bss l) (List.length l) .any], 4, .fresh⟩, ⟨msgc g M, 56, .fresh⟩, ⟨[(I6 0), (I6 0), (I6 0), .sl [] 0 .nil], 4, .fresh⟩]⟩ ?_
                  refine CN (M.n != (↑(List.length l) : Int)) (fun h9 => ?_) (fun h9 => ?_)
                  · have h9' := bne_iff_ne.1 h9
                    refine SQ (RI (4 ≤ 4 ∧ 4 ≤ 4 ∧ True ∧ True) ⟨(by omega), (by omega), trivial, trivial⟩ ?_)
                    refine AWP.ret FA
                  · have h9' := bne_eq_false_iff_eq.1 h9
                    exfalso; omega
theorem take_first (g : Gate) (M : MsgD) (f m o : Int) (l : List (List Int)) (hx : M.data.length ≤ 1000000) (h : M.kind = 4 ∧ M.n = 0 ∧ 0 < M.cnt ∧ M.cnt ≤ 4096) : EvD Try.prog 14 [.agg [.sc (.int .i64 f), .sc (.int .i64 m), .sc (.int .i64 o), .sl (bss l) l.length .any], .agg (msgc g M)] (.tup [.agg [.sc (.int .i64 M.src), .sc (.int .i64 M.num), .sc (.int .i64 M.cnt), .sl (bss [M.data]) 1 .any], .sc (.bool true)]) := by
  refine EvD.body Try.func14 rfl (by simp [dataAll, AVal.data]) (by simp [dataAll, AVal.data]) ?_
  refine AWP.seq ?_
  refine TO ⟨[.agg [(I6 f), (I6 m), (I6 o), .sl (bss l) (List.length l) .any], .agg (msgc g M)] ++ UU 68, []⟩ ?_
  refine AWP.reg (RT 4 ?_)
  refine AWP.seq (AWP.block (AWP.seq (AWP.seq (KL [0, 1] ⟨[U6, U6, .ptr 0 0, .ptr 1 0, .ptr 2 0, (B6 false)] ++ UU 64, [⟨[(I6 f), (I6 m), (I6 o), .sl (bss l) (List.length l) .any], 4, .fresh⟩, ⟨msgc g M, 56, .fresh⟩, ⟨[(I6 0), (I6 0), (I6 0), .sl [] 0 .nil], 4, .fresh⟩]⟩ ?_))))
  refine AWP.reg ?_
  refine DerQ.pre 2 (True ∧ (0 < List.length (msgc g M)) ∧ True) ⟨[U6, U6, .ptr 0 0, .ptr 1 0, .ptr 2 0, (B6 false), U6, .ptr 1 0, List.getD (msgc g M) 0 AVal.undef] ++ UU 61, [⟨[(I6 f), (I6 m), (I6 o), .sl (bss l) (List.length l) .any], 4, .fresh⟩, ⟨msgc g M, 56, .fresh⟩, ⟨[(I6 0), (I6 0), (I6 0), .sl [] 0 .nil], 4, .fresh⟩]⟩ (by kernel_rfl) ⟨trivial, (by simp), trivial⟩ ?_
  rw [Go.Chu.msg_0 (g) (M)]
  refine RT 2 ?_
  refine KL [7, 8, 9] ⟨[U6, U6, .ptr 0 0, .ptr 1 0, .ptr 2 0, (B6 false), (B6 (M.kind != 4))] ++ UU 63, [⟨[(I6 f), (I6 m), (I6 o), .sl (bss l) (List.length l) .any], 4, .fresh⟩, ⟨msgc g M, 56, .fresh⟩, ⟨[(I6 0), (I6 0), (I6 0), .sl [] 0 .nil], 4, .fresh⟩]⟩ ?_
  refine CN (M.kind != 4) (fun h1 => ?_) (fun h1 => ?_)
  · have h1' := bne_iff_ne.1 h1
    exfalso; omega
  · have h1' := bne_eq_false_iff_eq.1 h1
    refine SQ ?_
    refine DerQ.pre 2 (True ∧ (48 < List.length (msgc g M)) ∧ True) ⟨[U6, U6, .ptr 0 0, .ptr 1 0, .ptr 2 0, (B6 false), (B6 (M.kind != 4)), U6, U6, U6, .ptr 1 48, List.getD (msgc g M) 48 AVal.undef] ++ UU 58, [⟨[(I6 f), (I6 m), (I6 o), .sl (bss l) (List.length l) .any], 4, .fresh⟩, ⟨msgc g M, 56, .fresh⟩, ⟨[(I6 0), (I6 0), (I6 0), .sl [] 0 .nil], 4, .fresh⟩]⟩ (by kernel_rfl) ⟨trivial, (by simp), trivial⟩ ?_
    rw [Go.Chu.msg_48 (g) (M)]
    refine RT 2 ?_
    refine KL [10, 11, 12] ⟨[U6, U6, .ptr 0 0, .ptr 1 0, .ptr 2 0, (B6 false), (B6 (decide (M.n < 0)))] ++ UU 63, [⟨[(I6 f), (I6 m), (I6 o), .sl (bss l) (List.length l) .any], 4, .fresh⟩, ⟨msgc g M, 56, .fresh⟩, ⟨[(I6 0), (I6 0), (I6 0), .sl [] 0 .nil], 4, .fresh⟩]⟩ ?_
    refine CN (decide (M.n < 0)) (fun h2 => ?_) (fun h2 => ?_)
    · have h2' := of_decide_eq_true h2
      exfalso; omega
    · have h2' := of_decide_eq_false h2
      refine SQ ?_
      refine DerQ.pre 4 (True ∧ (48 < List.length (msgc g M)) ∧ True ∧ (49 < List.length (msgc g M)) ∧ True) ⟨[U6, U6, .ptr 0 0, .ptr 1 0, .ptr 2 0, (B6 false), (B6 (decide (M.n < 0)))] ++ UU 6 ++ [.ptr 1 48, List.getD (msgc g M) 48 U6, .ptr 1 49, List.getD (msgc g M) 49 AVal.undef] ++ UU 53, [⟨[(I6 f), (I6 m), (I6 o), .sl (bss l) (List.length l) .any], 4, .fresh⟩, ⟨msgc g M, 56, .fresh⟩, ⟨[(I6 0), (I6 0), (I6 0), .sl [] 0 .nil], 4, .fresh⟩]⟩ (by kernel_rfl) ⟨trivial, (by simp), trivial, (by simp), trivial⟩ ?_
      rw [Go.Chu.msg_48 (g) (M)]
      rw [Go.Chu.msg_49 (g) (M)]
      refine RT 2 ?_
      refine KL (NN 13 5) ⟨[U6, U6, .ptr 0 0, .ptr 1 0, .ptr 2 0, (B6 false), (B6 (decide (M.n ≥ M.cnt)))] ++ UU 63, [⟨[(I6 f), (I6 m), (I6 o), .sl (bss l) (List.length l) .any], 4, .fresh⟩, ⟨msgc g M, 56, .fresh⟩, ⟨[(I6 0), (I6 0), (I6 0), .sl [] 0 .nil], 4, .fresh⟩]⟩ ?_
      refine CN (decide (M.n ≥ M.cnt)) (fun h3 => ?_) (fun h3 => ?_)
      · have h3' := of_decide_eq_true h3
        exfalso; omega
      · have h3' := of_decide_eq_false h3
        refine AWP.reg ?_
        refine DerQ.pre 2 (True ∧ (49 < List.length (msgc g M)) ∧ True) ⟨[U6, U6, .ptr 0 0, .ptr 1 0, .ptr 2 0, (B6 false), (B6 (decide (M.n ≥ M.cnt)))] ++ UU 11 ++ [.ptr 1 49, List.getD (msgc g M) 49 AVal.undef] ++ UU 50, [⟨[(I6 f), (I6 m), (I6 o), .sl (bss l) (List.length l) .any], 4, .fresh⟩, ⟨msgc g M, 56, .fresh⟩, ⟨[(I6 0), (I6 0), (I6 0), .sl [] 0 .nil], 4, .fresh⟩]⟩ (by kernel_rfl) ⟨trivial, (by simp), trivial⟩ ?_
        rw [Go.Chu.msg_49 (g) (M)]
        refine RT 2 ?_
        refine KL [18, 19, 20] ⟨[U6, U6, .ptr 0 0, .ptr 1 0, .ptr 2 0, (B6 false), (B6 (decide (M.cnt > 4096)))] ++ UU 63, [⟨[(I6 f), (I6 m), (I6 o), .sl (bss l) (List.length l) .any], 4, .fresh⟩, ⟨msgc g M, 56, .fresh⟩, ⟨[(I6 0), (I6 0), (I6 0), .sl [] 0 .nil], 4, .fresh⟩]⟩ ?_
        refine CN (decide (M.cnt > 4096)) (fun h4 => ?_) (fun h4 => ?_)
        · have h4' := of_decide_eq_true h4
          exfalso; omega
        · have h4' := of_decide_eq_false h4
          refine SQ ?_
          refine DerQ.pre 2 (True ∧ (48 < List.length (msgc g M)) ∧ True) ⟨[U6, U6, .ptr 0 0, .ptr 1 0, .ptr 2 0, (B6 false), (B6 (decide (M.cnt > 4096)))] ++ UU 16 ++ [.ptr 1 48, List.getD (msgc g M) 48 AVal.undef] ++ UU 45, [⟨[(I6 f), (I6 m), (I6 o), .sl (bss l) (List.length l) .any], 4, .fresh⟩, ⟨msgc g M, 56, .fresh⟩, ⟨[(I6 0), (I6 0), (I6 0), .sl [] 0 .nil], 4, .fresh⟩]⟩ (by kernel_rfl) ⟨trivial, (by simp), trivial⟩ ?_
          rw [Go.Chu.msg_48 (g) (M)]
          refine RT 2 ?_
          refine KL [6, 23, 24, 25] ⟨[U6, U6, .ptr 0 0, .ptr 1 0, .ptr 2 0, (B6 false)] ++ UU 16 ++ [(B6 (M.n == 0))] ++ UU 47, [⟨[(I6 f), (I6 m), (I6 o), .sl (bss l) (List.length l) .any], 4, .fresh⟩, ⟨msgc g M, 56, .fresh⟩, ⟨[(I6 0), (I6 0), (I6 0), .sl [] 0 .nil], 4, .fresh⟩]⟩ ?_
          refine CN (M.n == 0) (fun h5 => ?_) (fun h5 => ?_)
          · have h5' := eq_of_beq h5
            refine AWP.seq ?_
            refine AWP.drawB mixed (fun o => if [].contains (o.dst.getD 0) then 1 else if [].contains (o.dst.getD 0) then 2 else if [35, 0, 34].contains (o.dst.getD 0) then 3 else 0) 0 3 (fun x => [⟨[(I6 f), (I6 m), (I6 o), .sl (bss l) (List.length l) .any], 4, .fresh⟩, ⟨msgc g M, 56, .fresh⟩, ⟨x 2, 4, .fresh⟩]) ⟨[U6, U6, .ptr 0 0, .ptr 1 0, .ptr 2 0, (B6 false)] ++ UU 16 ++ [(B6 (M.n == 0))] ++ UU 47, [⟨[(I6 f), (I6 m), (I6 o), .sl (bss l) (List.length l) .any], 4, .fresh⟩, ⟨msgc g M, 56, .fresh⟩, ⟨[(I6 0), (I6 0), (I6 0), .sl [] 0 .nil], 4, .fresh⟩]⟩ (by kernel_rfl) ⟨by kernel_rfl, by kernel_rfl⟩ (by kernel_rfl) ?_
            refine DerZ.pre 8 ((True) ∧ ((1 < List.length (msgc g M)) ∧ ((True) ∧ ((47 < List.length (msgc g M)) ∧ ((True) ∧ ((49 < List.length (msgc g M)) ∧ ((True) ∧ ((50 < List.length (msgc g M)) ∧ (True))))))))) [.ptr 1 1, List.getD (msgc g M) 1 U6, .ptr 1 47, List.getD (msgc g M) 47 U6, .ptr 1 49, List.getD (msgc g M) 49 U6, .ptr 1 50, List.getD (msgc g M) 50 AVal.undef] ⟨[U6, U6, .ptr 0 0, .ptr 1 0, .ptr 2 0, (B6 false)] ++ UU 16 ++ [(B6 (M.n == 0)), U6, U6, U6, .ptr 1 1, List.getD (msgc g M) 1 U6, .ptr 1 47, List.getD (msgc g M) 47 U6, .ptr 1 49, List.getD (msgc g M) 49 U6, .ptr 1 50, List.getD (msgc g M) 50 AVal.undef] ++ UU 36, [⟨[(I6 f), (I6 m), (I6 o), .sl (bss l) (List.length l) .any], 4, .fresh⟩, ⟨msgc g M, 56, .fresh⟩, ⟨[(I6 0), (I6 0), (I6 0), .sl [] 0 .nil], 4, .fresh⟩]⟩ (by intro x ext; kernel_rfl) (by kernel_rfl) ⟨trivial, ⟨(by simp), ⟨trivial, ⟨(by simp), ⟨trivial, ⟨(by simp), ⟨trivial, ⟨(by simp), trivial⟩⟩⟩⟩⟩⟩⟩⟩ ?_
            rw [Go.Chu.msg_1 (g) (M)]
            rw [Go.Chu.msg_47 (g) (M)]
            rw [Go.Chu.msg_49 (g) (M)]
            rw [Go.Chu.msg_50 (g) (M)]
            refine DerZ.callDI (clone M.data (List.length M.data) (by omega) (by omega)) ⟨by kernel_rfl, by kernel_rfl⟩ ?_
            refine DerZ.preI 2 ((True) ∧ ((True) ∧ (True))) (by intro x ext; kernel_rfl) ⟨trivial, ⟨trivial, trivial⟩⟩ ?_
            refine DerZ.effI 3 ((4 : Nat) ≤ (4 : Nat)) (by kernel_rfl) ⟨⟨by kernel_rfl, by kernel_rfl⟩, by kernel_rfl⟩ (by omega) ?_
            refine DerZ.quietI (True) (by intro x ext; kernel_rfl) (by kernel_rfl) trivial ?_
            refine DerZ.nil ?_
            refine AWP.ret ?_
            refine FI (.tup [.agg [.sc (.int .i64 (M.src)), .sc (.int .i64 (M.num)), .sc (.int .i64 (M.cnt)), .sl [.sl (u8s M.data) (List.length M.data) .any] 1 .nn], .sc (.bool true)]) ?_
            refine Shrink.dataK [] (True) (.tup [.agg [.sc (.int .i64 (M.src)), .sc (.int .i64 (M.num)), .sc (.int .i64 (M.cnt)), .sl [.sl (u8s M.data) (List.length M.data) .any] 1 .nn], .sc (.bool true)]) (by kernel_rfl) trivial ?_ rfl
            kernel_rfl
          · have h5' := ne_of_beq_false h5
            exfalso; omega
theorem take_next (g : Gate) (M : MsgD) (l : List (List Int)) (hl : l.length ≤ 5000) (hx : M.data.length ≤ 1000000) (h : M.kind = 4 ∧ M.n < M.cnt ∧ M.cnt ≤ 4096 ∧ M.n ≠ 0 ∧ M.n = l.length) : EvD Try.prog 14 [.agg [.sc (.int .i64 M.src), .sc (.int .i64 M.num), .sc (.int .i64 M.cnt), .sl (bss l) l.length .any], .agg (msgc g M)] (.tup [.agg [.sc (.int .i64 M.src), .sc (.int .i64 M.num), .sc (.int .i64 M.cnt), .sl (bss (l ++ [M.data])) (l.length + 1) .any], .sc (.bool true)]) := by
  refine EvD.body Try.func14 rfl (by simp [dataAll, AVal.data]) (by simp [dataAll, AVal.data]) ?_
  refine AWP.seq ?_
  refine TO ⟨[.agg [(I6 (M.src)), (I6 (M.num)), (I6 (M.cnt)), .sl (bss l) (List.length l) .any], .agg (msgc g M)] ++ UU 68, []⟩ ?_
  refine AWP.reg (RT 4 ?_)
  refine AWP.seq (AWP.block (AWP.seq (AWP.seq (KL [0, 1] ⟨[U6, U6, .ptr 0 0, .ptr 1 0, .ptr 2 0, (B6 false)] ++ UU 64, [⟨[(I6 (M.src)), (I6 (M.num)), (I6 (M.cnt)), .sl (bss l) (List.length l) .any], 4, .fresh⟩, ⟨msgc g M, 56, .fresh⟩, ⟨[(I6 0), (I6 0), (I6 0), .sl [] 0 .nil], 4, .fresh⟩]⟩ ?_))))
  refine AWP.reg ?_
  refine DerQ.pre 2 (True ∧ (0 < List.length (msgc g M)) ∧ True) ⟨[U6, U6, .ptr 0 0, .ptr 1 0, .ptr 2 0, (B6 false), U6, .ptr 1 0, List.getD (msgc g M) 0 AVal.undef] ++ UU 61, [⟨[(I6 (M.src)), (I6 (M.num)), (I6 (M.cnt)), .sl (bss l) (List.length l) .any], 4, .fresh⟩, ⟨msgc g M, 56, .fresh⟩, ⟨[(I6 0), (I6 0), (I6 0), .sl [] 0 .nil], 4, .fresh⟩]⟩ (by kernel_rfl) ⟨trivial, (by simp), trivial⟩ ?_
  rw [Go.Chu.msg_0 (g) (M)]
  refine RT 2 ?_
  refine KL [7, 8, 9] ⟨[U6, U6, .ptr 0 0, .ptr 1 0, .ptr 2 0, (B6 false), (B6 (M.kind != 4))] ++ UU 63, [⟨[(I6 (M.src)), (I6 (M.num)), (I6 (M.cnt)), .sl (bss l) (List.length l) .any], 4, .fresh⟩, ⟨msgc g M, 56, .fresh⟩, ⟨[(I6 0), (I6 0), (I6 0), .sl [] 0 .nil], 4, .fresh⟩]⟩ ?_
  refine CN (M.kind != 4) (fun h1 => ?_) (fun h1 => ?_)
  · have h1' := bne_iff_ne.1 h1
    exfalso; omega
  · have h1' := bne_eq_false_iff_eq.1 h1
    refine SQ ?_
    refine DerQ.pre 2 (True ∧ (48 < List.length (msgc g M)) ∧ True) ⟨[U6, U6, .ptr 0 0, .ptr 1 0, .ptr 2 0, (B6 false), (B6 (M.kind != 4)), U6, U6, U6, .ptr 1 48, List.getD (msgc g M) 48 AVal.undef] ++ UU 58, [⟨[(I6 (M.src)), (I6 (M.num)), (I6 (M.cnt)), .sl (bss l) (List.length l) .any], 4, .fresh⟩, ⟨msgc g M, 56, .fresh⟩, ⟨[(I6 0), (I6 0), (I6 0), .sl [] 0 .nil], 4, .fresh⟩]⟩ (by kernel_rfl) ⟨trivial, (by simp), trivial⟩ ?_
    rw [Go.Chu.msg_48 (g) (M)]
    refine RT 2 ?_
    refine KL [10, 11, 12] ⟨[U6, U6, .ptr 0 0, .ptr 1 0, .ptr 2 0, (B6 false), (B6 (decide (M.n < 0)))] ++ UU 63, [⟨[(I6 (M.src)), (I6 (M.num)), (I6 (M.cnt)), .sl (bss l) (List.length l) .any], 4, .fresh⟩, ⟨msgc g M, 56, .fresh⟩, ⟨[(I6 0), (I6 0), (I6 0), .sl [] 0 .nil], 4, .fresh⟩]⟩ ?_
    refine CN (decide (M.n < 0)) (fun h2 => ?_) (fun h2 => ?_)
    · have h2' := of_decide_eq_true h2
      exfalso; omega
    · have h2' := of_decide_eq_false h2
      refine SQ ?_
      refine DerQ.pre 4 (True ∧ (48 < List.length (msgc g M)) ∧ True ∧ (49 < List.length (msgc g M)) ∧ True) ⟨[U6, U6, .ptr 0 0, .ptr 1 0, .ptr 2 0, (B6 false), (B6 (decide (M.n < 0)))] ++ UU 6 ++ [.ptr 1 48, List.getD (msgc g M) 48 U6, .ptr 1 49, List.getD (msgc g M) 49 AVal.undef] ++ UU 53, [⟨[(I6 (M.src)), (I6 (M.num)), (I6 (M.cnt)), .sl (bss l) (List.length l) .any], 4, .fresh⟩, ⟨msgc g M, 56, .fresh⟩, ⟨[(I6 0), (I6 0), (I6 0), .sl [] 0 .nil], 4, .fresh⟩]⟩ (by kernel_rfl) ⟨trivial, (by simp), trivial, (by simp), trivial⟩ ?_
      rw [Go.Chu.msg_48 (g) (M)]
      rw [Go.Chu.msg_49 (g) (M)]
      refine RT 2 ?_
      refine KL (NN 13 5) ⟨[U6, U6, .ptr 0 0, .ptr 1 0, .ptr 2 0, (B6 false), (B6 (decide (M.n ≥ M.cnt)))] ++ UU 63, [⟨[(I6 (M.src)), (I6 (M.num)), (I6 (M.cnt)), .sl (bss l) (List.length l) .any], 4, .fresh⟩, ⟨msgc g M, 56, .fresh⟩, ⟨[(I6 0), (I6 0), (I6 0), .sl [] 0 .nil], 4, .fresh⟩]⟩ ?_
      refine CN (decide (M.n ≥ M.cnt)) (fun h3 => ?_) (fun h3 => ?_)
      · have h3' := of_decide_eq_true h3
        exfalso; omega
      · have h3' := of_decide_eq_false h3
        refine AWP.reg ?_
        refine DerQ.pre 2 (True ∧ (49 < List.length (msgc g M)) ∧ True) ⟨[U6, U6, .ptr 0 0, .ptr 1 0, .ptr 2 0, (B6 false), (B6 (decide (M.n ≥ M.cnt)))] ++ UU 11 ++ [.ptr 1 49, List.getD (msgc g M) 49 AVal.undef] ++ UU 50, [⟨[(I6 (M.src)), (I6 (M.num)), (I6 (M.cnt)), .sl (bss l) (List.length l) .any], 4, .fresh⟩, ⟨msgc g M, 56, .fresh⟩, ⟨[(I6 0), (I6 0), (I6 0), .sl [] 0 .nil], 4, .fresh⟩]⟩ (by kernel_rfl) ⟨trivial, (by simp), trivial⟩ ?_
        rw [Go.Chu.msg_49 (g) (M)]
        refine RT 2 ?_
        refine KL [18, 19, 20] ⟨[U6, U6, .ptr 0 0, .ptr 1 0, .ptr 2 0, (B6 false), (B6 (decide (M.cnt > 4096)))] ++ UU 63, [⟨[(I6 (M.src)), (I6 (M.num)), (I6 (M.cnt)), .sl (bss l) (List.length l) .any], 4, .fresh⟩, ⟨msgc g M, 56, .fresh⟩, ⟨[(I6 0), (I6 0), (I6 0), .sl [] 0 .nil], 4, .fresh⟩]⟩ ?_
        refine CN (decide (M.cnt > 4096)) (fun h4 => ?_) (fun h4 => ?_)
        · have h4' := of_decide_eq_true h4
          exfalso; omega
        · have h4' := of_decide_eq_false h4
          refine SQ ?_
          refine DerQ.pre 2 (True ∧ (48 < List.length (msgc g M)) ∧ True) ⟨[U6, U6, .ptr 0 0, .ptr 1 0, .ptr 2 0, (B6 false), (B6 (decide (M.cnt > 4096)))] ++ UU 16 ++ [.ptr 1 48, List.getD (msgc g M) 48 AVal.undef] ++ UU 45, [⟨[(I6 (M.src)), (I6 (M.num)), (I6 (M.cnt)), .sl (bss l) (List.length l) .any], 4, .fresh⟩, ⟨msgc g M, 56, .fresh⟩, ⟨[(I6 0), (I6 0), (I6 0), .sl [] 0 .nil], 4, .fresh⟩]⟩ (by kernel_rfl) ⟨trivial, (by simp), trivial⟩ ?_
          rw [Go.Chu.msg_48 (g) (M)]
          refine RT 2 ?_
          refine KL [6, 23, 24, 25] ⟨[U6, U6, .ptr 0 0, .ptr 1 0, .ptr 2 0, (B6 false)] ++ UU 16 ++ [(B6 (M.n == 0))] ++ UU 47, [⟨[(I6 (M.src)), (I6 (M.num)), (I6 (M.cnt)), .sl (bss l) (List.length l) .any], 4, .fresh⟩, ⟨msgc g M, 56, .fresh⟩, ⟨[(I6 0), (I6 0), (I6 0), .sl [] 0 .nil], 4, .fresh⟩]⟩ ?_
          refine CN (M.n == 0) (fun h5 => ?_) (fun h5 => ?_)
          · have h5' := eq_of_beq h5
            exfalso; omega
          · have h5' := ne_of_beq_false h5
            refine AWP.seq (SQ ?_)
            refine DerQ.pre 4 (True ∧ (1 < List.length (msgc g M)) ∧ True ∧ 0 < 4 ∧ True) ⟨[U6, U6, .ptr 0 0, .ptr 1 0, .ptr 2 0, (B6 false)] ++ UU 16 ++ [(B6 (M.n == 0))] ++ UU 15 ++ [.ptr 1 1, List.getD (msgc g M) 1 U6, .ptr 0 0, (I6 (M.src))] ++ UU 28, [⟨[(I6 (M.src)), (I6 (M.num)), (I6 (M.cnt)), .sl (bss l) (List.length l) .any], 4, .fresh⟩, ⟨msgc g M, 56, .fresh⟩, ⟨[(I6 0), (I6 0), (I6 0), .sl [] 0 .nil], 4, .fresh⟩]⟩ (by kernel_rfl) ⟨trivial, (by simp), trivial, (by omega), trivial⟩ ?_
            rw [Go.Chu.msg_1 (g) (M)]
            refine RT 2 ?_
            refine KL ([22] ++ NN 38 5) ⟨[U6, U6, .ptr 0 0, .ptr 1 0, .ptr 2 0, (B6 false)] ++ UU 31 ++ [(B6 (M.src != M.src))] ++ UU 32, [⟨[(I6 (M.src)), (I6 (M.num)), (I6 (M.cnt)), .sl (bss l) (List.length l) .any], 4, .fresh⟩, ⟨msgc g M, 56, .fresh⟩, ⟨[(I6 0), (I6 0), (I6 0), .sl [] 0 .nil], 4, .fresh⟩]⟩ ?_
            refine CN (M.src != M.src) (fun h6 => ?_) (fun h6 => ?_)
            · have h6' := bne_iff_ne.1 h6
              exfalso; omega
            · have h6' := bne_eq_false_iff_eq.1 h6
              refine SQ ?_
              refine DerQ.pre 4 (True ∧ (47 < List.length (msgc g M)) ∧ True ∧ 1 < 4 ∧ True) ⟨[U6, U6, .ptr 0 0, .ptr 1 0, .ptr 2 0, (B6 false)] ++ UU 31 ++ [(B6 (M.src != M.src))] ++ UU 5 ++ [.ptr 1 47, List.getD (msgc g M) 47 U6, .ptr 0 1, (I6 (M.num))] ++ UU 23, [⟨[(I6 (M.src)), (I6 (M.num)), (I6 (M.cnt)), .sl (bss l) (List.length l) .any], 4, .fresh⟩, ⟨msgc g M, 56, .fresh⟩, ⟨[(I6 0), (I6 0), (I6 0), .sl [] 0 .nil], 4, .fresh⟩]⟩ (by kernel_rfl) ⟨trivial, (by simp), trivial, (by omega), trivial⟩ ?_
              rw [Go.Chu.msg_47 (g) (M)]
              refine RT 2 ?_
              refine KL (NN 43 5) ⟨[U6, U6, .ptr 0 0, .ptr 1 0, .ptr 2 0, (B6 false)] ++ UU 31 ++ [(B6 (M.num != M.num))] ++ UU 32, [⟨[(I6 (M.src)), (I6 (M.num)), (I6 (M.cnt)), .sl (bss l) (List.length l) .any], 4, .fresh⟩, ⟨msgc g M, 56, .fresh⟩, ⟨[(I6 0), (I6 0), (I6 0), .sl [] 0 .nil], 4, .fresh⟩]⟩ ?_
              refine CN (M.num != M.num) (fun h7 => ?_) (fun h7 => ?_)
              · have h7' := bne_iff_ne.1 h7
                exfalso; omega
              · have h7' := bne_eq_false_iff_eq.1 h7
                refine SQ ?_
                refine DerQ.pre 4 (True ∧ (49 < List.length (msgc g M)) ∧ True ∧ 2 < 4 ∧ True) ⟨[U6, U6, .ptr 0 0, .ptr 1 0, .ptr 2 0, (B6 false)] ++ UU 31 ++ [(B6 (M.num != M.num))] ++ UU 10 ++ [.ptr 1 49, List.getD (msgc g M) 49 U6, .ptr 0 2, (I6 (M.cnt))] ++ UU 18, [⟨[(I6 (M.src)), (I6 (M.num)), (I6 (M.cnt)), .sl (bss l) (List.length l) .any], 4, .fresh⟩, ⟨msgc g M, 56, .fresh⟩, ⟨[(I6 0), (I6 0), (I6 0), .sl [] 0 .nil], 4, .fresh⟩]⟩ (by kernel_rfl) ⟨trivial, (by simp), trivial, (by omega), trivial⟩ ?_
                rw [Go.Chu.msg_49 (g) (M)]
                refine RT 2 ?_
                refine KL (NN 48 5) ⟨[U6, U6, .ptr 0 0, .ptr 1 0, .ptr 2 0, (B6 false)] ++ UU 31 ++ [(B6 (M.cnt != M.cnt))] ++ UU 32, [⟨[(I6 (M.src)), (I6 (M.num)), (I6 (M.cnt)), .sl (bss l) (List.length l) .any], 4, .fresh⟩, ⟨msgc g M, 56, .fresh⟩, ⟨[(I6 0), (I6 0), (I6 0), .sl [] 0 .nil], 4, .fresh⟩]⟩ ?_
                refine CN (M.cnt != M.cnt) (fun h8 => ?_) (fun h8 => ?_)
                · have h8' := bne_iff_ne.1 h8
                  exfalso; omega
                · have h8' := bne_eq_false_iff_eq.1 h8
                  refine AWP.reg ?_
                  refine DerQ.pre 5 (True ∧ (48 < List.length (msgc g M)) ∧ True ∧ 3 < 4 ∧ True ∧ True) ⟨[U6, U6, .ptr 0 0, .ptr 1 0, .ptr 2 0, (B6 false)] ++ UU 31 ++ [(B6 (M.cnt != M.cnt))] ++ UU 15 ++ [.ptr 1 48, List.getD (msgc g M) 48 U6, .ptr 0 3, .sl (bss l) (List.length l) .any, (I6 (↑(List.length l) : Int))] ++ UU 12, [⟨[(I6 (M.src)), (I6 (M.num)), (I6 (M.cnt)), .sl (bss l) (List.length l) .any], 4, .fresh⟩, ⟨msgc g M, 56, .fresh⟩, ⟨[(I6 0), (I6 0), (I6 0), .sl [] 0 .nil], 4, .fresh⟩]⟩ (by kernel_rfl) ⟨trivial, (by simp), trivial, (by omega), trivial, trivial⟩ ?_
                  rw [Go.Chu.msg_48 (g) (M)]
                  refine RT 2 ?_
                  refine KL (NN 53 6) ⟨[U6, U6, .ptr 0 0, .ptr 1 0, .ptr 2 0, (B6 false)] ++ UU 31 ++ [(B6 (M.n != (↑(List.length l) : Int)))] ++ UU 32, [⟨[(I6 (M.src)), (I6 (M.num)), (I6 (M.cnt)), .sl (bss l) (List.length l) .any], 4, .fresh⟩, ⟨msgc g M, 56, .fresh⟩, ⟨[(I6 0), (I6 0), (I6 0), .sl [] 0 .nil], 4, .fresh⟩]⟩ ?_
                  refine CN (M.n != (↑(List.length l) : Int)) (fun h9 => ?_) (fun h9 => ?_)
                  · have h9' := bne_iff_ne.1 h9
                    exfalso; omega
                  · have h9' := bne_eq_false_iff_eq.1 h9
                    refine AWP.skip (AWP.seq ?_)
                    refine AWP.drawB mixed (fun o => if [].contains (o.dst.getD 0) then 1 else if [62].contains (o.dst.getD 0) then 2 else if [66, 67, 0, 61, 65].contains (o.dst.getD 0) then 3 else 0) 0 3 (fun x => [⟨x 0, 4, .fresh⟩, ⟨msgc g M, 56, .fresh⟩, ⟨[(I6 0), (I6 0), (I6 0), .sl [] 0 .nil], 4, .fresh⟩]) ⟨[U6, U6, .ptr 0 0, .ptr 1 0, .ptr 2 0, (B6 false)] ++ UU 31 ++ [(B6 (M.n != (↑(List.length l) : Int)))] ++ UU 32, [⟨[(I6 (M.src)), (I6 (M.num)), (I6 (M.cnt)), .sl (bss l) (List.length l) .any], 4, .fresh⟩, ⟨msgc g M, 56, .fresh⟩, ⟨[(I6 0), (I6 0), (I6 0), .sl [] 0 .nil], 4, .fresh⟩]⟩ (by kernel_rfl) ⟨by kernel_rfl, by kernel_rfl⟩ (by kernel_rfl) ?_
                    refine DerZ.quietI (True) (by intro x ext; kernel_rfl) (by kernel_rfl) trivial ?_
                    refine DerZ.effI 3 ((3 : Nat) < (4 : Nat)) (by kernel_rfl) ⟨⟨by kernel_rfl, by kernel_rfl⟩, by kernel_rfl⟩ (by omega) ?_
                    refine DerZ.callA (clone2 l (by omega)) [.sl (bss l) (List.length l) .any] ⟨[U6, U6, .ptr 0 0, .ptr 1 0, .ptr 2 0, (B6 false)] ++ UU 31 ++ [(B6 (M.n != (↑(List.length l) : Int)))] ++ UU 22 ++ [.ptr 0 3, .sl (bss l) (List.length l) .any, .row 3 0 (List.length l)] ++ UU 7, [⟨[(I6 (M.src)), (I6 (M.num)), (I6 (M.cnt)), .sl (bss l) (List.length l) .any], 4, .fresh⟩, ⟨msgc g M, 56, .fresh⟩, ⟨[(I6 0), (I6 0), (I6 0), .sl [] 0 .nil], 4, .fresh⟩, ⟨bss l, 1, .fresh⟩]⟩ ⟨by kernel_rfl, by kernel_rfl, by kernel_rfl, by kernel_rfl, by kernel_rfl⟩ ?_
                    refine DerZ.pre 2 ((True) ∧ ((50 < List.length (msgc g M)) ∧ (True))) [.ptr 1 50, List.getD (msgc g M) 50 AVal.undef] ⟨[U6, U6, .ptr 0 0, .ptr 1 0, .ptr 2 0, (B6 false)] ++ UU 31 ++ [(B6 (M.n != (↑(List.length l) : Int)))] ++ UU 22 ++ [.ptr 0 3, .sl (bss l) (List.length l) .any, .row 3 0 (List.length l), .ptr 1 50, List.getD (msgc g M) 50 AVal.undef] ++ UU 5, [⟨[(I6 (M.src)), (I6 (M.num)), (I6 (M.cnt)), .sl (bss l) (List.length l) .any], 4, .fresh⟩, ⟨msgc g M, 56, .fresh⟩, ⟨[(I6 0), (I6 0), (I6 0), .sl [] 0 .nil], 4, .fresh⟩, ⟨bss l, 1, .fresh⟩]⟩ (by intro x ext; kernel_rfl) (by kernel_rfl) ⟨trivial, ⟨(by simp), trivial⟩⟩ ?_
                    rw [Go.Chu.msg_50 (g) (M)]
                    refine DerZ.callDI (clone M.data (List.length M.data) (by omega) (by omega)) ⟨by kernel_rfl, by kernel_rfl⟩ ?_
                    refine DerZ.quietI (True) (by intro x ext; kernel_rfl) (by kernel_rfl) trivial ?_
                    refine DerZ.eff 3 (((1 : Nat) = (1 : Nat)) ∧ (((1 : Nat) = (1 : Nat)) ∧ ((List.length l * 1 = List.length (bss l)) ∧ ((List.length l + 1 ≤ 1073741824) ∧ ((dataAll (bss l ++ [AVal.sl (u8s M.data) (List.length M.data) SlK.any]) = true) ∧ (∀ (i : Nat), i < 1 → AVal.one (List.getD [AVal.sl (u8s M.data) (List.length M.data) SlK.any] i AVal.undef) = true)))))) (.row 3 0 (List.length l + 1)) [⟨[(I6 (M.src)), (I6 (M.num)), (I6 (M.cnt)), .sl (bss l) (List.length l) .any], 4, .fresh⟩, ⟨msgc g M, 56, .fresh⟩, ⟨[(I6 0), (I6 0), (I6 0), .sl [] 0 .nil], 4, .fresh⟩, ⟨bss l ++ [AVal.sl (u8s M.data) (List.length M.data) SlK.any], 1, .grown⟩] ⟨[U6, U6, .ptr 0 0, .ptr 1 0, .ptr 2 0, (B6 false)] ++ UU 31 ++ [(B6 (M.n != (↑(List.length l) : Int)))] ++ UU 22 ++ [.ptr 0 3, .sl (bss l) (List.length l) .any, .row 3 0 (List.length l), .ptr 1 50, .sl (u8s M.data) (List.length M.data) .any, .sl (u8s M.data) (List.length M.data) .any, .sl [.sl (u8s M.data) (List.length M.data) .any] 1 .nn, .row 3 0 (List.length l + 1), U6, .undef], [⟨[(I6 (M.src)), (I6 (M.num)), (I6 (M.cnt)), .sl (bss l) (List.length l) .any], 4, .fresh⟩, ⟨msgc g M, 56, .fresh⟩, ⟨[(I6 0), (I6 0), (I6 0), .sl [] 0 .nil], 4, .fresh⟩, ⟨bss l ++ [AVal.sl (u8s M.data) (List.length M.data) SlK.any], 1, .grown⟩]⟩ (by kernel_rfl) ⟨⟨by kernel_rfl, by kernel_rfl⟩, by kernel_rfl, by kernel_rfl⟩ ⟨(by omega), ⟨(by omega), ⟨(by simp), ⟨(by omega), ⟨(by (exact snoc_data _ _)), (by (exact one_sl _ _ _))⟩⟩⟩⟩⟩ ?_
                    rw [Go.Chu.bss_snoc (l) (M.data)]
                    refine DerZ.quiet (True) (.ptr 0 3) ⟨[U6, U6, .ptr 0 0, .ptr 1 0, .ptr 2 0, (B6 false)] ++ UU 31 ++ [(B6 (M.n != (↑(List.length l) : Int)))] ++ UU 22 ++ [.ptr 0 3, .sl (bss l) (List.length l) .any, .row 3 0 (List.length l), .ptr 1 50, .sl (u8s M.data) (List.length M.data) .any, .sl (u8s M.data) (List.length M.data) .any, .sl [.sl (u8s M.data) (List.length M.data) .any] 1 .nn, .row 3 0 (List.length l + 1), .ptr 0 3, .undef], [⟨[(I6 (M.src)), (I6 (M.num)), (I6 (M.cnt)), .sl (bss l) (List.length l) .any], 4, .fresh⟩, ⟨msgc g M, 56, .fresh⟩, ⟨[(I6 0), (I6 0), (I6 0), .sl [] 0 .nil], 4, .fresh⟩, ⟨bss (l ++ [M.data]), 1, .grown⟩]⟩ (by intro x ext; kernel_rfl) ⟨by kernel_rfl, by kernel_rfl⟩ trivial ?_
                    refine DerZ.eff 3 ((4 : Nat) ≤ (4 : Nat)) (.tup []) [⟨[(I6 (M.src)), (I6 (M.num)), (I6 (M.cnt)), .row 3 0 (List.length l + 1)], 4, .fresh⟩, ⟨msgc g M, 56, .fresh⟩, ⟨[(I6 0), (I6 0), (I6 0), .sl [] 0 .nil], 4, .fresh⟩, ⟨bss (l ++ [M.data]), 1, .grown⟩] ⟨[U6, U6, .ptr 0 0, .ptr 1 0, .ptr 2 0, (B6 false)] ++ UU 31 ++ [(B6 (M.n != (↑(List.length l) : Int)))] ++ UU 22 ++ [.ptr 0 3, .sl (bss l) (List.length l) .any, .row 3 0 (List.length l), .ptr 1 50, .sl (u8s M.data) (List.length M.data) .any, .sl (u8s M.data) (List.length M.data) .any, .sl [.sl (u8s M.data) (List.length M.data) .any] 1 .nn, .row 3 0 (List.length l + 1), .ptr 0 3, .undef], [⟨[(I6 (M.src)), (I6 (M.num)), (I6 (M.cnt)), .row 3 0 (List.length l + 1)], 4, .fresh⟩, ⟨msgc g M, 56, .fresh⟩, ⟨[(I6 0), (I6 0), (I6 0), .sl [] 0 .nil], 4, .fresh⟩, ⟨bss (l ++ [M.data]), 1, .grown⟩]⟩ (by kernel_rfl) ⟨⟨by kernel_rfl, by kernel_rfl⟩, by kernel_rfl, by kernel_rfl⟩ (by omega) ?_
                    refine DerZ.nil ?_
                    refine AWP.seq (KL ([3, 37] ++ NN 60 9) ⟨[U6, U6, .ptr 0 0, U6, .ptr 2 0, (B6 false)] ++ UU 64, [⟨[(I6 (M.src)), (I6 (M.num)), (I6 (M.cnt)), .row 3 0 (List.length l + 1)], 4, .fresh⟩, ⟨msgc g M, 56, .fresh⟩, ⟨[(I6 0), (I6 0), (I6 0), .sl [] 0 .nil], 4, .fresh⟩, ⟨bss (l ++ [M.data]), 1, .grown⟩]⟩ ?_)
                    refine AWP.reg ?_
                    refine DerQ.run (4 ≤ 4 ∧ 4 ≤ 4 ∧ True ∧ True) ⟨[U6, U6, .ptr 0 0, U6, .ptr 2 0, (B6 true)] ++ UU 63 ++ [.agg [(I6 (M.src)), (I6 (M.num)), (I6 (M.cnt)), .row 3 0 (List.length l + 1)]], [⟨[(I6 (M.src)), (I6 (M.num)), (I6 (M.cnt)), .row 3 0 (List.length l + 1)], 4, .fresh⟩, ⟨msgc g M, 56, .fresh⟩, ⟨[(I6 (M.src)), (I6 (M.num)), (I6 (M.cnt)), .row 3 0 (List.length l + 1)], 4, .fresh⟩, ⟨bss (l ++ [M.data]), 1, .grown⟩]⟩ (by kernel_rfl) ⟨(by omega), (by omega), trivial, trivial⟩ ?_
                    refine AWP.ret ?_
                    refine FI (.tup [.agg [.sc (.int .i64 (M.src)), .sc (.int .i64 (M.num)), .sc (.int .i64 (M.cnt)), .row 3 0 (List.length l + 1)], .sc (.bool true)]) ?_
                    refine Shrink.dataK [3] ((dataAll (bss (l ++ [M.data])) = true) ∧ (True)) (.tup [.agg [.sc (.int .i64 (M.src)), .sc (.int .i64 (M.num)), .sc (.int .i64 (M.cnt)), .sl (List.take ((List.length l + 1) * 1) (List.drop 0 (bss (l ++ [M.data])))) (List.length l + 1) .any], .sc (.bool true)]) (by kernel_rfl) ⟨(by (exact dataAll_bss _)), trivial⟩ ?_ rfl
                    (rw [List.drop_zero, Nat.mul_one, List.take_of_length_le (by simp [bss_length])]; rfl; done)
end Go.Chu
