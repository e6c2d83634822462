/- Walks and laws. -/
import Derived.Test.YtikllaiggklljaaRc2
set_option maxRecDepth 100000
set_option maxHeartbeats 0
set_option linter.unusedSimpArgs false
set_option linter.unusedVariables false
namespace Go.Rec
open Go Go.Abs Go.Proofs Go.Crc Go.Chu
def endof (l : List (Nat × List Int)) : Nat := (l.getLast?.map (·.1)).getD 0
theorem endof_snoc (l : List (Nat × List Int)) (x : Nat × List Int) : endof (l ++ [x]) = x.1 := by simp [endof]
def bods (l : List (Nat × List Int)) : List AVal := bss (l.map (·.2))
theorem bods_snoc (l : List (Nat × List Int)) (x : Nat × List Int) : bods l ++ [.sl (u8s x.2) x.2.length .any] = bods (l ++ [x]) := by simp [bods, bss]
theorem bods_data (l : List (Nat × List Int)) : dataAll (bods l) = true := dataAll_bss _
theorem bods_length (l : List (Nat × List Int)) : (bods l).length = l.length := by simp [bods]
def R (pre : List (Nat × List Int)) : List Row := [⟨[.row 2 0 pre.length], 1, .fresh⟩, ⟨[.sc (.int .i64 (endof pre : Int))], 1, .fresh⟩, ⟨bods pre, 1, .grown⟩]
def a1 (b : List Int) (pre : List (Nat × List Int)) (x : Nat × List Int) : St := ⟨[.undef, .undef, .undef, .undef, .ptr 0 0, .ptr 1 0, .sc (.int .i64 (x.1 : Int)), .sl (u8s x.2) x.2.length .any, .undef, .fn 74 [.dptr [.sl (u8s b) b.length .any]], .sc (.int .i64 (x.1 : Int)), .sl (u8s x.2) x.2.length .any, .undef, .undef, .undef, .undef, .undef, .undef, .undef], R pre⟩
theorem r_wf (pre : List (Nat × List Int)) : WfRows 3 (R pre) := WfRows.of (by
  intro r hr
  simp only [R, List.mem_cons, List.not_mem_nil, or_false] at hr
  rcases hr with rfl | rfl | rfl
  · rfl
  · rfl
  · exact ltAll_of_data _ _ (bods_data _))
theorem R_snoc (pre : List (Nat × List Int)) (x : Nat × List Int) : [⟨[.row 2 0 (pre.length + 1)], 1, .fresh⟩, ⟨[.sc (.int .i64 (x.1 : Int))], 1, .fresh⟩, ⟨bods (pre ++ [x]), 1, .grown⟩] = R (pre ++ [x]) := by
  simp [R, endof_snoc]
theorem _root_.Go.Abs.Weak.to {N : Nat} {A B C : St} (h : Weak N A B) (e : B = C) : Weak N A C := e ▸ h
def recs (b : List Int) : List (Nat × List Int) := scanF (b.length + 1) b 0
theorem scan_len : ∀ (k : Nat) (b : List Int) (p : Nat), p ≤ b.length → (scanF k b p).length + p ≤ b.length
  | 0, b, p, h => by simp [scanF]; omega
  | k + 1, b, p, h => by
    cases hb : bodyP (b.drop p) with
    | none => rw [scanF_none hb]; simp; omega
    | some x =>
      have hl := bodyP_len hb
      rw [List.length_drop] at hl
      have := scan_len k b (p + 8 + x.length) (by omega)
      rw [scanF_some hb]; simp; omega
theorem recs_len (b : List Int) : (recs b).length ≤ b.length := by have := scan_len (b.length + 1) b 0 (by omega); simpa [recs] using this
theorem c_scan (b : List Int) (hx : b.length ≤ 100000) (hb : Bts b) : EvD Try.prog 15 [.sl (u8s b) b.length .any] (.tup [.sl (bods (recs b)) (recs b).length .any, .sc (.int .i64 (endof (recs b) : Int))]) := by
  have cr := c_records b
  refine EvD.bodyM Try.func15 rfl rfl (by simp [AVal.data, dataAll]) ?_
  refine AWM.seq (AWM.mono (AWM.of (Q := fun e s => e = .normal ∧ s = ⟨[.sl (u8s b) b.length .any, .undef, .sl [] 0 .nil, .sc (.int .i64 0), .undef, .undef, .undef, .undef, .undef, .undef, .undef, .undef, .undef, .undef, .undef, .undef, .undef, .undef, .undef], []⟩) ?_) ?_)
  · refine AWP.reg (RT 2 ?_)
    (exact ⟨⟨rfl, rfl⟩, NoMap.of rfl⟩; done)
  rintro _ _ ⟨rfl, rfl⟩
  refine AWM.seq (AWM.mono (AWM.of (Q := fun e s => e = .normal ∧ s = ⟨[.sl (u8s b) b.length .any, .undef, .sl [] 0 .nil, .sc (.int .i64 0), .ptr 0 0, .undef, .undef, .undef, .undef, .undef, .undef, .undef, .undef, .undef, .undef, .undef, .undef, .undef, .undef], [⟨[.sl [] 0 .nil], 1, .fresh⟩]⟩) ?_) ?_)
  · refine AWP.reg (RT 1 ?_)
    (exact ⟨⟨rfl, rfl⟩, NoMap.of rfl⟩; done)
  rintro _ _ ⟨rfl, rfl⟩
  refine AWM.seq (AWM.mono (AWM.of (Q := fun e s => e = .normal ∧ s = ⟨[.sl (u8s b) b.length .any, .undef, .sl [] 0 .nil, .sc (.int .i64 0), .ptr 0 0, .ptr 1 0, .undef, .undef, .undef, .undef, .undef, .undef, .undef, .undef, .undef, .undef, .undef, .undef, .undef], [⟨[.sl [] 0 .nil], 1, .fresh⟩, ⟨[.sc (.int .i64 0)], 1, .fresh⟩]⟩) ?_) ?_)
  · refine AWP.reg (RI (True ∧ 1 ≤ 1 ∧ True) ⟨trivial, (by omega), trivial⟩ ?_)
    (exact ⟨⟨rfl, rfl⟩, NoMap.of rfl⟩; done)
  rintro _ _ ⟨rfl, rfl⟩
  refine AWM.seq (AWM.seq (AWM.mono (AWM.of (Q := fun e s => e = .normal ∧ s = ⟨[.sl (u8s b) b.length .any, .undef, .sl [] 0 .nil, .sc (.int .i64 0), .ptr 0 0, .ptr 1 0, .undef, .undef, .sl (u8s b) b.length .any, .fn 74 [.dptr [.sl (u8s b) b.length .any]], .undef, .undef, .undef, .undef, .undef, .undef, .undef, .undef, .undef], [⟨[.sl [] 0 .nil], 1, .fresh⟩, ⟨[.sc (.int .i64 0)], 1, .fresh⟩]⟩) ?_) ?_))
  · refine AWP.reg (PT 1 1 ?_)
    refine CD (cr) ?_
    refine DerQ.nil ?_
    (exact ⟨⟨rfl, rfl⟩, NoMap.of rfl⟩; done)
  rintro _ _ ⟨rfl, rfl⟩
  refine AWM.weaken (st' := ⟨[.undef, .undef, .undef, .undef, .ptr 0 0, .ptr 1 0, .undef, .undef, .undef, .fn 74 [.dptr [.sl (u8s b) b.length .any]], .undef, .undef, .undef, .undef, .undef, .undef, .undef, .undef, .undef], [⟨[.sl [] 0 .nil], 1, .fresh⟩, ⟨[.sc (.int .i64 0)], 1, .fresh⟩]⟩) ((Weak.kill [0, 2, 3, 8]).to (by kernel_rfl)) (NoMap.of rfl) ?_
  refine AWM.weaken (st' := ⟨[.undef, .undef, .undef, .undef, .ptr 0 0, .ptr 1 0, .undef, .undef, .undef, .fn 74 [.dptr [.sl (u8s b) b.length .any]], .undef, .undef, .undef, .undef, .undef, .undef, .undef, .undef, .undef], R []⟩) ((Weak.virtC 0 0 1 ⟨[.sl [] 0 .nil], 1, .fresh⟩ _ ⟨rfl, rfl, rfl, rfl⟩).trans (Weak.grow 2 ⟨[], 1, .fresh⟩ _ ⟨rfl, rfl⟩ rfl rfl)) (NoMap.of rfl) ?_
  refine AWM.block (AWM.rangeF (it_records b hx hb) R (by kernel_rfl) (by kernel_rfl) rfl rfl (fun pre => NoMap.of rfl) (fun pre => Nat.le_refl 3) (fun _ => rfl) (a1 b) (fun _ _ => NoMap.of rfl) ?_ ?_ ?_)
  · intro pre x rest hi
    refine TO ⟨[U6, U6, U6, U6, .ptr 0 0, .ptr 1 0, U6, U6, U6, .fn 74 [.dptr [.sl (u8s b) b.length .any]], (I6 (x.1 : Int)), .sl (u8s x.2) x.2.length .any] ++ UU 7, R pre⟩ ?_
    refine SQ (RT 1 ?_)
    refine AWP.reg (RT 1 ?_)
    (exact ⟨rfl, rfl⟩; done)
  · intro pre x rest hi
    have hl := recs_len b
    have hl2 := congrArg List.length hi
    simp only [List.length_append, List.length_cons] at hl2
    refine AWP.to ⟨[U6, U6, U6, U6, .ptr 0 0, .ptr 1 0, (I6 (x.1 : Int)), .sl (u8s x.2) x.2.length .any, U6, .fn 74 [.dptr [.sl (u8s b) b.length .any]], (I6 (x.1 : Int)), .sl (u8s x.2) x.2.length .any] ++ UU 7, [⟨[.row 2 0 pre.length], 1, .fresh⟩, ⟨[(I6 (endof pre : Int))], 1, .fresh⟩, ⟨bods pre, 1, .grown⟩]⟩ rfl ?_
    refine AWP.block (SQ ?_)
    refine DerQ.run (0 < 1 ∧ True ∧ True ∧ (((1 : Nat) = (1 : Nat)) ∧ (((1 : Nat) = (1 : Nat)) ∧ ((List.length pre * 1 = List.length (bods pre)) ∧ ((List.length pre + 1 ≤ 1073741824) ∧ ((dataAll (bods pre ++ [AVal.sl (u8s x.2) (List.length x.2) SlK.any]) = true) ∧ (∀ (i : Nat), i < 1 → AVal.one (List.getD [AVal.sl (u8s x.2) (List.length x.2) SlK.any] i AVal.undef) = true)))))) ∧ 1 ≤ 1 ∧ True) ⟨[U6, U6, U6, U6, .ptr 0 0, .ptr 1 0, (I6 (↑x.1 : Int)), .sl (u8s x.2) (List.length x.2) .any, U6, .fn 74 [.dptr [.sl (u8s b) (List.length b) .any]], (I6 (↑x.1 : Int)), .sl (u8s x.2) (List.length x.2) .any, .row 2 0 (List.length pre), .sl (u8s x.2) (List.length x.2) .any, .sl [.sl (u8s x.2) (List.length x.2) .any] 1 .nn, .row 2 0 (List.length pre + 1), U6, U6, .undef], [⟨[.row 2 0 (List.length pre + 1)], 1, .fresh⟩, ⟨[(I6 (↑(endof pre) : Int))], 1, .fresh⟩, ⟨bods pre ++ [AVal.sl (u8s x.2) (List.length x.2) SlK.any], 1, .grown⟩]⟩ (by kernel_rfl) ⟨(by omega), trivial, trivial, ⟨(by omega), ⟨(by omega), ⟨(by (rw [bods_length, Nat.mul_one])), ⟨(by (simp only [recs] at hl; omega)), ⟨(by (rw [bods_snoc]; exact bods_data _)), (by (exact one_sl _ _ _))⟩⟩⟩⟩⟩, (by omega), trivial⟩ ?_
    refine KL ([4, 7] ++ NN 9 7) ⟨UU 5 ++ [.ptr 1 0, (I6 (↑x.1 : Int))] ++ UU 12, [⟨[.row 2 0 (List.length pre + 1)], 1, .fresh⟩, ⟨[(I6 (↑(endof pre) : Int))], 1, .fresh⟩, ⟨bods pre ++ [AVal.sl (u8s x.2) (List.length x.2) SlK.any], 1, .grown⟩]⟩ ?_
    refine AWP.reg ?_
    refine DerQ.run (True ∧ 1 ≤ 1 ∧ True) ⟨UU 5 ++ [.ptr 1 0, (I6 (↑x.1 : Int))] ++ UU 9 ++ [(I6 (↑x.1 : Int)), U6, .undef], [⟨[.row 2 0 (List.length pre + 1)], 1, .fresh⟩, ⟨[(I6 (↑x.1 : Int))], 1, .fresh⟩, ⟨bods pre ++ [AVal.sl (u8s x.2) (List.length x.2) SlK.any], 1, .grown⟩]⟩ (by kernel_rfl) ⟨trivial, (by omega), trivial⟩ ?_
    (exact ⟨rfl, _, (Weak.kill [0]).trans (Weak.cutW 3 (by rw [bods_snoc]; exact R_snoc pre x) (Nat.le_refl 3) rfl (r_wf _))⟩; done)
  · show AWM Try.prog 0 _ _ _
    have hl := recs_len b
    refine AWM.mono (AWM.of (Q := fun e s => e = .ret ∧ s = ⟨[.undef, .undef, .row 2 0 (recs b).length, .sc (.int .i64 (endof (recs b) : Int)), .ptr 0 0, .ptr 1 0, .undef, .undef, .undef, .fn 74 [.dptr [.sl (u8s b) b.length .any]], .undef, .undef, .undef, .undef, .undef, .undef, .undef, .row 2 0 (recs b).length, .sc (.int .i64 (endof (recs b) : Int))], [⟨[.row 2 0 (recs b).length], 1, .fresh⟩, ⟨[.sc (.int .i64 (endof (recs b) : Int))], 1, .fresh⟩, ⟨bods (recs b), 1, .grown⟩]⟩) ?_) ?_
    · refine TO ⟨[U6, U6, U6, U6, .ptr 0 0, .ptr 1 0, U6, U6, U6, .fn 74 [.dptr [.sl (u8s b) b.length .any]]] ++ UU 9, [⟨[.row 2 0 (recs b).length], 1, .fresh⟩, ⟨[(I6 (endof (recs b) : Int))], 1, .fresh⟩, ⟨bods (recs b), 1, .grown⟩]⟩ ?_
      refine AWP.seq ?_
      refine AWP.drawX mixed (fun _ => false) (by kernel_rfl) ?_
      refine DerX.preI 4 (((0 : Nat) < (1 : Nat)) ∧ (((0 : Nat) < (1 : Nat)) ∧ ((True) ∧ ((True) ∧ (True))))) (by intro ext; kernel_rfl) ⟨(by omega), ⟨(by omega), ⟨trivial, ⟨trivial, trivial⟩⟩⟩⟩ ?_
      refine DerX.nil ?_
      refine AWP.ret ?_
      (exact ⟨⟨rfl, rfl⟩, NoMap.of rfl⟩; done)
    rintro _ _ ⟨rfl, rfl⟩
    refine FI (.tup [.row 2 0 (recs b).length, (I6 (endof (recs b) : Int))]) ?_
    refine Shrink.dataK [2] (dataAll (bods (recs b)) = true ∧ True) (.tup [.sl ((bods (recs b)).drop 0 |>.take ((recs b).length * 1)) (recs b).length .any, (I6 (endof (recs b) : Int))]) (by kernel_rfl) ⟨bods_data _, trivial⟩ ?_ rfl
    simp only [AVal.anyA, anyAll, List.drop_zero, Nat.mul_one]
    rw [List.take_of_length_le (by rw [bods_length]; omega)]
end Go.Rec
