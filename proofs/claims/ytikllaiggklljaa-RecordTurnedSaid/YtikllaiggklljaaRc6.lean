/- Walks and laws. -/
import Derived.Test.YtikllaiggklljaaRc5
set_option maxRecDepth 100000
set_option maxHeartbeats 0
set_option linter.unusedSimpArgs false
set_option linter.unusedVariables false
namespace Go.Rec
open Go Go.Abs Go.Proofs Go.Crc Go.Chu
/-- Records of bodies, and where each ends. -/
def lay (l : List (List Int)) : List Int := (l.map recd).flatten
theorem lay_snoc' (l : List (List Int)) (x : List Int) : lay (l ++ [x]) = lay l ++ recd x := by simp [lay]
theorem lay_app (a b : List (List Int)) : lay (a ++ b) = lay a ++ lay b := by simp [lay]
theorem take_get (l : List (List Int)) (i : Nat) (h : i < l.length) : l.take (i + 1) = l.take i ++ [l.getD i []] := by
  rw [List.take_succ_eq_append_getElem h, List.getD_eq_getElem?_getD, List.getElem?_eq_getElem h]; rfl
theorem lay_snoc (l : List (List Int)) (i : Nat) (h : i < l.length) : lay (l.take i) ++ recd (l.getD i []) = lay (l.take (i + 1)) := by
  rw [take_get l i h, lay_snoc']
theorem lay_len (l : List (List Int)) : (lay l).length = l.flatten.length + 8 * l.length := by
  induction l with
  | nil => rfl
  | cons x l ih =>
    have : lay (x :: l) = recd x ++ lay l := by simp [lay]
    rw [this, List.length_append, recd_len, ih]; simp; omega
theorem lay_len_take (l : List (List Int)) (i : Nat) (h : i ≤ l.length) : (lay (l.take i)).length = flt l i + 8 * i := by
  rw [lay_len, List.length_take, flt]; omega
def ies (l : List Nat) : List AVal := l.map fun e : Nat => .sc (.int .i64 (e : Int))
theorem ies_length (l : List Nat) : (ies l).length = l.length := by simp [ies]
theorem ies_data (l : List Nat) : dataAll (ies l) = true := by
  rw [dataAll_iff]; intro i hi
  simp only [ies, List.length_map] at hi
  simp [ies, List.getD_eq_getElem?_getD, hi, AVal.data]
theorem ies_snoc (l : List Nat) (e : Nat) : ies l ++ [AVal.sc (Value.int IntKind.i64 (e : Int))] = ies (l ++ [e]) := by simp [ies]
theorem ies_getD (l : List Nat) (i : Nat) (h : i < l.length) : List.getD (ies l) i .undef = .sc (.int .i64 ((l.getD i 0 : Nat) : Int)) := by
  simp [ies, List.getD_eq_getElem?_getD, h]
theorem ies_one (l : List Nat) (e : Nat) : dataAll (ies l ++ [AVal.sc (Value.int IntKind.i64 (e : Int))]) = true := by rw [ies_snoc]; exact ies_data _
def endsF (l : List (List Int)) (i : Nat) : List Nat := (List.range i).map fun j => (lay (l.take (j + 1))).length
theorem endsF_succ (l : List (List Int)) (i : Nat) : endsF l i ++ [(lay (l.take (i + 1))).length] = endsF l (i + 1) := by simp [endsF, List.range_succ]
theorem endsF_length (l : List (List Int)) (i : Nat) : (endsF l i).length = i := by simp [endsF]
theorem get_le (l : List (List Int)) (i : Nat) : (l.getD i []).length ≤ l.flatten.length := by
  rcases Nat.lt_or_ge i l.length with h | h
  · have := item_le l i h; omega
  · rw [List.getD_eq_getElem?_getD, List.getElem?_eq_none h]; simp
theorem c_laid (l : List (List Int)) (h : fewP l) : EvD Try.prog 14 [.sl (bss l) l.length .any] (.tup [.sl (u8s (lay l)) (lay l).length .any, .sl (ies (endsF l l.length)) l.length .any, .sc (.bool true)]) := by
  obtain ⟨h40, h6⟩ := h
  refine EvD.body Try.func14 rfl rfl (by simp [AVal.data, dataAll]) ?_
  refine AWP.seq ?_
  refine TO ⟨[.sl (bss l) (List.length l) .any] ++ UU 47, []⟩ ?_
  refine AWP.reg (RT 3 ?_)
  refine AWP.seq ?_
  refine TO ⟨[.sl (bss l) (List.length l) .any, U6, .sl [] 0 .nil, .sl [] 0 .nil, (B6 false)] ++ UU 43, []⟩ ?_
  refine AWP.reg (RT 1 ?_)
  refine AWP.seq ?_
  refine TO ⟨[.sl (bss l) (List.length l) .any, U6, .sl [] 0 .nil, .sl [] 0 .nil, (B6 false), .sl [] 0 .nil] ++ UU 42, []⟩ ?_
  refine AWP.reg (RT 1 ?_)
  refine AWP.seq (AWP.seq ?_)
  refine TO ⟨[.sl (bss l) (List.length l) .any, U6, .sl [] 0 .nil, .sl [] 0 .nil, (B6 false), .sl [] 0 .nil, .sl [] 0 .nil] ++ UU 41, []⟩ ?_
  refine AWP.reg (RT 1 ?_)
  refine AWP.block ?_
  refine TO ⟨[.sl (bss l) (List.length l) .any, U6, .sl [] 0 .nil, .sl [] 0 .nil, (B6 false), .sl [] 0 .nil, .sl [] 0 .nil, (I6 0)] ++ UU 40, []⟩ ?_
  refine AWP.anyR 5 ⟨[.sl (bss l) (List.length l) .any, U6, .sl [] 0 .nil, .sl [] 0 .nil, (B6 false), .sl [] 0 .any, .sl [] 0 .nil, (I6 0)] ++ UU 40, []⟩ (by kernel_rfl) ?_
  refine AWP.virt 6 1 ⟨[.sl (bss l) (List.length l) .any, U6, .sl [] 0 .nil, .sl [] 0 .nil, (B6 false), .sl [] 0 .any, .row 0 0 0, (I6 0)] ++ UU 40, [⟨[], 1, .fresh⟩]⟩ ⟨by kernel_rfl, by kernel_rfl⟩ ?_
  refine AWP.grow 0 ⟨[], 1, .fresh⟩ ⟨[.sl (bss l) (List.length l) .any, U6, .sl [] 0 .nil, .sl [] 0 .nil, (B6 false), .sl [] 0 .any, .row 0 0 0, (I6 0), U6, U6, U6, U6, U6, U6, U6, U6, U6, U6, U6, U6, U6, U6, U6, U6, U6, U6, U6, U6, U6, U6, U6, U6, U6, U6, U6, U6, U6, U6, U6, U6, U6, U6, U6, U6, U6, U6, U6, .undef], [⟨[], 1, .grown⟩]⟩ ⟨by kernel_rfl, by kernel_rfl⟩ rfl rfl ?_
  refine AWP.loopM [true, false, true, true, true, true, true, true, false, false, false, false, false, false, false, false, false, false, false, false, false, false, false, false, false, false, false, false, false, false, false, false, false, false, false, false, false, false, false, false, false, false, false, false, false, false, false, false] (fun kk st => ∃ (i : Nat), kk = l.length - i ∧ i ≤ l.length ∧ st = ⟨[.sl (bss l) (List.length l) .any, U6, .sl [] 0 .nil, .sl [] 0 .nil, (B6 false), .sl (u8s (lay (l.take i))) (lay (l.take i)).length .any, .row 0 0 i, (I6 (i : Int)), U6, U6, U6, U6, U6, U6, U6, U6, U6, U6, U6, U6, U6, U6, U6, U6, U6, U6, U6, U6, U6, U6, U6, U6, U6, U6, U6, U6, U6, U6, U6, U6, U6, U6, U6, U6, U6, U6, U6, .undef], [⟨ies (endsF l i), 1, .grown⟩]⟩) _ ⟨0, rfl, by omega, by kernel_rfl⟩ ?_
  rintro kk s ⟨i, rfl, hi, rfl⟩
  have e5 := lay_len_take l i hi
  have e6 := flt_le l i
  have e9 := get_le l i
  refine AWP.seq (SQ (RT 4 ?_))
  refine KL [10, 11, 12] ⟨[.sl (bss l) (List.length l) .any, U6, .sl [] 0 .nil, .sl [] 0 .nil, (B6 false), .sl (u8s (lay (List.take i l))) (List.length (lay (List.take i l))) .any, .row 0 0 (i), (I6 (↑i : Int))] ++ UU 5 ++ [(B6 (decide ((↑i : Int) < (↑(List.length l) : Int))))] ++ UU 34, [⟨ies (endsF l i), 1, .grown⟩]⟩ ?_
  refine CN (decide ((↑i : Int) < (↑(List.length l) : Int))) (fun h1 => ?_) (fun h1 => ?_)
  · have h1' := of_decide_eq_true h1
    refine AWP.skip (AWP.seq (AWP.block (SQ ?_)))
    refine DerQ.pre 5 (True ∧ True ∧ True ∧ (((0 ≤ (↑i : Int)) ∧ ((↑i : Int) < (↑(List.length l) : Int))) ∧ (Int.toNat (↑i : Int) * 1 + 1 ≤ List.length (bss l))) ∧ 0 < 1 ∧ True) ⟨[.sl (bss l) (List.length l) .any, U6, .sl [] 0 .nil, .sl [] 0 .nil, (B6 false), .sl (u8s (lay (List.take i l))) (List.length (lay (List.take i l))) .any, .row 0 0 (i), (I6 (↑i : Int))] ++ UU 5 ++ [(B6 (decide ((↑i : Int) < (↑(List.length l) : Int)))), U6, U6, U6, .sl (u8s (lay (List.take i l))) (List.length (lay (List.take i l))) .any, .sl (bss l) (List.length l) .any, (I6 (↑i : Int)), .dptr [List.getD (bss l) (Int.toNat (↑i : Int) * 1 + 0) AVal.undef], List.getD [List.getD (bss l) (Int.toNat (↑i : Int) * 1 + 0) AVal.undef] 0 AVal.undef] ++ UU 26, [⟨ies (endsF l i), 1, .grown⟩]⟩ (by kernel_rfl) ⟨trivial, trivial, trivial, ⟨⟨(by omega), (by omega)⟩, (by (simp [spliceA_length] <;> omega))⟩, (by omega), trivial⟩ ?_
    rw [Int.toNat_natCast (i)]
    rw [Nat.mul_one (i)]
    rw [Nat.add_zero (i)]
    rw [Go.Chu.bss_getD (l) (i) (by omega)]
    refine DerQ.callD (put_ok (lay (List.take i l)) (List.getD l i []) (by omega) (by omega)) ⟨[.sl (bss l) (List.length l) .any, U6, .sl [] 0 .nil, .sl [] 0 .nil, (B6 false), .sl (u8s (lay (List.take i l))) (List.length (lay (List.take i l))) .any, .row 0 0 (i), (I6 (↑i : Int))] ++ UU 5 ++ [(B6 (decide ((↑i : Int) < (↑(List.length l) : Int)))), U6, U6, U6, .sl (u8s (lay (List.take i l))) (List.length (lay (List.take i l))) .any, .sl (bss l) (List.length l) .any, (I6 (↑i : Int)), .dptr [.sl (u8s (List.getD l i [])) (List.length (List.getD l i [])) .any], .sl (u8s (List.getD l i [])) (List.length (List.getD l i [])) .any, .tup [.sl (u8s (lay (List.take i l) ++ recd (List.getD l i []))) (List.length (lay (List.take i l) ++ recd (List.getD l i []))) .any, (I6 0)]] ++ UU 25, [⟨ies (endsF l i), 1, .grown⟩]⟩ ⟨by kernel_rfl, by kernel_rfl, by kernel_rfl⟩ ?_
    rw [Go.Rec.lay_snoc (l) (i) (by omega)]
    refine DerQ.run (TT 5) ⟨[.sl (bss l) (List.length l) .any, U6, .sl [] 0 .nil, .sl [] 0 .nil, (B6 false), .sl (u8s (lay (List.take i l))) (List.length (lay (List.take i l))) .any, .row 0 0 (i), (I6 (↑i : Int)), .sl (u8s (lay (List.take (i + 1) l))) (List.length (lay (List.take (i + 1) l))) .any, (I6 0), U6, U6, U6, (B6 (decide ((↑i : Int) < (↑(List.length l) : Int)))), U6, U6, .tup [.sl (u8s (lay (List.take (i + 1) l))) (List.length (lay (List.take (i + 1) l))) .any, (I6 0)], .sl (u8s (lay (List.take i l))) (List.length (lay (List.take i l))) .any, .sl (bss l) (List.length l) .any, (I6 (↑i : Int)), .dptr [.sl (u8s (List.getD l i [])) (List.length (List.getD l i [])) .any], .sl (u8s (List.getD l i [])) (List.length (List.getD l i [])) .any, .tup [.sl (u8s (lay (List.take (i + 1) l))) (List.length (lay (List.take (i + 1) l))) .any, (I6 0)], .sl (u8s (lay (List.take (i + 1) l))) (List.length (lay (List.take (i + 1) l))) .any, (I6 0)] ++ UU 23, [⟨ies (endsF l i), 1, .grown⟩]⟩ (by kernel_rfl) (tt 5) ?_
    refine AWP.seq (AWP.seq (KL ([13] ++ NN 16 9) ⟨[.sl (bss l) (List.length l) .any, U6, .sl [] 0 .nil, .sl [] 0 .nil, (B6 false), .sl (u8s (lay (List.take i l))) (List.length (lay (List.take i l))) .any, .row 0 0 (i), (I6 (↑i : Int)), .sl (u8s (lay (List.take (i + 1) l))) (List.length (lay (List.take (i + 1) l))) .any, (I6 0)] ++ UU 38, [⟨ies (endsF l i), 1, .grown⟩]⟩ ?_))
    refine AWP.reg ?_
    refine DerQ.pre 11 (True ∧ True ∧ True ∧ True ∧ True ∧ True ∧ True ∧ True ∧ True ∧ (((0 ≤ (↑i : Int)) ∧ ((↑i : Int) < (↑(List.length l) : Int))) ∧ (Int.toNat (↑i : Int) * 1 + 1 ≤ List.length (bss l))) ∧ 0 < 1 ∧ True) ⟨[.sl (bss l) (List.length l) .any, U6, .sl [] 0 .nil, .sl [] 0 .nil, (B6 false), .sl (u8s (lay (List.take i l))) (List.length (lay (List.take i l))) .any, .row 0 0 (i), (I6 (↑i : Int)), .sl (u8s (lay (List.take (i + 1) l))) (List.length (lay (List.take (i + 1) l))) .any, (I6 0)] ++ UU 15 ++ [(I6 0), (B6 false), (B6 false), .sl (u8s (lay (List.take (i + 1) l))) (List.length (lay (List.take (i + 1) l))) .any, (I6 (↑(List.length (lay (List.take (i + 1) l))) : Int)), .sl (u8s (lay (List.take i l))) (List.length (lay (List.take i l))) .any, (I6 (↑(List.length (lay (List.take i l))) : Int)), .sl (bss l) (List.length l) .any, (I6 (↑i : Int)), .dptr [List.getD (bss l) (Int.toNat (↑i : Int) * 1 + 0) AVal.undef], List.getD [List.getD (bss l) (Int.toNat (↑i : Int) * 1 + 0) AVal.undef] 0 AVal.undef] ++ UU 12, [⟨ies (endsF l i), 1, .grown⟩]⟩ (by kernel_rfl) ⟨trivial, trivial, trivial, trivial, trivial, trivial, trivial, trivial, trivial, ⟨⟨(by omega), (by omega)⟩, (by (simp [spliceA_length] <;> omega))⟩, (by omega), trivial⟩ ?_
    rw [Int.toNat_natCast (i)]
    rw [Nat.mul_one (i)]
    rw [Nat.add_zero (i)]
    rw [Go.Chu.bss_getD (l) (i) (by omega)]
    refine DerQ.callD (c_size (List.getD l i []) (by omega)) ⟨[.sl (bss l) (List.length l) .any, U6, .sl [] 0 .nil, .sl [] 0 .nil, (B6 false), .sl (u8s (lay (List.take i l))) (List.length (lay (List.take i l))) .any, .row 0 0 (i), (I6 (↑i : Int)), .sl (u8s (lay (List.take (i + 1) l))) (List.length (lay (List.take (i + 1) l))) .any, (I6 0)] ++ UU 15 ++ [(I6 0), (B6 false), (B6 false), .sl (u8s (lay (List.take (i + 1) l))) (List.length (lay (List.take (i + 1) l))) .any, (I6 (↑(List.length (lay (List.take (i + 1) l))) : Int)), .sl (u8s (lay (List.take i l))) (List.length (lay (List.take i l))) .any, (I6 (↑(List.length (lay (List.take i l))) : Int)), .sl (bss l) (List.length l) .any, (I6 (↑i : Int)), .dptr [.sl (u8s (List.getD l i [])) (List.length (List.getD l i [])) .any], .sl (u8s (List.getD l i [])) (List.length (List.getD l i [])) .any, (I6 ((↑(List.length (List.getD l i [])) : Int) + 8))] ++ UU 11, [⟨ies (endsF l i), 1, .grown⟩]⟩ ⟨by kernel_rfl, by kernel_rfl, by kernel_rfl⟩ ?_
    refine DerQ.run (TT 3) ⟨[.sl (bss l) (List.length l) .any, U6, .sl [] 0 .nil, .sl [] 0 .nil, (B6 false), .sl (u8s (lay (List.take i l))) (List.length (lay (List.take i l))) .any, .row 0 0 (i), (I6 (↑i : Int)), .sl (u8s (lay (List.take (i + 1) l))) (List.length (lay (List.take (i + 1) l))) .any, (I6 0)] ++ UU 15 ++ [(I6 0), (B6 false), (B6 false), .sl (u8s (lay (List.take (i + 1) l))) (List.length (lay (List.take (i + 1) l))) .any, (I6 (↑(List.length (lay (List.take (i + 1) l))) : Int)), .sl (u8s (lay (List.take i l))) (List.length (lay (List.take i l))) .any, (I6 (↑(List.length (lay (List.take i l))) : Int)), .sl (bss l) (List.length l) .any, (I6 (↑i : Int)), .dptr [.sl (u8s (List.getD l i [])) (List.length (List.getD l i [])) .any], .sl (u8s (List.getD l i [])) (List.length (List.getD l i [])) .any, (I6 ((↑(List.length (List.getD l i [])) : Int) + 8)), (I6 (IntKind.wrap IntKind.i64 ((↑(List.length (lay (List.take i l))) : Int) + ((↑(List.length (List.getD l i [])) : Int) + 8)))), (B6 ((↑(List.length (lay (List.take (i + 1) l))) : Int) != IntKind.wrap IntKind.i64 ((↑(List.length (lay (List.take i l))) : Int) + ((↑(List.length (List.getD l i [])) : Int) + 8)))), (B6 ((↑(List.length (lay (List.take (i + 1) l))) : Int) != IntKind.wrap IntKind.i64 ((↑(List.length (lay (List.take i l))) : Int) + ((↑(List.length (List.getD l i [])) : Int) + 8))))] ++ UU 8, [⟨ies (endsF l i), 1, .grown⟩]⟩ (by kernel_rfl) (tt 3) ?_
    rw [IntWalk.i64_in ((↑(List.length (lay (List.take i l))) : Int) + ((↑(List.length (List.getD l i [])) : Int) + 8)) (by omega)]
    refine KL ([9] ++ NN 25 14) ⟨[.sl (bss l) (List.length l) .any, U6, .sl [] 0 .nil, .sl [] 0 .nil, (B6 false), .sl (u8s (lay (List.take i l))) (List.length (lay (List.take i l))) .any, .row 0 0 (i), (I6 (↑i : Int)), .sl (u8s (lay (List.take (i + 1) l))) (List.length (lay (List.take (i + 1) l))) .any] ++ UU 30 ++ [(B6 ((↑(List.length (lay (List.take (i + 1) l))) : Int) != (↑(List.length (lay (List.take i l))) : Int) + ((↑(List.length (List.getD l i [])) : Int) + 8)))] ++ UU 8, [⟨ies (endsF l i), 1, .grown⟩]⟩ ?_
    refine CN ((↑(List.length (lay (List.take (i + 1) l))) : Int) != (↑(List.length (lay (List.take i l))) : Int) + ((↑(List.length (List.getD l i [])) : Int) + 8)) (fun h2 => ?_) (fun h2 => ?_)
    · have h2' := bne_iff_ne.1 h2
      refine SQ ?_
      refine DerQ.run (TT 3) ⟨[.sl (bss l) (List.length l) .any, U6, .sl [] 0 .nil, .sl [] 0 .nil, (B6 false), .sl (u8s (lay (List.take i l))) (List.length (lay (List.take i l))) .any, .row 0 0 (i), (I6 (↑i : Int)), .sl (u8s (lay (List.take (i + 1) l))) (List.length (lay (List.take (i + 1) l))) .any] ++ UU 30 ++ [(B6 ((↑(List.length (lay (List.take (i + 1) l))) : Int) != (↑(List.length (lay (List.take i l))) : Int) + ((↑(List.length (List.getD l i [])) : Int) + 8)))] ++ UU 8, [⟨ies (endsF l i), 1, .grown⟩]⟩ (by kernel_rfl) (tt 3) ?_
      refine AWP.ret ?_
      refine FI (.tup [.sl [] 0 .nil, .sl [] 0 .nil, (B6 false)]) ?_
      refine Shrink.dataK [] (True) (.tup [.sl [] 0 .nil, .sl [] 0 .nil, (B6 false)]) (by kernel_rfl) trivial ?_ rfl
      (exfalso; (have e7 := lay_len_take l (i + 1) (by omega)); (have e8 := flt_stepN l i (by omega)); omega; done)
    · have h2' := bne_eq_false_iff_eq.1 h2
      refine AWP.skip (SQ ?_)
      refine DerQ.run (TT 2) ⟨[.sl (bss l) (List.length l) .any, U6, .sl [] 0 .nil, .sl [] 0 .nil, (B6 false), .sl (u8s (lay (List.take (i + 1) l))) (List.length (lay (List.take (i + 1) l))) .any, .row 0 0 (i), (I6 (↑i : Int)), .sl (u8s (lay (List.take (i + 1) l))) (List.length (lay (List.take (i + 1) l))) .any] ++ UU 30 ++ [(B6 ((↑(List.length (lay (List.take (i + 1) l))) : Int) != (↑(List.length (lay (List.take i l))) : Int) + ((↑(List.length (List.getD l i [])) : Int) + 8))), .sl (u8s (lay (List.take (i + 1) l))) (List.length (lay (List.take (i + 1) l))) .any] ++ UU 7, [⟨ies (endsF l i), 1, .grown⟩]⟩ (by kernel_rfl) (tt 2) ?_
      refine AWP.reg ?_
      refine DerQ.run (True ∧ True ∧ True ∧ True ∧ (((1 : Nat) = (1 : Nat)) ∧ (((1 : Nat) = (1 : Nat)) ∧ ((i * 1 = List.length (ies (endsF l i))) ∧ ((i + 1 ≤ 1073741824) ∧ ((dataAll (ies (endsF l i) ++ [(I6 (↑(List.length (lay (List.take (i + 1) l))) : Int))]) = true) ∧ (∀ (i_1 : Nat), i_1 < 1 → AVal.one (List.getD [(I6 (↑(List.length (lay (List.take (i + 1) l))) : Int))] i_1 AVal.undef) = true)))))) ∧ True ∧ True) ⟨[.sl (bss l) (List.length l) .any, U6, .sl [] 0 .nil, .sl [] 0 .nil, (B6 false), .sl (u8s (lay (List.take (i + 1) l))) (List.length (lay (List.take (i + 1) l))) .any, .row 0 0 (i + 1), (I6 (↑i : Int)), .sl (u8s (lay (List.take (i + 1) l))) (List.length (lay (List.take (i + 1) l))) .any] ++ UU 30 ++ [(B6 ((↑(List.length (lay (List.take (i + 1) l))) : Int) != (↑(List.length (lay (List.take i l))) : Int) + ((↑(List.length (List.getD l i [])) : Int) + 8))), .sl (u8s (lay (List.take (i + 1) l))) (List.length (lay (List.take (i + 1) l))) .any, .row 0 0 (i), .sl (u8s (lay (List.take (i + 1) l))) (List.length (lay (List.take (i + 1) l))) .any, (I6 (↑(List.length (lay (List.take (i + 1) l))) : Int)), .sl [(I6 (↑(List.length (lay (List.take (i + 1) l))) : Int))] 1 .nn, .row 0 0 (i + 1), U6, .undef], [⟨ies (endsF l i) ++ [(I6 (↑(List.length (lay (List.take (i + 1) l))) : Int))], 1, .grown⟩]⟩ (by kernel_rfl) ⟨trivial, trivial, trivial, trivial, ⟨(by omega), ⟨(by omega), ⟨(by (rw [ies_length, endsF_length, Nat.mul_one])), ⟨(by omega), ⟨(by (exact ies_one _ _)), (by (intro j hj; (have e0 : j = 0 := by omega); subst e0; rfl))⟩⟩⟩⟩⟩, trivial, trivial⟩ ?_
      refine KL ([8] ++ NN 39 7) ⟨[.sl (bss l) (List.length l) .any, U6, .sl [] 0 .nil, .sl [] 0 .nil, (B6 false), .sl (u8s (lay (List.take (i + 1) l))) (List.length (lay (List.take (i + 1) l))) .any, .row 0 0 (i + 1), (I6 (↑i : Int))] ++ UU 40, [⟨ies (endsF l i) ++ [(I6 (↑(List.length (lay (List.take (i + 1) l))) : Int))], 1, .grown⟩]⟩ ?_
      refine AWP.reg ?_
      refine DerQ.run (TT 3) ⟨[.sl (bss l) (List.length l) .any, U6, .sl [] 0 .nil, .sl [] 0 .nil, (B6 false), .sl (u8s (lay (List.take (i + 1) l))) (List.length (lay (List.take (i + 1) l))) .any, .row 0 0 (i + 1), (I6 (IntKind.wrap IntKind.i64 ((↑i : Int) + 1)))] ++ UU 6 ++ [(I6 (↑i : Int)), (I6 (IntKind.wrap IntKind.i64 ((↑i : Int) + 1)))] ++ UU 32, [⟨ies (endsF l i) ++ [(I6 (↑(List.length (lay (List.take (i + 1) l))) : Int))], 1, .grown⟩]⟩ (by kernel_rfl) (tt 3) ?_
      rw [IntWalk.i64_in ((↑i : Int) + 1) (by omega)]
      (rw [ies_snoc, endsF_succ]; exact ⟨_, by omega, i + 1, rfl, by omega, by kernel_rfl⟩; done)
  · have h1' := of_decide_eq_false h1
    refine AWP.exit ?_
    refine SQ (RT 5 ?_)
    refine AWP.ret ?_
    refine FI (.tup [.sl (u8s (lay (List.take i l))) (List.length (lay (List.take i l))) .any, .row 0 0 (i), (B6 true)]) ?_
    refine Shrink.dataK [0] ((dataAll (ies (endsF l i)) = true) ∧ (True)) (.tup [.sl (u8s (lay (List.take i l))) (List.length (lay (List.take i l))) .any, .sl (List.take (i * 1) (List.drop 0 (ies (endsF l i)))) (i) .any, (B6 true)]) (by kernel_rfl) ⟨(by (exact ies_data _)), trivial⟩ ?_ rfl
    ((have hi2 : i = l.length := by omega); subst hi2; rw [List.take_of_length_le (Nat.le_refl l.length), List.drop_zero, Nat.mul_one, List.take_of_length_le (by rw [ies_length, endsF_length]; omega)]; rfl; done)
end Go.Rec
