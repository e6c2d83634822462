/- Walks and laws. -/
import Derived.Test.YtikllaiggklljaaNet6
import Derived.Test.YtikllaiggklljaaLibC
set_option maxRecDepth 100000
set_option maxHeartbeats 0
set_option linter.unusedSimpArgs false
set_option linter.unusedVariables false
namespace Go.Net
open Go Go.Abs Go.Proofs
def cntD (a b : List Int) : Nat → Int
  | 0 => 0
  | i + 1 => if a.getD i 0 = b.getD i 0 then cntD a b i else cntD a b i + 1
theorem cntD_rng (a b : List Int) : ∀ i, 0 ≤ cntD a b i ∧ cntD a b i ≤ i
  | 0 => by simp [cntD]
  | i + 1 => by
    have := cntD_rng a b i
    unfold cntD
    split <;> omega
theorem cntD_same (a b : List Int) (i : Nat) (h : a.getD i 0 = b.getD i 0) : cntD a b i = cntD a b (i + 1) := by rw [cntD, if_pos h]
theorem cntD_diff (a b : List Int) (i : Nat) (h : a.getD i 0 ≠ b.getD i 0) : cntD a b i + 1 = cntD a b (i + 1) := by rw [cntD, if_neg h]
def nearP (a b : List Int) : Prop := a.length = b.length ∧ cntD a b a.length ≤ 1
instance (a b : List Int) : Decidable (nearP a b) := by unfold nearP; infer_instance
theorem cntD_eq (a : List Int) : ∀ i, cntD a a i = 0
  | 0 => rfl
  | i + 1 => by rw [cntD, if_pos rfl, cntD_eq a i]
theorem near_refl (a : List Int) : nearP a a := ⟨rfl, by rw [cntD_eq]; omega⟩
theorem cntD_set (a : List Int) (p : Nat) (v : Int) : ∀ i, cntD a (a.set p v) i ≤ 1 ∧ (i ≤ p → cntD a (a.set p v) i = 0)
  | 0 => by simp [cntD]
  | i + 1 => by
    obtain ⟨h1, h2⟩ := cntD_set a p v i
    rw [cntD]
    by_cases hp : i = p
    · subst hp
      have := h2 (by omega)
      split <;> exact ⟨by omega, fun h => by omega⟩
    · rw [if_pos (by simp only [List.getD_eq_getElem?_getD]; rw [List.getElem?_set_ne (by omega)])]
      exact ⟨h1, fun h => h2 (by omega)⟩
theorem near_set (a : List Int) (p : Nat) (v : Int) : nearP a (a.set p v) := ⟨by simp, (cntD_set a p v _).1⟩
theorem near (a b : List Int) (ha : a.length ≤ 1000000) (hb : b.length ≤ 1000000) : EvD Try.prog 38 [.sl (u8s a) a.length .any, .sl (u8s b) b.length .any] (.sc (.bool (decide (nearP a b)))) := by
  refine EvD.body Try.func38 rfl (by simp [dataAll, AVal.data, *]) (by simp [dataAll, AVal.data, *]) ?_
  refine SQ ?_
  refine DerQ.run (True ∧ True) ⟨[.sl (u8s a) (List.length a) .any, .sl (u8s b) (List.length b) .any, U6, U6, (B6 false)] ++ UU 34, []⟩ (by kernel_rfl) ⟨trivial, trivial⟩ ?_
  refine SQ ?_
  refine DerQ.run (True ∧ True) ⟨[.sl (u8s a) (List.length a) .any, .sl (u8s b) (List.length b) .any, U6, U6, (B6 false), (I6 0)] ++ UU 33, []⟩ (by kernel_rfl) ⟨trivial, trivial⟩ ?_
  refine AWP.seq (SQ ?_)
  refine DerQ.run (True ∧ True) ⟨[.sl (u8s a) (List.length a) .any, .sl (u8s b) (List.length b) .any, U6, U6, (B6 false), (I6 0), (I6 0)] ++ UU 32, []⟩ (by kernel_rfl) ⟨trivial, trivial⟩ ?_
  refine AWP.block ?_
  refine AWP.loopM [true, true, false, false, true, true, true, false, false, false, false, false, false, false, false, false, false, false, false, false, false, false, false, false, false, false, false, false, false, false, false, false, false, false, false, false, false, false, false] (fun kk st => ∃ (i : Nat), kk = a.length - i ∧ i ≤ a.length ∧ i ≤ b.length ∧ st = ⟨[.sl (u8s a) (List.length a) .any, .sl (u8s b) (List.length b) .any, U6, U6, (B6 false), (I6 (cntD a b i)), (I6 (i : Int)), U6, U6, U6, U6, U6, U6, U6, U6, U6, U6, U6, U6, U6, U6, U6, U6, U6, U6, U6, U6, U6, U6, U6, U6, U6, U6, U6, U6, U6, U6, U6, .undef], []⟩) _ ⟨0, rfl, by omega, by omega, by kernel_rfl⟩ ?_
  rintro kk s ⟨i, rfl, hi, hib, rfl⟩
  refine AWP.seq (SQ ?_)
  refine DerQ.pre 5 (TT 5) ⟨[.sl (u8s a) (List.length a) .any, .sl (u8s b) (List.length b) .any, U6, U6, (B6 false), (I6 (cntD a b i)), (I6 (↑i : Int)), (I6 (↑i : Int)), .sl (u8s a) (List.length a) .any, (I6 (↑(List.length a) : Int)), (B6 (decide ((↑i : Int) < (↑(List.length a) : Int)))), (B6 (decide ((↑i : Int) < (↑(List.length a) : Int))))] ++ UU 27, []⟩ (by kernel_rfl) (tt 5) ?_
  cases h1 : (decide ((↑i : Int) < (↑(List.length a) : Int)))
  · have h1' := of_decide_eq_false h1
    refine DerQ.run (True ∧ True) ⟨[.sl (u8s a) (List.length a) .any, .sl (u8s b) (List.length b) .any, U6, U6, (B6 false), (I6 (cntD a b i)), (I6 (↑i : Int)), (I6 (↑i : Int)), .sl (u8s a) (List.length a) .any, (I6 (↑(List.length a) : Int)), (B6 false), (B6 false), .tup [], .tup [], .tup [], .tup [], (B6 false)] ++ UU 22, []⟩ (by kernel_rfl) ⟨trivial, trivial⟩ ?_
    refine CN false (fun h => nomatch h) (fun _ => ?_)
    refine AWP.exit ?_
    refine SQ ?_
    refine DerQ.pre 6 (TT 6) ⟨[.sl (u8s a) (List.length a) .any, .sl (u8s b) (List.length b) .any, U6, U6, (B6 false), (I6 (cntD a b i)), (I6 (↑i : Int)), (I6 (↑i : Int)), .sl (u8s a) (List.length a) .any, (I6 (↑(List.length a) : Int)), (B6 false), (B6 false), .tup [], .tup [], .tup [], .tup [], (B6 false)] ++ UU 13 ++ [.sl (u8s a) (List.length a) .any, (I6 (↑(List.length a) : Int)), .sl (u8s b) (List.length b) .any, (I6 (↑(List.length b) : Int)), (B6 ((↑(List.length a) : Int) == (↑(List.length b) : Int))), (B6 ((↑(List.length a) : Int) == (↑(List.length b) : Int))), U6, U6, .undef], []⟩ (by kernel_rfl) (tt 6) ?_
    cases h2 : ((↑(List.length a) : Int) == (↑(List.length b) : Int))
    · have h2' := ne_of_beq_false h2
      refine DerQ.run (TT 2) ⟨[.sl (u8s a) (List.length a) .any, .sl (u8s b) (List.length b) .any, U6, U6, (B6 false), (I6 (cntD a b i)), (I6 (↑i : Int)), (I6 (↑i : Int)), .sl (u8s a) (List.length a) .any, (I6 (↑(List.length a) : Int)), (B6 false), (B6 false), .tup [], .tup [], .tup [], .tup [], (B6 false)] ++ UU 13 ++ [.sl (u8s a) (List.length a) .any, (I6 (↑(List.length a) : Int)), .sl (u8s b) (List.length b) .any, (I6 (↑(List.length b) : Int)), (B6 false), (B6 false), .tup [], .tup [], (B6 false)], []⟩ (by kernel_rfl) (tt 2) ?_
      refine AWP.ret ?_
      refine FI (B6 false) ?_
      refine Shrink.all ?_ rfl
      (exact dec_no (fun h => by have := h.1; omega); done)
    · have h2' := eq_of_beq h2
      refine DerQ.run (TT 4) ⟨[.sl (u8s a) (List.length a) .any, .sl (u8s b) (List.length b) .any, U6, U6, (B6 (decide (cntD a b i ≤ 1))), (I6 (cntD a b i)), (I6 (↑i : Int)), (I6 (↑i : Int)), .sl (u8s a) (List.length a) .any, (I6 (↑(List.length a) : Int)), (B6 false), (B6 false), .tup [], .tup [], .tup [], .tup [], (B6 false)] ++ UU 13 ++ [.sl (u8s a) (List.length a) .any, (I6 (↑(List.length a) : Int)), .sl (u8s b) (List.length b) .any, (I6 (↑(List.length b) : Int)), (B6 true), (B6 true), (I6 (cntD a b i)), (B6 (decide (cntD a b i ≤ 1))), (B6 (decide (cntD a b i ≤ 1)))], []⟩ (by kernel_rfl) (tt 4) ?_
      refine AWP.ret ?_
      refine FI (B6 (decide (cntD a b i ≤ 1))) ?_
      refine Shrink.all ?_ rfl
      ((rw [show i = a.length by omega]; exact (congrArg (fun x => AVal.sc (.bool x)) (decide_eq_decide.2 ⟨fun h1 => ⟨by omega, h1⟩, fun h1 => h1.2⟩))); done)
  · have h1' := of_decide_eq_true h1
    refine DerQ.run (TT 5) ⟨[.sl (u8s a) (List.length a) .any, .sl (u8s b) (List.length b) .any, U6, U6, (B6 false), (I6 (cntD a b i)), (I6 (↑i : Int)), (I6 (↑i : Int)), .sl (u8s a) (List.length a) .any, (I6 (↑(List.length a) : Int)), (B6 true), (B6 true), (I6 (↑i : Int)), .sl (u8s b) (List.length b) .any, (I6 (↑(List.length b) : Int)), (B6 (decide ((↑i : Int) < (↑(List.length b) : Int)))), (B6 (decide ((↑i : Int) < (↑(List.length b) : Int))))] ++ UU 22, []⟩ (by kernel_rfl) (tt 5) ?_
    refine CN (decide ((↑i : Int) < (↑(List.length b) : Int))) (fun h2 => ?_) (fun h2 => ?_)
    · have h2' := of_decide_eq_true h2
      refine AWP.skip (AWP.seq (AWP.block (AWP.seq ?_)))
      refine AWP.drawX mixed (fun _ => false) (by kernel_rfl) ?_
      refine DerX.pre 8 ((True) ∧ ((True) ∧ ((((0 ≤ (↑i : Int)) ∧ ((↑i : Int) < (↑(List.length a) : Int))) ∧ (Int.toNat (↑i : Int) * 1 + 1 ≤ List.length (u8s a))) ∧ (((0 : Nat) < (1 : Nat)) ∧ ((True) ∧ ((True) ∧ ((((0 ≤ (↑i : Int)) ∧ ((↑i : Int) < (↑(List.length b) : Int))) ∧ (Int.toNat (↑i : Int) * 1 + 1 ≤ List.length (u8s b))) ∧ (((0 : Nat) < (1 : Nat)) ∧ (True))))))))) [.sl (u8s a) (List.length a) .any, (I6 (↑i : Int)), .dptr [List.getD (u8s a) (Int.toNat (↑i : Int) * 1 + 0) AVal.undef], List.getD [List.getD (u8s a) (Int.toNat (↑i : Int) * 1 + 0) AVal.undef] 0 U6, .sl (u8s b) (List.length b) .any, (I6 (↑i : Int)), .dptr [List.getD (u8s b) (Int.toNat (↑i : Int) * 1 + 0) AVal.undef], List.getD [List.getD (u8s b) (Int.toNat (↑i : Int) * 1 + 0) AVal.undef] 0 AVal.undef] ⟨[.sl (u8s a) (List.length a) .any, .sl (u8s b) (List.length b) .any, U6, U6, (B6 false), (I6 (cntD a b i)), (I6 (↑i : Int)), (I6 (↑i : Int)), .sl (u8s a) (List.length a) .any, (I6 (↑(List.length a) : Int)), (B6 true), (B6 true), (I6 (↑i : Int)), .sl (u8s b) (List.length b) .any, (I6 (↑(List.length b) : Int)), (B6 (decide ((↑i : Int) < (↑(List.length b) : Int)))), (B6 (decide ((↑i : Int) < (↑(List.length b) : Int)))), U6, U6, .sl (u8s a) (List.length a) .any, (I6 (↑i : Int)), .dptr [List.getD (u8s a) (Int.toNat (↑i : Int) * 1 + 0) AVal.undef], List.getD (u8s a) (Int.toNat (↑i : Int) * 1 + 0) U6, .sl (u8s b) (List.length b) .any, (I6 (↑i : Int)), .dptr [List.getD (u8s b) (Int.toNat (↑i : Int) * 1 + 0) AVal.undef], List.getD (u8s b) (Int.toNat (↑i : Int) * 1 + 0) AVal.undef] ++ UU 12, []⟩ (by intro ext; kernel_rfl) (by kernel_rfl) ⟨trivial, ⟨trivial, ⟨⟨⟨(by omega), (by omega)⟩, (by (simp [spliceA_length] <;> omega))⟩, ⟨(by omega), ⟨trivial, ⟨trivial, ⟨⟨⟨(by omega), (by omega)⟩, (by (simp [spliceA_length] <;> omega))⟩, ⟨(by omega), trivial⟩⟩⟩⟩⟩⟩⟩⟩ ?_
      rw [Int.toNat_natCast (i)]
      rw [Nat.mul_one (i)]
      rw [Nat.add_zero (i)]
      rw [Go.Abs.u8s_getD (a) (i) (by omega)]
      rw [Go.Abs.u8s_getD (b) (i) (by omega)]
      refine DerX.quiet (True) (B6 (List.getD a i 0 != List.getD b i 0)) ⟨[.sl (u8s a) (List.length a) .any, .sl (u8s b) (List.length b) .any, U6, U6, (B6 false), (I6 (cntD a b i)), (I6 (↑i : Int)), (I6 (↑i : Int)), .sl (u8s a) (List.length a) .any, (I6 (↑(List.length a) : Int)), (B6 true), (B6 true), (I6 (↑i : Int)), .sl (u8s b) (List.length b) .any, (I6 (↑(List.length b) : Int)), (B6 (decide ((↑i : Int) < (↑(List.length b) : Int)))), (B6 (decide ((↑i : Int) < (↑(List.length b) : Int)))), U6, U6, .sl (u8s a) (List.length a) .any, (I6 (↑i : Int)), .dptr [.sc (.int .u8 (List.getD a i 0))], .sc (.int .u8 (List.getD a i 0)), .sl (u8s b) (List.length b) .any, (I6 (↑i : Int)), .dptr [.sc (.int .u8 (List.getD b i 0))], .sc (.int .u8 (List.getD b i 0)), (B6 (List.getD a i 0 != List.getD b i 0))] ++ UU 11, []⟩ (by intro ext; kernel_rfl) ⟨by kernel_rfl, by kernel_rfl⟩ trivial ?_
      refine DerX.nil ?_
      refine CN (List.getD a i 0 != List.getD b i 0) (fun h3 => ?_) (fun h3 => ?_)
      · have h3' := bne_iff_ne.1 h3
        refine AWP.reg ?_
        refine DerQ.run (TT 3) ⟨[.sl (u8s a) (List.length a) .any, .sl (u8s b) (List.length b) .any, U6, U6, (B6 false), (I6 (IntKind.wrap IntKind.i64 (cntD a b i + 1))), (I6 (↑i : Int)), (I6 (↑i : Int)), .sl (u8s a) (List.length a) .any, (I6 (↑(List.length a) : Int)), (B6 true), (B6 true), (I6 (↑i : Int)), .sl (u8s b) (List.length b) .any, (I6 (↑(List.length b) : Int)), (B6 (decide ((↑i : Int) < (↑(List.length b) : Int)))), (B6 (decide ((↑i : Int) < (↑(List.length b) : Int)))), U6, U6, .sl (u8s a) (List.length a) .any, (I6 (↑i : Int)), .dptr [.sc (.int .u8 (List.getD a i 0))], .sc (.int .u8 (List.getD a i 0)), .sl (u8s b) (List.length b) .any, (I6 (↑i : Int)), .dptr [.sc (.int .u8 (List.getD b i 0))], .sc (.int .u8 (List.getD b i 0)), (B6 (List.getD a i 0 != List.getD b i 0)), (I6 (cntD a b i)), (I6 (IntKind.wrap IntKind.i64 (cntD a b i + 1)))] ++ UU 9, []⟩ (by kernel_rfl) (tt 3) ?_
        refine AWP.reg ?_
        refine DerQ.run (TT 3) ⟨[.sl (u8s a) (List.length a) .any, .sl (u8s b) (List.length b) .any, U6, U6, (B6 false), (I6 (IntKind.wrap IntKind.i64 (cntD a b i + 1))), (I6 (IntKind.wrap IntKind.i64 ((↑i : Int) + 1))), (I6 (↑i : Int)), .sl (u8s a) (List.length a) .any, (I6 (↑(List.length a) : Int)), (B6 true), (B6 true), (I6 (↑i : Int)), .sl (u8s b) (List.length b) .any, (I6 (↑(List.length b) : Int)), (B6 (decide ((↑i : Int) < (↑(List.length b) : Int)))), (B6 (decide ((↑i : Int) < (↑(List.length b) : Int)))), (I6 (↑i : Int)), (I6 (IntKind.wrap IntKind.i64 ((↑i : Int) + 1))), .sl (u8s a) (List.length a) .any, (I6 (↑i : Int)), .dptr [.sc (.int .u8 (List.getD a i 0))], .sc (.int .u8 (List.getD a i 0)), .sl (u8s b) (List.length b) .any, (I6 (↑i : Int)), .dptr [.sc (.int .u8 (List.getD b i 0))], .sc (.int .u8 (List.getD b i 0)), (B6 (List.getD a i 0 != List.getD b i 0)), (I6 (cntD a b i)), (I6 (IntKind.wrap IntKind.i64 (cntD a b i + 1)))] ++ UU 9, []⟩ (by kernel_rfl) (tt 3) ?_
        rw [IntWalk.i64_in ((↑i : Int) + 1) (by omega)]
        (exact ⟨_, by omega, i + 1, rfl, by omega, by omega, by rw [IntWalk.i64_in (cntD a b i + 1) (by have := cntD_rng a b i; omega), cntD_diff a b i (by assumption)]; kernel_rfl⟩; done)
      · have h3' := bne_eq_false_iff_eq.1 h3
        refine AWP.skip (AWP.reg ?_)
        refine DerQ.run (TT 3) ⟨[.sl (u8s a) (List.length a) .any, .sl (u8s b) (List.length b) .any, U6, U6, (B6 false), (I6 (cntD a b i)), (I6 (IntKind.wrap IntKind.i64 ((↑i : Int) + 1))), (I6 (↑i : Int)), .sl (u8s a) (List.length a) .any, (I6 (↑(List.length a) : Int)), (B6 true), (B6 true), (I6 (↑i : Int)), .sl (u8s b) (List.length b) .any, (I6 (↑(List.length b) : Int)), (B6 (decide ((↑i : Int) < (↑(List.length b) : Int)))), (B6 (decide ((↑i : Int) < (↑(List.length b) : Int)))), (I6 (↑i : Int)), (I6 (IntKind.wrap IntKind.i64 ((↑i : Int) + 1))), .sl (u8s a) (List.length a) .any, (I6 (↑i : Int)), .dptr [.sc (.int .u8 (List.getD a i 0))], .sc (.int .u8 (List.getD a i 0)), .sl (u8s b) (List.length b) .any, (I6 (↑i : Int)), .dptr [.sc (.int .u8 (List.getD b i 0))], .sc (.int .u8 (List.getD b i 0)), (B6 (List.getD a i 0 != List.getD b i 0))] ++ UU 11, []⟩ (by kernel_rfl) (tt 3) ?_
        rw [IntWalk.i64_in ((↑i : Int) + 1) (by omega)]
        (exact ⟨_, by omega, i + 1, rfl, by omega, by omega, by rw [cntD_same a b i (by assumption)]; kernel_rfl⟩; done)
    · have h2' := of_decide_eq_false h2
      refine AWP.exit ?_
      refine SQ ?_
      refine DerQ.pre 6 (TT 6) ⟨[.sl (u8s a) (List.length a) .any, .sl (u8s b) (List.length b) .any, U6, U6, (B6 false), (I6 (cntD a b i)), (I6 (↑i : Int)), (I6 (↑i : Int)), .sl (u8s a) (List.length a) .any, (I6 (↑(List.length a) : Int)), (B6 true), (B6 true), (I6 (↑i : Int)), .sl (u8s b) (List.length b) .any, (I6 (↑(List.length b) : Int)), (B6 (decide ((↑i : Int) < (↑(List.length b) : Int)))), (B6 (decide ((↑i : Int) < (↑(List.length b) : Int))))] ++ UU 13 ++ [.sl (u8s a) (List.length a) .any, (I6 (↑(List.length a) : Int)), .sl (u8s b) (List.length b) .any, (I6 (↑(List.length b) : Int)), (B6 ((↑(List.length a) : Int) == (↑(List.length b) : Int))), (B6 ((↑(List.length a) : Int) == (↑(List.length b) : Int))), U6, U6, .undef], []⟩ (by kernel_rfl) (tt 6) ?_
      cases h3 : ((↑(List.length a) : Int) == (↑(List.length b) : Int))
      · have h3' := ne_of_beq_false h3
        refine DerQ.run (TT 2) ⟨[.sl (u8s a) (List.length a) .any, .sl (u8s b) (List.length b) .any, U6, U6, (B6 false), (I6 (cntD a b i)), (I6 (↑i : Int)), (I6 (↑i : Int)), .sl (u8s a) (List.length a) .any, (I6 (↑(List.length a) : Int)), (B6 true), (B6 true), (I6 (↑i : Int)), .sl (u8s b) (List.length b) .any, (I6 (↑(List.length b) : Int)), (B6 (decide ((↑i : Int) < (↑(List.length b) : Int)))), (B6 (decide ((↑i : Int) < (↑(List.length b) : Int))))] ++ UU 13 ++ [.sl (u8s a) (List.length a) .any, (I6 (↑(List.length a) : Int)), .sl (u8s b) (List.length b) .any, (I6 (↑(List.length b) : Int)), (B6 false), (B6 false), .tup [], .tup [], (B6 false)], []⟩ (by kernel_rfl) (tt 2) ?_
        refine AWP.ret ?_
        refine FI (B6 false) ?_
        refine Shrink.all ?_ rfl
        (exact dec_no (fun h => by have := h.1; omega); done)
      · have h3' := eq_of_beq h3
        exfalso; omega
end Go.Net
