/- Walks and laws. -/
import Derived.Test.YtikllaiggklljaaRc9
import Derived.Test.YtikllaiggklljaaLibB
set_option maxRecDepth 100000
set_option maxHeartbeats 0
set_option linter.unusedSimpArgs false
set_option linter.unusedVariables false
namespace Go.Rec
open Go Go.Abs Go.Proofs Go.Crc Go.Chu
theorem endsF_getD (l : List (List Int)) (n i : Nat) (h : i < n) : (endsF l n).getD i 0 = (lay (l.take (i + 1))).length := by
  simp [endsF, List.getD_eq_getElem?_getD, h]
theorem ends_get (l : List (List Int)) (n i : Nat) (h : i < n) : List.getD (ies (endsF l n)) i .undef = .sc (.int .i64 ((lay (l.take (i + 1))).length : Int)) := by
  rw [ies_getD _ _ (by rw [endsF_length]; exact h), endsF_getD l n i h]
def cutp (a : Int) (n : Nat) : Nat := (Int.tmod a ((n : Int) + 1)).toNat
theorem cutw (a : Int) (n : Nat) (h : 0 ≤ a) : Int.tmod a ((n : Int) + 1) = (cutp a n : Int) := by
  have := Int.tmod_nonneg ((n : Int) + 1) h
  unfold cutp; omega
theorem cutp_le (a : Int) (n : Nat) (h : 0 ≤ a) : cutp a n ≤ n := by
  have h1 := Int.tmod_lt_of_pos a (show (0 : Int) < (n : Int) + 1 by omega)
  have := Int.tmod_nonneg ((n : Int) + 1) h
  unfold cutp; omega
theorem min_w (i w : Nat) (h : w ≤ i) : min i w = w := Nat.min_eq_right h
theorem lay_mono (l : List (List Int)) (i : Nat) (h : i < l.length) : (lay (l.take i)).length < (lay (l.take (i + 1))).length := by
  rw [← lay_snoc l i h, List.length_append, recd_len]; omega
theorem lay_mono2 (l : List (List Int)) : ∀ (d i : Nat), i + d ≤ l.length → (lay (l.take i)).length ≤ (lay (l.take (i + d))).length
  | 0, i, h => Nat.le_refl _
  | d + 1, i, h => Nat.le_trans (lay_mono2 l d i (by omega)) (Nat.le_of_lt (lay_mono l (i + d) (by omega)))
/-- How many are whole. -/
theorem whole (l : List (List Int)) (c : Nat) : ∃ w, w ≤ l.length ∧ (lay (l.take w)).length ≤ c ∧ ∀ i, i < l.length → ((lay (l.take (i + 1))).length ≤ c ↔ i + 1 ≤ w) := by
  have key : ∀ n, n ≤ l.length → ∃ w, w ≤ n ∧ (lay (l.take w)).length ≤ c ∧ ∀ i, i < n → ((lay (l.take (i + 1))).length ≤ c ↔ i + 1 ≤ w) := by
    intro n
    induction n with
    | zero => exact fun _ => ⟨0, by omega, by simp [lay], fun i hi => absurd hi (by omega)⟩
    | succ n ih =>
      intro hn
      obtain ⟨w, h1, h2, h3⟩ := ih (by omega)
      by_cases hc : (lay (l.take (n + 1))).length ≤ c
      · refine ⟨n + 1, by omega, hc, fun i hi => ⟨fun _ => by omega, fun _ => ?_⟩⟩
        have := lay_mono2 l (n - i) (i + 1) (by omega)
        rw [show i + 1 + (n - i) = n + 1 by omega] at this
        omega
      · refine ⟨w, by omega, h2, fun i hi => ?_⟩
        by_cases e : i = n
        · subst e; exact ⟨fun h => absurd h hc, fun h => by omega⟩
        · exact h3 i (by omega)
  exact key l.length (Nat.le_refl _)
theorem few_up {l : List (List Int)} (hf : fewP l) (i : Nat) : (lay (l.take i)).length ≤ 6320 := by
  have h1 := hf.1
  have h2 := hf.2
  rcases Nat.le_total i l.length with h | h
  · have := lay_len_take l i h
    have := flt_le l i
    omega
  · rw [List.take_of_length_le h, lay_len]; omega
theorem recordCuts (l : List (List Int)) (a : Int) (hl : ∀ x ∈ l, Bts x) (ha : -9223372036854775808 ≤ a ∧ a ≤ 9223372036854775807) : EvD Try.prog 5 [.sl (bss l) l.length .any, .sc (.int .i64 a)] (.sc (.bool true)) := by
  by_cases hf : fewP l
  · have fw := few_yes hf
    by_cases hg : 0 ≤ a
    · have d1 := c_laid l hf
      have hll := lay_len l
      have hf1 := hf.1
      have hf2 := hf.2
      have hB : Bts (lay l) := lay_bts hl
      have hcl := cutp_le a (lay l).length hg
      have hcw := cutw a (lay l).length hg
      have hup := few_up hf
      obtain ⟨w, hw, h0, hi⟩ := whole l (cutp a (lay l).length)
      obtain ⟨e1, e2⟩ := cut_fnd l hf (cutp a (lay l).length) w hw (fun h => by have := hi w h; omega) h0 hcl
      have s1 := c_found ((lay l).take (cutp a (lay l).length)) (by rw [List.length_take]; omega) (hB.take _)
      rw [e1, e2, List.length_take, Nat.min_eq_left hcl, List.length_take, Nat.min_eq_left hw] at s1
      have ls := l_same (l.take w) (by rw [List.length_take]; omega) (fun x hx => hl x (List.mem_of_mem_take hx))
      rw [List.length_take, Nat.min_eq_left hw] at ls
      have huw := hup w
      refine EvD.body Try.func5 rfl rfl rfl ?_
      refine AWP.seq ?_
      refine TO ⟨[.sl (bss l) (List.length l) .any, (I6 a)] ++ UU 71, []⟩ ?_
      refine AWP.reg (RT 1 ?_)
      refine AWP.seq (AWP.seq ?_)
      refine TO ⟨[.sl (bss l) (List.length l) .any, (I6 a), U6, U6, (B6 false)] ++ UU 68, []⟩ ?_
      refine AWP.reg (PT 1 1 ?_)
      refine CD (fw) ?_
      refine RT 5 ?_
      refine KL (NN 14 6) ⟨[.sl (bss l) (List.length l) .any, (I6 a), U6, U6, (B6 false)] ++ UU 15 ++ [(B6 (decide (a < 0)))] ++ UU 52, []⟩ ?_
      refine CN (decide (a < 0)) (fun h1 => ?_) (fun h1 => ?_)
      · have h1' := of_decide_eq_true h1
        exfalso; omega
      · have h1' := of_decide_eq_false h1
        refine AWP.skip (SQ (PT 1 1 ?_))
        refine CD (d1) ?_
        refine RT 7 ?_
        refine AWP.seq (AWP.seq (KL ([20] ++ NN 22 6) ⟨[.sl (bss l) (List.length l) .any, (I6 a), U6, U6, (B6 false), .sl (u8s (lay l)) (List.length (lay l)) .any, .sl (ies (endsF l (List.length l))) (List.length l) .any, (B6 true)] ++ UU 65, []⟩ ?_))
        refine AWP.reg (RT 2 ?_)
        refine KL [7, 28] ⟨[.sl (bss l) (List.length l) .any, (I6 a), U6, U6, (B6 false), .sl (u8s (lay l)) (List.length (lay l)) .any, .sl (ies (endsF l (List.length l))) (List.length l) .any] ++ UU 22 ++ [(B6 false)] ++ UU 43, []⟩ ?_
        refine CN false (fun h => nomatch h) (fun _ => ?_)
        refine AWP.skip (SQ ?_)
        refine DerQ.run (True ∧ True ∧ True ∧ True ∧ (IntKind.wrap IntKind.i64 ((↑(List.length (lay l)) : Int) + 1) ≠ 0) ∧ True ∧ True) ⟨[.sl (bss l) (List.length l) .any, (I6 a), U6, U6, (B6 false), .sl (u8s (lay l)) (List.length (lay l)) .any, .sl (ies (endsF l (List.length l))) (List.length l) .any, U6, (I6 (Int.tmod a (IntKind.wrap IntKind.i64 ((↑(List.length (lay l)) : Int) + 1))))] ++ UU 20 ++ [(B6 false), (I6 a), .sl (u8s (lay l)) (List.length (lay l)) .any, (I6 (↑(List.length (lay l)) : Int)), (I6 (IntKind.wrap IntKind.i64 ((↑(List.length (lay l)) : Int) + 1))), (I6 (Int.tmod a (IntKind.wrap IntKind.i64 ((↑(List.length (lay l)) : Int) + 1))))] ++ UU 38, []⟩ (by kernel_rfl) ⟨trivial, trivial, trivial, trivial, (by (rw [IntWalk.i64_in _ (by omega)]; omega)), trivial, trivial⟩ ?_
        rw [IntWalk.i64_in ((↑(List.length (lay l)) : Int) + 1) (by omega)]
        rw [Go.Rec.cutw (a) (List.length (lay l)) (by omega)]
        refine AWP.seq (KL ([1] ++ NN 29 6) ⟨[.sl (bss l) (List.length l) .any, U6, U6, U6, (B6 false), .sl (u8s (lay l)) (List.length (lay l)) .any, .sl (ies (endsF l (List.length l))) (List.length l) .any, U6, (I6 (↑(cutp a (List.length (lay l))) : Int))] ++ UU 64, []⟩ ?_)
        refine AWP.reg (RT 2 ?_)
        refine AWP.seq (AWP.seq ?_)
        refine TO ⟨[.sl (bss l) (List.length l) .any, U6, U6, U6, (B6 false), .sl (u8s (lay l)) (List.length (lay l)) .any, .sl (ies (endsF l (List.length l))) (List.length l) .any, U6, (I6 (↑(cutp a (List.length (lay l))) : Int)), (I6 0), (I6 0)] ++ UU 62, []⟩ ?_
        refine AWP.reg (RT 1 ?_)
        refine AWP.block ?_
        refine TO ⟨[.sl (bss l) (List.length l) .any, U6, U6, U6, (B6 false), .sl (u8s (lay l)) (List.length (lay l)) .any, .sl (ies (endsF l (List.length l))) (List.length l) .any, U6, (I6 (↑(cutp a (List.length (lay l))) : Int)), (I6 0), (I6 0), (I6 0)] ++ UU 61, []⟩ ?_
        refine AWP.loopM [true, false, false, false, true, true, true, false, true, true, true, true, false, false, false, false, false, false, false, false, false, false, false, false, false, false, false, false, false, false, false, false, false, false, false, false, false, false, false, false, false, false, false, false, false, false, false, false, false, false, false, false, false, false, false, false, false, false, false, false, false, false, false, false, false, false, false, false, false, false, false, false, false] (fun kk st => ∃ (i : Nat), kk = l.length - i ∧ i ≤ l.length ∧ st = ⟨[.sl (bss l) (List.length l) .any, U6, U6, U6, (B6 false), .sl (u8s (lay l)) (List.length (lay l)) .any, .sl (ies (endsF l (List.length l))) (List.length l) .any, U6, (I6 (↑(cutp a (List.length (lay l))) : Int)), (I6 ((min i w : Nat) : Int)), (I6 ((lay (l.take (min i w))).length : Int)), (I6 (i : Int)), U6, U6, U6, U6, U6, U6, U6, U6, U6, U6, U6, U6, U6, U6, U6, U6, U6, U6, U6, U6, U6, U6, U6, U6, U6, U6, U6, U6, U6, U6, U6, U6, U6, U6, U6, U6, U6, U6, U6, U6, U6, U6, U6, U6, U6, U6, U6, U6, U6, U6, U6, U6, U6, U6, U6, U6, U6, U6, U6, U6, .undef], []⟩) _ ⟨0, rfl, by omega, by kernel_rfl⟩ ?_
        rintro kk s ⟨i, rfl, hi2, rfl⟩
        have hu1 := hup (i + 1)
        refine AWP.seq (SQ ?_)
        refine DerQ.run (TT 4) ⟨[.sl (bss l) (List.length l) .any, U6, U6, U6, (B6 false), .sl (u8s (lay l)) (List.length (lay l)) .any, .sl (ies (endsF l (List.length l))) (List.length l) .any, U6, (I6 (↑(cutp a (List.length (lay l))) : Int)), (I6 (↑(min i w) : Int)), (I6 (↑(List.length (lay (List.take (min i w) l))) : Int)), (I6 (↑i : Int))] ++ UU 23 ++ [(I6 (↑i : Int)), .sl (ies (endsF l (List.length l))) (List.length l) .any, (I6 (↑(List.length l) : Int)), (B6 (decide ((↑i : Int) < (↑(List.length l) : Int))))] ++ UU 34, []⟩ (by kernel_rfl) (tt 4) ?_
        refine CN (decide ((↑i : Int) < (↑(List.length l) : Int))) (fun h2 => ?_) (fun h2 => ?_)
        · have h2' := of_decide_eq_true h2
          refine KL [35, 36, 37, 38] ⟨[.sl (bss l) (List.length l) .any, U6, U6, U6, (B6 false), .sl (u8s (lay l)) (List.length (lay l)) .any, .sl (ies (endsF l (List.length l))) (List.length l) .any, U6, (I6 (↑(cutp a (List.length (lay l))) : Int)), (I6 (↑(min i w) : Int)), (I6 (↑(List.length (lay (List.take (min i w) l))) : Int)), (I6 (↑i : Int))] ++ UU 61, []⟩ ?_
          refine AWP.skip (AWP.seq (AWP.block (SQ ?_)))
          refine DerQ.pre 5 (True ∧ True ∧ (((0 ≤ (↑i : Int)) ∧ ((↑i : Int) < (↑(List.length l) : Int))) ∧ (Int.toNat (↑i : Int) * 1 + 1 ≤ List.length (ies (endsF l (List.length l))))) ∧ 0 < 1 ∧ True ∧ True) ⟨[.sl (bss l) (List.length l) .any, U6, U6, U6, (B6 false), .sl (u8s (lay l)) (List.length (lay l)) .any, .sl (ies (endsF l (List.length l))) (List.length l) .any, U6, (I6 (↑(cutp a (List.length (lay l))) : Int)), (I6 (↑(min i w) : Int)), (I6 (↑(List.length (lay (List.take (min i w) l))) : Int)), (I6 (↑i : Int))] ++ UU 29 ++ [.sl (ies (endsF l (List.length l))) (List.length l) .any, (I6 (↑i : Int)), .dptr [List.getD (ies (endsF l (List.length l))) (Int.toNat (↑i : Int) * 1 + 0) AVal.undef], List.getD (ies (endsF l (List.length l))) (Int.toNat (↑i : Int) * 1 + 0) U6, (I6 (↑(cutp a (List.length (lay l))) : Int))] ++ UU 27, []⟩ (by kernel_rfl) ⟨trivial, trivial, ⟨⟨(by omega), (by omega)⟩, (by (rw [ies_length, endsF_length]; omega))⟩, (by omega), trivial, trivial⟩ ?_
          rw [Int.toNat_natCast (i)]
          rw [Nat.mul_one (i)]
          rw [Nat.add_zero (i)]
          rw [Go.Rec.ends_get (l) (List.length l) (i) (by omega)]
          refine DerQ.run (True ∧ True) ⟨[.sl (bss l) (List.length l) .any, U6, U6, U6, (B6 false), .sl (u8s (lay l)) (List.length (lay l)) .any, .sl (ies (endsF l (List.length l))) (List.length l) .any, U6, (I6 (↑(cutp a (List.length (lay l))) : Int)), (I6 (↑(min i w) : Int)), (I6 (↑(List.length (lay (List.take (min i w) l))) : Int)), (I6 (↑i : Int))] ++ UU 29 ++ [.sl (ies (endsF l (List.length l))) (List.length l) .any, (I6 (↑i : Int)), .dptr [(I6 (↑(List.length (lay (List.take (i + 1) l))) : Int))], (I6 (↑(List.length (lay (List.take (i + 1) l))) : Int)), (I6 (↑(cutp a (List.length (lay l))) : Int)), (B6 (decide ((↑(List.length (lay (List.take (i + 1) l))) : Int) ≤ (↑(cutp a (List.length (lay l))) : Int))))] ++ UU 26, []⟩ (by kernel_rfl) ⟨trivial, trivial⟩ ?_
          refine KL (NN 41 5) ⟨[.sl (bss l) (List.length l) .any, U6, U6, U6, (B6 false), .sl (u8s (lay l)) (List.length (lay l)) .any, .sl (ies (endsF l (List.length l))) (List.length l) .any, U6, (I6 (↑(cutp a (List.length (lay l))) : Int)), (I6 (↑(min i w) : Int)), (I6 (↑(List.length (lay (List.take (min i w) l))) : Int)), (I6 (↑i : Int))] ++ UU 34 ++ [(B6 (decide ((↑(List.length (lay (List.take (i + 1) l))) : Int) ≤ (↑(cutp a (List.length (lay l))) : Int))))] ++ UU 26, []⟩ ?_
          refine CN (decide ((↑(List.length (lay (List.take (i + 1) l))) : Int) ≤ (↑(cutp a (List.length (lay l))) : Int))) (fun h3 => ?_) (fun h3 => ?_)
          · have h3' := of_decide_eq_true h3
            refine AWP.drawX mixed (fun _ => false) (by kernel_rfl) ?_
            refine DerX.pre 8 ((True) ∧ ((True) ∧ ((True) ∧ ((True) ∧ ((((0 ≤ (↑i : Int)) ∧ ((↑i : Int) < (↑(List.length l) : Int))) ∧ (Int.toNat (↑i : Int) * 1 + 1 ≤ List.length (ies (endsF l (List.length l))))) ∧ (((0 : Nat) < (1 : Nat)) ∧ ((True) ∧ ((True) ∧ (True))))))))) [(I6 (↑i : Int)), (I6 (IntKind.wrap IntKind.i64 ((↑i : Int) + 1))), .sl (ies (endsF l (List.length l))) (List.length l) .any, (I6 (↑i : Int)), .dptr [List.getD (ies (endsF l (List.length l))) (Int.toNat (↑i : Int) * 1 + 0) AVal.undef], List.getD [List.getD (ies (endsF l (List.length l))) (Int.toNat (↑i : Int) * 1 + 0) AVal.undef] 0 U6, (I6 (IntKind.wrap IntKind.i64 ((↑i : Int) + 1))), List.getD (ies (endsF l (List.length l))) (Int.toNat (↑i : Int) * 1 + 0) AVal.undef] ⟨[.sl (bss l) (List.length l) .any, U6, U6, U6, (B6 false), .sl (u8s (lay l)) (List.length (lay l)) .any, .sl (ies (endsF l (List.length l))) (List.length l) .any, U6, (I6 (↑(cutp a (List.length (lay l))) : Int)), (I6 (IntKind.wrap IntKind.i64 ((↑i : Int) + 1))), List.getD (ies (endsF l (List.length l))) (Int.toNat (↑i : Int) * 1 + 0) U6, (I6 (↑i : Int))] ++ UU 34 ++ [(B6 (decide ((↑(List.length (lay (List.take (i + 1) l))) : Int) ≤ (↑(cutp a (List.length (lay l))) : Int)))), (I6 (↑i : Int)), (I6 (IntKind.wrap IntKind.i64 ((↑i : Int) + 1))), .sl (ies (endsF l (List.length l))) (List.length l) .any, (I6 (↑i : Int)), .dptr [List.getD (ies (endsF l (List.length l))) (Int.toNat (↑i : Int) * 1 + 0) AVal.undef], List.getD (ies (endsF l (List.length l))) (Int.toNat (↑i : Int) * 1 + 0) AVal.undef] ++ UU 20, []⟩ (by intro ext; kernel_rfl) (by kernel_rfl) ⟨trivial, ⟨trivial, ⟨trivial, ⟨trivial, ⟨⟨⟨(by omega), (by omega)⟩, (by (rw [ies_length, endsF_length]; omega))⟩, ⟨(by omega), ⟨trivial, ⟨trivial, trivial⟩⟩⟩⟩⟩⟩⟩⟩ ?_
            rw [IntWalk.i64_in ((↑i : Int) + 1) (by omega)]
            rw [Int.toNat_natCast (i)]
            rw [Nat.mul_one (i)]
            rw [Nat.add_zero (i)]
            rw [Go.Rec.ends_get (l) (List.length l) (i) (by omega)]
            refine DerX.nil ?_
            refine KL (NN 46 7) ⟨[.sl (bss l) (List.length l) .any, U6, U6, U6, (B6 false), .sl (u8s (lay l)) (List.length (lay l)) .any, .sl (ies (endsF l (List.length l))) (List.length l) .any, U6, (I6 (↑(cutp a (List.length (lay l))) : Int)), (I6 ((↑i : Int) + 1)), (I6 (↑(List.length (lay (List.take (i + 1) l))) : Int)), (I6 (↑i : Int))] ++ UU 61, []⟩ ?_
            refine AWP.reg ?_
            refine DerQ.run (TT 3) ⟨[.sl (bss l) (List.length l) .any, U6, U6, U6, (B6 false), .sl (u8s (lay l)) (List.length (lay l)) .any, .sl (ies (endsF l (List.length l))) (List.length l) .any, U6, (I6 (↑(cutp a (List.length (lay l))) : Int)), (I6 ((↑i : Int) + 1)), (I6 (↑(List.length (lay (List.take (i + 1) l))) : Int)), (I6 (IntKind.wrap IntKind.i64 ((↑i : Int) + 1)))] ++ UU 27 ++ [(I6 (↑i : Int)), (I6 (IntKind.wrap IntKind.i64 ((↑i : Int) + 1)))] ++ UU 32, []⟩ (by kernel_rfl) (tt 3) ?_
            rw [IntWalk.i64_in ((↑i : Int) + 1) (by omega)]
            ((have hh := (hi i (by omega)).1 (by omega)); exact ⟨_, by omega, i + 1, rfl, by omega, by rw [Nat.min_eq_left hh]; kernel_rfl⟩; done)
          · have h3' := of_decide_eq_false h3
            refine AWP.skip (AWP.reg ?_)
            refine DerQ.run (TT 3) ⟨[.sl (bss l) (List.length l) .any, U6, U6, U6, (B6 false), .sl (u8s (lay l)) (List.length (lay l)) .any, .sl (ies (endsF l (List.length l))) (List.length l) .any, U6, (I6 (↑(cutp a (List.length (lay l))) : Int)), (I6 (↑(min i w) : Int)), (I6 (↑(List.length (lay (List.take (min i w) l))) : Int)), (I6 (IntKind.wrap IntKind.i64 ((↑i : Int) + 1)))] ++ UU 27 ++ [(I6 (↑i : Int)), (I6 (IntKind.wrap IntKind.i64 ((↑i : Int) + 1)))] ++ UU 5 ++ [(B6 (decide ((↑(List.length (lay (List.take (i + 1) l))) : Int) ≤ (↑(cutp a (List.length (lay l))) : Int))))] ++ UU 26, []⟩ (by kernel_rfl) (tt 3) ?_
            rw [IntWalk.i64_in ((↑i : Int) + 1) (by omega)]
            ((have hh : w ≤ i := Nat.le_of_not_lt (fun h9 => absurd ((hi i (by omega)).2 h9) (by omega))); exact ⟨_, by omega, i + 1, rfl, by omega, by rw [Nat.min_eq_right hh, Nat.min_eq_right (Nat.le_succ_of_le hh)]; kernel_rfl⟩; done)
        · have h2' := of_decide_eq_false h2
          refine KL [35, 36, 37, 38] ⟨[.sl (bss l) (List.length l) .any, U6, U6, U6, (B6 false), .sl (u8s (lay l)) (List.length (lay l)) .any, .sl (ies (endsF l (List.length l))) (List.length l) .any, U6, (I6 (↑(cutp a (List.length (lay l))) : Int)), (I6 (↑(min i w) : Int)), (I6 (↑(List.length (lay (List.take (min i w) l))) : Int)), (I6 (↑i : Int))] ++ UU 61, []⟩ ?_
          refine AWP.exit ?_
          refine SQ ?_
          refine DerQ.pre 3 (True ∧ True ∧ ((((0 : Int) ≤ (0 : Int)) ∧ ((0 ≤ (↑(cutp a (List.length (lay l))) : Int)) ∧ (((↑(cutp a (List.length (lay l))) : Int) ≤ (↑(List.length (lay l)) : Int)) ∧ ((↑(List.length (lay l)) : Int) ≤ (↑(List.length (lay l)) : Int))))) ∧ (Int.toNat (↑(cutp a (List.length (lay l))) : Int) * 1 ≤ List.length (u8s (lay l)))) ∧ True) ⟨[.sl (bss l) (List.length l) .any, U6, U6, U6, (B6 false), .sl (u8s (lay l)) (List.length (lay l)) .any, .sl (ies (endsF l (List.length l))) (List.length l) .any, U6, (I6 (↑(cutp a (List.length (lay l))) : Int)), (I6 (↑(min i w) : Int)), (I6 (↑(List.length (lay (List.take (min i w) l))) : Int)), (I6 (↑i : Int))] ++ UU 42 ++ [.sl (u8s (lay l)) (List.length (lay l)) .any, (I6 (↑(cutp a (List.length (lay l))) : Int)), .sl (List.take ((Int.toNat (↑(cutp a (List.length (lay l))) : Int) - 0) * 1) (List.drop 0 (u8s (lay l)))) (Int.toNat (↑(cutp a (List.length (lay l))) : Int) - 0) .any] ++ UU 16, []⟩ (by kernel_rfl) ⟨trivial, trivial, ⟨⟨(by omega), ⟨(by omega), ⟨(by omega), (by omega)⟩⟩⟩, (by (simp [spliceA_length] <;> omega))⟩, trivial⟩ ?_
          rw [Int.toNat_natCast (cutp a (List.length (lay l)))]
          rw [Nat.mul_one (cutp a (List.length (lay l)) - 0)]
          rw [Nat.sub_zero (cutp a (List.length (lay l)))]
          rw [List.drop_zero]
          rw [Go.Abs.u8s_take (cutp a (List.length (lay l))) (lay l)]
          rw [Go.Rec.min_w (i) (w) (by omega)]
          refine CD (s1) ?_
          refine RT 5 ?_
          refine AWP.seq (KL ([5, 6, 8, 11] ++ NN 53 7) ⟨[.sl (bss l) (List.length l) .any, U6, U6, U6, (B6 false), U6, U6, U6, U6, (I6 (↑w : Int)), (I6 (↑(List.length (lay (List.take w l))) : Int)), U6, .sl (bss (List.take w l)) (w) .any, (I6 (↑(List.length (lay (List.take w l))) : Int))] ++ UU 59, []⟩ ?_)
          refine AWP.reg ?_
          refine DerQ.pre 4 (True ∧ True ∧ True ∧ ((((0 : Int) ≤ (0 : Int)) ∧ ((0 ≤ (↑w : Int)) ∧ (((↑w : Int) ≤ (↑(List.length l) : Int)) ∧ ((↑(List.length l) : Int) ≤ (↑(List.length l) : Int))))) ∧ (Int.toNat (↑w : Int) * 1 ≤ List.length (bss l))) ∧ True) ⟨[.sl (bss l) (List.length l) .any, U6, U6, U6, (B6 false), U6, U6, U6, U6, (I6 (↑w : Int)), (I6 (↑(List.length (lay (List.take w l))) : Int)), U6, .sl (bss (List.take w l)) (w) .any, (I6 (↑(List.length (lay (List.take w l))) : Int))] ++ UU 46 ++ [.sl (bss (List.take w l)) (w) .any, .sl (bss l) (List.length l) .any, (I6 (↑w : Int)), .sl (List.take ((Int.toNat (↑w : Int) - 0) * 1) (List.drop 0 (bss l))) (Int.toNat (↑w : Int) - 0) .any] ++ UU 9, []⟩ (by kernel_rfl) ⟨trivial, trivial, trivial, ⟨⟨(by omega), ⟨(by omega), ⟨(by omega), (by omega)⟩⟩⟩, (by (simp [spliceA_length] <;> omega))⟩, trivial⟩ ?_
          rw [Int.toNat_natCast (w)]
          rw [Nat.mul_one (w - 0)]
          rw [Nat.sub_zero (w)]
          rw [List.drop_zero]
          rw [Go.Chu.bss_take (w) (l)]
          refine CD (ls) ?_
          refine PT 6 6 ?_
          refine DerQ.to ⟨[.sl (bss l) (List.length l) .any, U6, U6, U6, (B6 false), U6, U6, U6, U6, (I6 (↑w : Int)), (I6 (↑(List.length (lay (List.take w l))) : Int)), U6, .sl (bss (List.take w l)) (w) .any, (I6 (↑(List.length (lay (List.take w l))) : Int))] ++ UU 46 ++ [.sl (bss (List.take w l)) (w) .any, .sl (bss l) (List.length l) .any, (I6 (↑w : Int)), .sl (bss (List.take w l)) (w) .any, (B6 true), (B6 true), (I6 (↑(List.length (lay (List.take w l))) : Int)), (I6 (↑(List.length (lay (List.take w l))) : Int)), (B6 ((↑(List.length (lay (List.take w l))) : Int) == (↑(List.length (lay (List.take w l))) : Int))), (B6 ((↑(List.length (lay (List.take w l))) : Int) == (↑(List.length (lay (List.take w l))) : Int))), (B6 ((↑(List.length (lay (List.take w l))) : Int) == (↑(List.length (lay (List.take w l))) : Int))), U6, .undef], []⟩ (by kernel_rfl) ?_
          cases h3 : ((↑(List.length (lay (List.take w l))) : Int) == (↑(List.length (lay (List.take w l))) : Int))
          · have h3' := ne_of_beq_false h3
            exfalso; omega
          · have h3' := eq_of_beq h3
            refine CD (heads) ?_
            refine RT 2 ?_
            refine AWP.ret FA
    · refine EvD.body Try.func5 rfl rfl rfl ?_
      refine AWP.seq ?_
      refine TO ⟨[.sl (bss l) (List.length l) .any, (I6 a)] ++ UU 71, []⟩ ?_
      refine AWP.reg (RT 1 ?_)
      refine AWP.seq (AWP.seq ?_)
      refine TO ⟨[.sl (bss l) (List.length l) .any, (I6 a), U6, U6, (B6 false)] ++ UU 68, []⟩ ?_
      refine AWP.reg (PT 1 1 ?_)
      refine CD (fw) ?_
      refine RT 5 ?_
      refine KL (NN 14 6) ⟨[.sl (bss l) (List.length l) .any, (I6 a), U6, U6, (B6 false)] ++ UU 15 ++ [(B6 (decide (a < 0)))] ++ UU 52, []⟩ ?_
      refine CN (decide (a < 0)) (fun h1 => ?_) (fun h1 => ?_)
      · have h1' := of_decide_eq_true h1
        refine SQ (CD (heads) ?_)
        refine RT 1 ?_
        refine AWP.ret FA
      · have h1' := of_decide_eq_false h1
        exfalso; omega
  · have fw := few_not hf
    refine EvD.body Try.func5 rfl rfl rfl ?_
    refine AWP.seq ?_
    refine TO ⟨[.sl (bss l) (List.length l) .any, (I6 a)] ++ UU 71, []⟩ ?_
    refine AWP.reg (RT 1 ?_)
    refine AWP.seq (AWP.seq ?_)
    refine TO ⟨[.sl (bss l) (List.length l) .any, (I6 a), U6, U6, (B6 false)] ++ UU 68, []⟩ ?_
    refine AWP.reg (PT 1 1 ?_)
    refine CD (fw) ?_
    refine RT 3 ?_
    refine KL (NN 14 6) ⟨[.sl (bss l) (List.length l) .any, (I6 a), U6, U6, (B6 false)] ++ UU 15 ++ [(B6 true)] ++ UU 52, []⟩ ?_
    refine CN true (fun _ => ?_) (fun h => nomatch h)
    refine SQ (CD (heads) ?_)
    refine RT 1 ?_
    refine AWP.ret FA
end Go.Rec
