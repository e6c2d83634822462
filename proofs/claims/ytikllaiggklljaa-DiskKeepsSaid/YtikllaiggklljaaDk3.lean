/- Walks and laws. -/
import Derived.Test.YtikllaiggklljaaDk2
import Derived.Test.YtikllaiggklljaaLibC
set_option maxRecDepth 100000
set_option maxHeartbeats 0
set_option linter.unusedSimpArgs false
set_option linter.unusedVariables false
namespace Go.Dk
open Go Go.Abs Go.Proofs
theorem fi_spl (l : List FileD) (k : Nat) (h : k < l.length) (a : ByteArray) (d : List Int) (s : Int) : spliceA (fisc l) (k * 3) [.sc (.string a), .sl (u8s d) (List.length d) .any, .sc (.int .i64 s)] = fisc (l.set k ⟨a, d, s⟩) := by
  have hlen : (spliceA (fisc l) (k * 3) (fic ⟨a, d, s⟩)).length = (fisc (l.set k ⟨a, d, s⟩)).length := by rw [spliceA_length, fisc_length, fisc_length, List.length_set]
  apply List.ext_getElem hlen
  intro j h1 h2
  have hj : j < l.length * 3 := by rw [fisc_length, List.length_set] at h2; exact h2
  have g1 : (spliceA (fisc l) (k * 3) (fic ⟨a, d, s⟩)).getD j .undef = (spliceA (fisc l) (k * 3) (fic ⟨a, d, s⟩))[j] := by rw [List.getD_eq_getElem?_getD, List.getElem?_eq_getElem h1]; rfl
  have g2 : (fisc (l.set k ⟨a, d, s⟩)).getD j .undef = (fisc (l.set k ⟨a, d, s⟩))[j] := by rw [List.getD_eq_getElem?_getD, List.getElem?_eq_getElem h2]; rfl
  show (spliceA (fisc l) (k * 3) (fic ⟨a, d, s⟩))[j] = _
  rw [← g1, ← g2, spliceA_getD (fic ⟨a, d, s⟩) (fisc l) (k * 3) j (by rw [fisc_length]; show k * 3 + 3 ≤ _; omega)]
  have hd : j = j / 3 * 3 + j % 3 := by omega
  have e1 : (fisc (l.set k ⟨a, d, s⟩)).getD j .undef = (fic ((l.set k ⟨a, d, s⟩).getD (j / 3) fi0)).getD (j % 3) .undef := by
    rw [hd]
    have := recs_get fic 3 (fun _ => rfl) fi0 (l.set k ⟨a, d, s⟩) (j / 3) (j % 3) (by rw [List.length_set]; omega) (by omega)
    rw [show (j / 3 * 3 + j % 3) / 3 = j / 3 by omega, show (j / 3 * 3 + j % 3) % 3 = j % 3 by omega]
    exact this
  have e2 : (fisc l).getD j .undef = (fic (l.getD (j / 3) fi0)).getD (j % 3) .undef := by
    rw [hd]
    have := recs_get fic 3 (fun _ => rfl) fi0 l (j / 3) (j % 3) (by omega) (by omega)
    rw [show (j / 3 * 3 + j % 3) / 3 = j / 3 by omega, show (j / 3 * 3 + j % 3) % 3 = j % 3 by omega]
    exact this
  rw [e1, e2]
  by_cases hq : j / 3 = k
  · rw [if_pos ⟨by omega, by show j < k * 3 + 3; omega⟩]
    have e3 : (l.set k ⟨a, d, s⟩).getD (j / 3) fi0 = ⟨a, d, s⟩ := by rw [hq, List.getD_eq_getElem?_getD, List.getElem?_set_self h]; rfl
    rw [e3, show j - k * 3 = j % 3 by omega]
  · rw [if_neg (by rintro ⟨h3, h4⟩; have h4 : j < k * 3 + 3 := h4; omega)]
    have e3 : (l.set k ⟨a, d, s⟩).getD (j / 3) fi0 = l.getD (j / 3) fi0 := by rw [List.getD_eq_getElem?_getD, List.getElem?_set_ne (fun h => hq h.symm), ← List.getD_eq_getElem?_getD]
    rw [e3]
theorem fi_all (l : List FileD) (n : Nat) (h : n = l.length) : List.take (n * 3) (List.drop 0 (fisc l)) = fisc l := by rw [List.drop_zero, List.take_of_length_le (by simp [h])]
theorem place (l : List FileD) (room arm : Int) (dead : Bool) (hs : Srt l) (hx : l.length ≤ 100000) (s : ByteArray) : EvK Try.prog 72 [.ptr 0 0, .sc (.string s)] ⟨[.sl (fisc l) l.length .any, .sc (.int .i64 room), .sc (.int .i64 arm), .sc (.bool dead)], 4, .fresh⟩ (.tup [.sc (.int .i64 (low l s : Nat)), .sc (.bool (decide (has l s)))]) ⟨[.sl (fisc l) l.length .any, .sc (.int .i64 room), .sc (.int .i64 arm), .sc (.bool dead)], 4, .fresh⟩ := by
  refine EvK.ofF ?_ ⟨rfl, rfl, by rfl, by rfl, rfl, rfl, by show 0 < 4; omega, by show 4 ≤ 4; omega, by simp [fic, ltAll, AVal.refLt], rfl⟩
  refine EvF.body Try.func72 rfl (fun _ => ?_)
  refine AWP.seq ?_
  refine TO ⟨[.ptr 0 0, (S6 s)] ++ UU 13, [⟨[.sl (fisc l) (List.length l) .any, (I6 room), (I6 arm), (B6 dead)], 4, .fresh⟩]⟩ ?_
  refine AWP.reg (RT 2 ?_)
  refine AWP.seq ?_
  refine TO ⟨[.ptr 0 0, (S6 s), U6, U6, (I6 0), (B6 false)] ++ UU 9, [⟨[.sl (fisc l) (List.length l) .any, (I6 room), (I6 arm), (B6 dead)], 4, .fresh⟩]⟩ ?_
  refine AWP.reg (PI 6 (True ∧ True ∧ True ∧ True ∧ 0 < 4 ∧ True ∧ True) ⟨trivial, trivial, trivial, trivial, (by omega), trivial, trivial⟩ ?_)
  refine CD (search l hs hx s) ?_
  refine RT 4 ?_
  refine AWP.ret ?_
  refine FI (.tup [(I6 (↑(low l s) : Int)), (B6 (decide (has l s)))]) ?_
  exact Shrink.refl _ _ _
def roomP (room : Int) (l : List FileD) (s : ByteArray) (n : Int) : Prop := if has l s then n - (l.getD (low l s) fi0).d.length ≤ room - usedL l else n ≤ room - usedL l ∧ l.length < 64
instance (room : Int) (l : List FileD) (s : ByteArray) (n : Int) : Decidable (roomP room l s n) := by unfold roomP; infer_instance
theorem d_le (l : List FileD) (i : Nat) (h : i < l.length) : ((l.getD i fi0).d.length : Int) ≤ usedL l := by
  have h1 := sumU_bd l i (by omega)
  have := h1.2 h; have := h1.1; omega
theorem room_has (l : List FileD) (room arm : Int) (dead : Bool) (hs : Srt l) (hx : l.length ≤ 1000) (hu : usedL l ≤ 1048576) (hr : 0 ≤ room ∧ room ≤ 1048576) (s : ByteArray) (n : Int) (hn : 0 ≤ n ∧ n ≤ 1000000000000) (h : has l s) : EvK Try.prog 68 [.ptr 0 0, .sc (.string s), .sc (.int .i64 n)] ⟨[.sl (fisc l) l.length .any, .sc (.int .i64 room), .sc (.int .i64 arm), .sc (.bool dead)], 4, .fresh⟩ (.sc (.bool (decide (roomP room l s n)))) ⟨[.sl (fisc l) l.length .any, .sc (.int .i64 room), .sc (.int .i64 arm), .sc (.bool dead)], 4, .fresh⟩ := by
  refine EvK.ofF ?_ ⟨rfl, rfl, by rfl, by rfl, rfl, rfl, by show 0 < 4; omega, by show 4 ≤ 4; omega, by simp [fic, ltAll, AVal.refLt], rfl⟩
  have hll := h.1
  have hun := usedL_nn l
  have hdl := d_le l _ hll
  have e : decide (roomP room l s n) = decide (n - (l.getD (low l s) fi0).d.length ≤ room - usedL l) := decide_eq_decide.2 (by unfold roomP; rw [if_pos h])
  rw [e]
  refine EvF.body Try.func68 rfl (fun _ => ?_)
  refine AWP.seq ?_
  refine TO ⟨[.ptr 0 0, (S6 s), (I6 n)] ++ UU 48, [⟨[.sl (fisc l) (List.length l) .any, (I6 room), (I6 arm), (B6 dead)], 4, .fresh⟩]⟩ ?_
  refine AWP.reg (RT 1 ?_)
  refine AWP.seq ?_
  refine TO ⟨[.ptr 0 0, (S6 s), (I6 n), U6, U6, U6, (B6 false)] ++ UU 44, [⟨[.sl (fisc l) (List.length l) .any, (I6 room), (I6 arm), (B6 dead)], 4, .fresh⟩]⟩ ?_
  refine AWP.reg (PT 2 2 ?_)
  refine DerQ.callK (place l room arm dead hs (by omega) s) 0 [.ptr 0 0, (S6 s)] ⟨[.ptr 0 0, (S6 s), (I6 n), U6, U6, U6, (B6 false), U6, U6, U6, U6, .ptr 0 0, (S6 s), .tup [(I6 (↑(low l s) : Int)), (B6 (decide (has l s)))]] ++ UU 37, [⟨[.sl (fisc l) (List.length l) .any, (I6 room), (I6 arm), (B6 dead)], 4, .fresh⟩]⟩ ⟨by kernel_rfl, by kernel_rfl, by kernel_rfl, by kernel_rfl, by kernel_rfl⟩ ?_
  refine RT 5 ?_
  refine AWP.seq (KL ([1] ++ NN 10 6) ⟨[.ptr 0 0, U6, (I6 n), U6, U6, U6, (B6 false), (I6 (↑(low l s) : Int)), (B6 (decide (has l s)))] ++ UU 42, [⟨[.sl (fisc l) (List.length l) .any, (I6 room), (I6 arm), (B6 dead)], 4, .fresh⟩]⟩ ?_)
  refine AWP.drawX mixed (fun o => [22].contains (o.dst.getD 0)) (by kernel_rfl) ?_
  refine DerX.preI 6 ((True) ∧ ((True) ∧ ((True) ∧ ((True) ∧ (((1 : Nat) < (4 : Nat)) ∧ ((True) ∧ (True))))))) (by intro ext; kernel_rfl) ⟨trivial, ⟨trivial, ⟨trivial, ⟨trivial, ⟨(by omega), ⟨trivial, trivial⟩⟩⟩⟩⟩⟩ ?_
  refine DerX.callK (used l room arm dead hx hu) 0 [.ptr 0 0] [] ⟨[.ptr 0 0, U6, (I6 n), U6, U6, U6, (B6 false), (I6 (↑(low l s) : Int)), (B6 (decide (has l s)))] ++ UU 7 ++ [.ptr 0 0, .ptr 0 0, .ptr 0 0, .ptr 0 1, (I6 room), .ptr 0 0, (I6 (usedL l))] ++ UU 28, [⟨[.sl (fisc l) (List.length l) .any, (I6 room), (I6 arm), (B6 dead)], 4, .fresh⟩]⟩ ⟨by kernel_rfl, by kernel_rfl, by kernel_rfl, by kernel_rfl, by kernel_rfl, by kernel_rfl, by kernel_rfl⟩ ?_
  refine DerX.pre 2 (TT 2) [(I6 (IntKind.wrap IntKind.i64 (room - usedL l))), (I6 (IntKind.wrap IntKind.i64 (room - usedL l)))] ⟨[.ptr 0 0, U6, (I6 n), U6, U6, U6, (B6 false), (I6 (↑(low l s) : Int)), (B6 (decide (has l s))), (I6 (IntKind.wrap IntKind.i64 (room - usedL l)))] ++ UU 6 ++ [.ptr 0 0, .ptr 0 0, .ptr 0 0, .ptr 0 1, (I6 room), .ptr 0 0, (I6 (usedL l)), (I6 (IntKind.wrap IntKind.i64 (room - usedL l)))] ++ UU 27, [⟨[.sl (fisc l) (List.length l) .any, (I6 room), (I6 arm), (B6 dead)], 4, .fresh⟩]⟩ (by intro ext; kernel_rfl) (by kernel_rfl) (tt 2) ?_
  rw [IntWalk.i64_in (room - usedL l) (by omega)]
  refine DerX.nil ?_
  refine AWP.seq (AWP.seq (KL (NN 16 8) ⟨[.ptr 0 0, U6, (I6 n), U6, U6, U6, (B6 false), (I6 (↑(low l s) : Int)), (B6 (decide (has l s))), (I6 (room - usedL l))] ++ UU 41, [⟨[.sl (fisc l) (List.length l) .any, (I6 room), (I6 arm), (B6 dead)], 4, .fresh⟩]⟩ ?_))
  refine AWP.reg (RT 1 ?_)
  refine KL [8] ⟨[.ptr 0 0, U6, (I6 n), U6, U6, U6, (B6 false), (I6 (↑(low l s) : Int)), U6, (I6 (room - usedL l))] ++ UU 14 ++ [(B6 (decide (has l s)))] ++ UU 26, [⟨[.sl (fisc l) (List.length l) .any, (I6 room), (I6 arm), (B6 dead)], 4, .fresh⟩]⟩ ?_
  refine CN (decide (has l s)) (fun h1 => ?_) (fun h1 => ?_)
  · have h1' := of_decide_eq_true h1
    refine SQ ?_
    refine DerQ.pre 10 (True ∧ True ∧ True ∧ True ∧ True ∧ 0 < 4 ∧ True ∧ (((0 ≤ (↑(low l s) : Int)) ∧ ((↑(low l s) : Int) < (↑(List.length l) : Int))) ∧ (Int.toNat (↑(low l s) : Int) * 3 + 3 ≤ List.length (fisc l))) ∧ 2 ≤ 3 ∧ 0 < 1 ∧ True) ⟨[.ptr 0 0, U6, (I6 n), U6, U6, U6, (B6 false), (I6 (↑(low l s) : Int)), U6, (I6 (room - usedL l))] ++ UU 14 ++ [(B6 (decide (has l s))), (I6 n), .ptr 0 0, .ptr 0 0, .ptr 0 0, .ptr 0 0, .sl (fisc l) (List.length l) .any, (I6 (↑(low l s) : Int)), .dptr [List.getD (fisc l) (Int.toNat (↑(low l s) : Int) * 3 + 0) U6, List.getD (fisc l) (Int.toNat (↑(low l s) : Int) * 3 + 1) U6, List.getD (fisc l) (Int.toNat (↑(low l s) : Int) * 3 + 2) AVal.undef], .dptr [List.getD (fisc l) (Int.toNat (↑(low l s) : Int) * 3 + 1) AVal.undef], List.getD [List.getD (fisc l) (Int.toNat (↑(low l s) : Int) * 3 + 1) AVal.undef] 0 AVal.undef] ++ UU 16, [⟨[.sl (fisc l) (List.length l) .any, (I6 room), (I6 arm), (B6 dead)], 4, .fresh⟩]⟩ (by kernel_rfl) ⟨trivial, trivial, trivial, trivial, trivial, (by omega), trivial, ⟨⟨(by omega), (by omega)⟩, (by (simp [spliceA_length] <;> omega))⟩, (by omega), (by omega), trivial⟩ ?_
    rw [Int.toNat_natCast (low l s)]
    rw [Nat.add_zero (low l s * 3)]
    rw [Go.Dk.fi_1 (l) (low l s) (by omega)]
    refine DerQ.run (TT 5) ⟨[.ptr 0 0, U6, (I6 n), U6, U6, U6, (B6 (decide (IntKind.wrap IntKind.i64 (n - (↑(List.length (List.getD l (low l s) fi0).d) : Int)) ≤ room - usedL l))), (I6 (↑(low l s) : Int)), U6, (I6 (room - usedL l))] ++ UU 14 ++ [(B6 (decide (has l s))), (I6 n), .ptr 0 0, .ptr 0 0, .ptr 0 0, .ptr 0 0, .sl (fisc l) (List.length l) .any, (I6 (↑(low l s) : Int)), .dptr [List.getD (fisc l) (low l s * 3) U6, .sl (u8s (List.getD l (low l s) fi0).d) (List.length (List.getD l (low l s) fi0).d) .any, List.getD (fisc l) (low l s * 3 + 2) AVal.undef], .dptr [.sl (u8s (List.getD l (low l s) fi0).d) (List.length (List.getD l (low l s) fi0).d) .any], .sl (u8s (List.getD l (low l s) fi0).d) (List.length (List.getD l (low l s) fi0).d) .any, (I6 (↑(List.length (List.getD l (low l s) fi0).d) : Int)), (I6 (IntKind.wrap IntKind.i64 (n - (↑(List.length (List.getD l (low l s) fi0).d) : Int)))), (I6 (room - usedL l)), (B6 (decide (IntKind.wrap IntKind.i64 (n - (↑(List.length (List.getD l (low l s) fi0).d) : Int)) ≤ room - usedL l)))] ++ UU 12, [⟨[.sl (fisc l) (List.length l) .any, (I6 room), (I6 arm), (B6 dead)], 4, .fresh⟩]⟩ (by kernel_rfl) (tt 5) ?_
    rw [IntWalk.i64_in (n - (↑(List.length (List.getD l (low l s) fi0).d) : Int)) (by omega)]
    refine KL ([7] ++ NN 24 15) ⟨[.ptr 0 0, U6, (I6 n), U6, U6, U6, (B6 (decide (n - (↑(List.length (List.getD l (low l s) fi0).d) : Int) ≤ room - usedL l))), U6, U6, (I6 (room - usedL l))] ++ UU 41, [⟨[.sl (fisc l) (List.length l) .any, (I6 room), (I6 arm), (B6 dead)], 4, .fresh⟩]⟩ ?_
    refine AWP.ret ?_
    refine FI (B6 (decide (n - (↑(List.length (List.getD l (low l s) fi0).d) : Int) ≤ room - usedL l))) ?_
    exact Shrink.refl _ _ _
  · have h1' := of_decide_eq_false h1
    (exfalso; exact absurd h (by assumption); done)
theorem room_new (l : List FileD) (room arm : Int) (dead : Bool) (hs : Srt l) (hx : l.length ≤ 1000) (hu : usedL l ≤ 1048576) (hr : 0 ≤ room ∧ room ≤ 1048576) (s : ByteArray) (n : Int) (hn : 0 ≤ n ∧ n ≤ 1000000000000) (h : ¬ has l s) : EvK Try.prog 68 [.ptr 0 0, .sc (.string s), .sc (.int .i64 n)] ⟨[.sl (fisc l) l.length .any, .sc (.int .i64 room), .sc (.int .i64 arm), .sc (.bool dead)], 4, .fresh⟩ (.sc (.bool (decide (roomP room l s n)))) ⟨[.sl (fisc l) l.length .any, .sc (.int .i64 room), .sc (.int .i64 arm), .sc (.bool dead)], 4, .fresh⟩ := by
  refine EvK.ofF ?_ ⟨rfl, rfl, by rfl, by rfl, rfl, rfl, by show 0 < 4; omega, by show 4 ≤ 4; omega, by simp [fic, ltAll, AVal.refLt], rfl⟩
  have hun := usedL_nn l
  have e : decide (roomP room l s n) = decide (n ≤ room - usedL l ∧ l.length < 64) := decide_eq_decide.2 (by unfold roomP; rw [if_neg h])
  rw [e]
  refine EvF.body Try.func68 rfl (fun _ => ?_)
  refine AWP.seq ?_
  refine TO ⟨[.ptr 0 0, (S6 s), (I6 n)] ++ UU 48, [⟨[.sl (fisc l) (List.length l) .any, (I6 room), (I6 arm), (B6 dead)], 4, .fresh⟩]⟩ ?_
  refine AWP.reg (RT 1 ?_)
  refine AWP.seq ?_
  refine TO ⟨[.ptr 0 0, (S6 s), (I6 n), U6, U6, U6, (B6 false)] ++ UU 44, [⟨[.sl (fisc l) (List.length l) .any, (I6 room), (I6 arm), (B6 dead)], 4, .fresh⟩]⟩ ?_
  refine AWP.reg (PT 2 2 ?_)
  refine DerQ.callK (place l room arm dead hs (by omega) s) 0 [.ptr 0 0, (S6 s)] ⟨[.ptr 0 0, (S6 s), (I6 n), U6, U6, U6, (B6 false), U6, U6, U6, U6, .ptr 0 0, (S6 s), .tup [(I6 (↑(low l s) : Int)), (B6 (decide (has l s)))]] ++ UU 37, [⟨[.sl (fisc l) (List.length l) .any, (I6 room), (I6 arm), (B6 dead)], 4, .fresh⟩]⟩ ⟨by kernel_rfl, by kernel_rfl, by kernel_rfl, by kernel_rfl, by kernel_rfl⟩ ?_
  refine RT 5 ?_
  refine AWP.seq (KL ([1] ++ NN 10 6) ⟨[.ptr 0 0, U6, (I6 n), U6, U6, U6, (B6 false), (I6 (↑(low l s) : Int)), (B6 (decide (has l s)))] ++ UU 42, [⟨[.sl (fisc l) (List.length l) .any, (I6 room), (I6 arm), (B6 dead)], 4, .fresh⟩]⟩ ?_)
  refine AWP.drawX mixed (fun o => [22].contains (o.dst.getD 0)) (by kernel_rfl) ?_
  refine DerX.preI 6 ((True) ∧ ((True) ∧ ((True) ∧ ((True) ∧ (((1 : Nat) < (4 : Nat)) ∧ ((True) ∧ (True))))))) (by intro ext; kernel_rfl) ⟨trivial, ⟨trivial, ⟨trivial, ⟨trivial, ⟨(by omega), ⟨trivial, trivial⟩⟩⟩⟩⟩⟩ ?_
  refine DerX.callK (used l room arm dead hx hu) 0 [.ptr 0 0] [] ⟨[.ptr 0 0, U6, (I6 n), U6, U6, U6, (B6 false), (I6 (↑(low l s) : Int)), (B6 (decide (has l s)))] ++ UU 7 ++ [.ptr 0 0, .ptr 0 0, .ptr 0 0, .ptr 0 1, (I6 room), .ptr 0 0, (I6 (usedL l))] ++ UU 28, [⟨[.sl (fisc l) (List.length l) .any, (I6 room), (I6 arm), (B6 dead)], 4, .fresh⟩]⟩ ⟨by kernel_rfl, by kernel_rfl, by kernel_rfl, by kernel_rfl, by kernel_rfl, by kernel_rfl, by kernel_rfl⟩ ?_
  refine DerX.pre 2 (TT 2) [(I6 (IntKind.wrap IntKind.i64 (room - usedL l))), (I6 (IntKind.wrap IntKind.i64 (room - usedL l)))] ⟨[.ptr 0 0, U6, (I6 n), U6, U6, U6, (B6 false), (I6 (↑(low l s) : Int)), (B6 (decide (has l s))), (I6 (IntKind.wrap IntKind.i64 (room - usedL l)))] ++ UU 6 ++ [.ptr 0 0, .ptr 0 0, .ptr 0 0, .ptr 0 1, (I6 room), .ptr 0 0, (I6 (usedL l)), (I6 (IntKind.wrap IntKind.i64 (room - usedL l)))] ++ UU 27, [⟨[.sl (fisc l) (List.length l) .any, (I6 room), (I6 arm), (B6 dead)], 4, .fresh⟩]⟩ (by intro ext; kernel_rfl) (by kernel_rfl) (tt 2) ?_
  rw [IntWalk.i64_in (room - usedL l) (by omega)]
  refine DerX.nil ?_
  refine AWP.seq (AWP.seq (KL (NN 16 8) ⟨[.ptr 0 0, U6, (I6 n), U6, U6, U6, (B6 false), (I6 (↑(low l s) : Int)), (B6 (decide (has l s))), (I6 (room - usedL l))] ++ UU 41, [⟨[.sl (fisc l) (List.length l) .any, (I6 room), (I6 arm), (B6 dead)], 4, .fresh⟩]⟩ ?_))
  refine AWP.reg (RT 1 ?_)
  refine KL [8] ⟨[.ptr 0 0, U6, (I6 n), U6, U6, U6, (B6 false), (I6 (↑(low l s) : Int)), U6, (I6 (room - usedL l))] ++ UU 14 ++ [(B6 (decide (has l s)))] ++ UU 26, [⟨[.sl (fisc l) (List.length l) .any, (I6 room), (I6 arm), (B6 dead)], 4, .fresh⟩]⟩ ?_
  refine CN (decide (has l s)) (fun h1 => ?_) (fun h1 => ?_)
  · have h1' := of_decide_eq_true h1
    (exfalso; exact absurd (by assumption) h; done)
  · have h1' := of_decide_eq_false h1
    refine AWP.skip (SQ (PT 4 4 ?_))
    refine DerQ.to ⟨[.ptr 0 0, U6, (I6 n), U6, U6, U6, (B6 false), (I6 (↑(low l s) : Int)), U6, (I6 (room - usedL l))] ++ UU 14 ++ [(B6 (decide (has l s)))] ++ UU 14 ++ [(I6 n), (I6 (room - usedL l)), (B6 (decide (n ≤ room - usedL l))), (B6 (decide (n ≤ room - usedL l)))] ++ UU 8, [⟨[.sl (fisc l) (List.length l) .any, (I6 room), (I6 arm), (B6 dead)], 4, .fresh⟩]⟩ (by kernel_rfl) ?_
    cases h2 : (decide (n ≤ room - usedL l))
    · have h2' := of_decide_eq_false h2
      refine RT 2 ?_
      refine AWP.ret ?_
      refine FI (B6 false) ?_
      ((rw [show decide (n ≤ room - usedL l ∧ l.length < 64) = false from decide_eq_false (by omega)]; exact shr_cut 1 (by kernel_rfl) (by kernel_rfl) (by simp) (WfRows.of (by intro r hr; rw [List.mem_singleton] at hr; subst hr; rfl)) (by kernel_rfl)); done)
    · have h2' := of_decide_eq_true h2
      refine RI (True ∧ True ∧ True ∧ True ∧ 0 < 4 ∧ True ∧ True ∧ True ∧ True ∧ True) ⟨trivial, trivial, trivial, trivial, (by omega), trivial, trivial, trivial, trivial, trivial⟩ ?_
      refine AWP.ret ?_
      refine FI (B6 (decide ((↑(List.length l) : Int) < 64))) ?_
      ((rw [show decide (n ≤ room - usedL l ∧ l.length < 64) = decide ((l.length : Int) < 64) from decide_eq_decide.2 (by omega)]; exact shr_cut 1 (by kernel_rfl) (by kernel_rfl) (by simp) (WfRows.of (by intro r hr; rw [List.mem_singleton] at hr; subst hr; rfl)) (by kernel_rfl)); done)
theorem room_ (l : List FileD) (room arm : Int) (dead : Bool) (hs : Srt l) (hx : l.length ≤ 1000) (hu : usedL l ≤ 1048576) (hr : 0 ≤ room ∧ room ≤ 1048576) (s : ByteArray) (n : Int) (hn : 0 ≤ n ∧ n ≤ 1000000000000) : EvK Try.prog 68 [.ptr 0 0, .sc (.string s), .sc (.int .i64 n)] ⟨[.sl (fisc l) l.length .any, .sc (.int .i64 room), .sc (.int .i64 arm), .sc (.bool dead)], 4, .fresh⟩ (.sc (.bool (decide (roomP room l s n)))) ⟨[.sl (fisc l) l.length .any, .sc (.int .i64 room), .sc (.int .i64 arm), .sc (.bool dead)], 4, .fresh⟩ := by
  by_cases h : has l s
  · exact room_has l room arm dead hs hx hu hr s n hn h
  · exact room_new l room arm dead hs hx hu hr s n hn h
def putL (l : List FileD) (f : FileD) : List FileD := if has l f.nm then l.set (low l f.nm) f else insD l (low l f.nm) f
theorem set_has (l : List FileD) (room arm : Int) (dead : Bool) (hs : Srt l) (hx : l.length ≤ 100) (f : FileD) (h : has l f.nm) : EvK Try.prog 71 [.ptr 0 0, .agg (fic f)] ⟨[.sl (fisc l) l.length .any, .sc (.int .i64 room), .sc (.int .i64 arm), .sc (.bool dead)], 4, .fresh⟩ (.tup []) ⟨[.sl (fisc (putL l f)) (putL l f).length .any, .sc (.int .i64 room), .sc (.int .i64 arm), .sc (.bool dead)], 4, .fresh⟩ := by
  refine EvK.ofF ?_ ⟨rfl, rfl, by rfl, by rfl, rfl, rfl, by show 0 < 4; omega, by show 4 ≤ 4; omega, by simp [fic, ltAll, AVal.refLt], rfl⟩
  have hll := low_le l f.nm
  have h1 := h.1
  unfold putL
  rw [if_pos h, List.length_set]
  refine EvF.body Try.func71 rfl (fun _ => ?_)
  refine AWP.seq ?_
  refine TO ⟨[.ptr 0 0, .agg [(S6 f.nm), .sl (u8s f.d) (List.length f.d) .any, (I6 (f.sf))]] ++ UU 43, [⟨[.sl (fisc l) (List.length l) .any, (I6 room), (I6 arm), (B6 dead)], 4, .fresh⟩]⟩ ?_
  refine AWP.reg (RT 1 ?_)
  refine AWP.seq (KL [1] ⟨[.ptr 0 0, U6, U6, .ptr 1 0] ++ UU 41, [⟨[.sl (fisc l) (List.length l) .any, (I6 room), (I6 arm), (B6 dead)], 4, .fresh⟩, ⟨[(S6 f.nm), .sl (u8s f.d) (List.length f.d) .any, (I6 (f.sf))], 3, .fresh⟩]⟩ ?_)
  refine AWP.reg (PI 3 (True ∧ True ∧ 0 < 3 ∧ True) ⟨trivial, trivial, (by omega), trivial⟩ ?_)
  refine DerQ.callK (place l room arm dead hs (by omega) f.nm) 0 [.ptr 0 0, (S6 f.nm)] ⟨[.ptr 0 0, U6, U6, .ptr 1 0, U6, U6, U6, .ptr 0 0, .ptr 1 0, (S6 f.nm), .tup [(I6 (↑(low l f.nm) : Int)), (B6 (decide (has l f.nm)))]] ++ UU 34, [⟨[.sl (fisc l) (List.length l) .any, (I6 room), (I6 arm), (B6 dead)], 4, .fresh⟩, ⟨[(S6 f.nm), .sl (u8s f.d) (List.length f.d) .any, (I6 (f.sf))], 3, .fresh⟩]⟩ ⟨by kernel_rfl, by kernel_rfl, by kernel_rfl, by kernel_rfl, by kernel_rfl⟩ ?_
  refine RT 5 ?_
  refine AWP.seq (KL (NN 6 7) ⟨[.ptr 0 0, U6, U6, .ptr 1 0, (I6 (↑(low l f.nm) : Int)), (B6 (decide (has l f.nm)))] ++ UU 39, [⟨[.sl (fisc l) (List.length l) .any, (I6 room), (I6 arm), (B6 dead)], 4, .fresh⟩, ⟨[(S6 f.nm), .sl (u8s f.d) (List.length f.d) .any, (I6 (f.sf))], 3, .fresh⟩]⟩ ?_)
  refine AWP.reg (PI 6 (True ∧ True ∧ True ∧ True ∧ True ∧ 0 < 4 ∧ True) ⟨trivial, trivial, trivial, trivial, trivial, (by omega), trivial⟩ ?_)
  refine DerQ.callAI (ficlone l (by omega)) ⟨by kernel_rfl, by kernel_rfl⟩ ?_
  refine RI (True ∧ True ∧ True ∧ 1 ≤ 4 ∧ True) ⟨trivial, trivial, trivial, (by omega), trivial⟩ ?_
  refine AWP.seq (KL (NN 13 10) ⟨[.ptr 0 0, U6, U6, .ptr 1 0, (I6 (↑(low l f.nm) : Int)), (B6 (decide (has l f.nm)))] ++ UU 39, [⟨[.row 2 0 (List.length l), (I6 room), (I6 arm), (B6 dead)], 4, .fresh⟩, ⟨[(S6 f.nm), .sl (u8s f.d) (List.length f.d) .any, (I6 (f.sf))], 3, .fresh⟩, ⟨fisc l, 3, .fresh⟩]⟩ ?_)
  refine AWP.reg (RT 1 ?_)
  refine KL [5] ⟨[.ptr 0 0, U6, U6, .ptr 1 0, (I6 (↑(low l f.nm) : Int))] ++ UU 18 ++ [(B6 (decide (has l f.nm)))] ++ UU 21, [⟨[.row 2 0 (List.length l), (I6 room), (I6 arm), (B6 dead)], 4, .fresh⟩, ⟨[(S6 f.nm), .sl (u8s f.d) (List.length f.d) .any, (I6 (f.sf))], 3, .fresh⟩, ⟨fisc l, 3, .fresh⟩]⟩ ?_
  refine CN (decide (has l f.nm)) (fun h2 => ?_) (fun h2 => ?_)
  · have h2' := of_decide_eq_true h2
    refine AWP.drawB mixed (fun o => if [].contains (o.dst.getD 0) then 1 else if [].contains (o.dst.getD 0) then 2 else if [0].contains (o.dst.getD 0) then 3 else 0) 0 3 (fun x => [⟨[.row 2 0 (List.length l), (I6 room), (I6 arm), (B6 dead)], 4, .fresh⟩, ⟨[(S6 f.nm), .sl (u8s f.d) (List.length f.d) .any, (I6 (f.sf))], 3, .fresh⟩, ⟨x 2, 3, .fresh⟩]) ⟨[.ptr 0 0, U6, U6, .ptr 1 0, (I6 (↑(low l f.nm) : Int))] ++ UU 18 ++ [(B6 (decide (has l f.nm)))] ++ UU 21, [⟨[.row 2 0 (List.length l), (I6 room), (I6 arm), (B6 dead)], 4, .fresh⟩, ⟨[(S6 f.nm), .sl (u8s f.d) (List.length f.d) .any, (I6 (f.sf))], 3, .fresh⟩, ⟨fisc l, 3, .fresh⟩]⟩ (by kernel_rfl) ⟨by kernel_rfl, by kernel_rfl⟩ (by kernel_rfl) ?_
    refine DerZ.pre 8 ((True) ∧ ((True) ∧ ((True) ∧ ((True) ∧ (((0 : Nat) < (4 : Nat)) ∧ ((True) ∧ (((3 : Nat) ≤ (3 : Nat)) ∧ ((((0 ≤ (↑(low l f.nm) : Int)) ∧ ((↑(low l f.nm) : Int) < (↑(List.length l) : Int))) ∧ ((3 : Nat) = (3 : Nat))) ∧ (True))))))))) [.ptr 0 0, .ptr 0 0, .ptr 0 0, .ptr 0 0, .row 2 0 (List.length l), (I6 (↑(low l f.nm) : Int)), .agg [(S6 f.nm), .sl (u8s f.d) (List.length f.d) .any, (I6 (f.sf))], .ptr 2 (0 + Int.toNat (↑(low l f.nm) : Int) * 3)] ⟨[.ptr 0 0, U6, U6, .ptr 1 0, (I6 (↑(low l f.nm) : Int))] ++ UU 18 ++ [(B6 (decide (has l f.nm))), .ptr 0 0, .ptr 0 0, .ptr 0 0, .ptr 0 0, .row 2 0 (List.length l), (I6 (↑(low l f.nm) : Int)), .agg [(S6 f.nm), .sl (u8s f.d) (List.length f.d) .any, (I6 (f.sf))], .ptr 2 (0 + Int.toNat (↑(low l f.nm) : Int) * 3)] ++ UU 13, [⟨[.row 2 0 (List.length l), (I6 room), (I6 arm), (B6 dead)], 4, .fresh⟩, ⟨[(S6 f.nm), .sl (u8s f.d) (List.length f.d) .any, (I6 (f.sf))], 3, .fresh⟩, ⟨fisc l, 3, .fresh⟩]⟩ (by intro x ext; kernel_rfl) (by kernel_rfl) ⟨trivial, ⟨trivial, ⟨trivial, ⟨trivial, ⟨(by omega), ⟨trivial, ⟨(by omega), ⟨⟨⟨(by omega), (by omega)⟩, (by omega)⟩, trivial⟩⟩⟩⟩⟩⟩⟩⟩ ?_
    rw [Int.toNat_natCast (low l f.nm)]
    rw [Nat.zero_add (low l f.nm * 3)]
    refine DerZ.eff 3 (low l f.nm * 3 + 3 ≤ List.length (fisc l)) (.tup []) [⟨[.row 2 0 (List.length l), (I6 room), (I6 arm), (B6 dead)], 4, .fresh⟩, ⟨[(S6 f.nm), .sl (u8s f.d) (List.length f.d) .any, (I6 (f.sf))], 3, .fresh⟩, ⟨spliceA (fisc l) (low l f.nm * 3) [(S6 f.nm), AVal.sl (u8s f.d) (List.length f.d) SlK.any, (I6 f.sf)], 3, .fresh⟩] ⟨[.ptr 0 0, U6, U6, .ptr 1 0, (I6 (↑(low l f.nm) : Int))] ++ UU 18 ++ [(B6 (decide (has l f.nm))), .ptr 0 0, .ptr 0 0, .ptr 0 0, .ptr 0 0, .row 2 0 (List.length l), (I6 (↑(low l f.nm) : Int)), .agg [(S6 f.nm), .sl (u8s f.d) (List.length f.d) .any, (I6 (f.sf))], .ptr 2 (low l f.nm * 3)] ++ UU 13, [⟨[.row 2 0 (List.length l), (I6 room), (I6 arm), (B6 dead)], 4, .fresh⟩, ⟨[(S6 f.nm), .sl (u8s f.d) (List.length f.d) .any, (I6 (f.sf))], 3, .fresh⟩, ⟨spliceA (fisc l) (low l f.nm * 3) [(S6 f.nm), AVal.sl (u8s f.d) (List.length f.d) SlK.any, (I6 f.sf)], 3, .fresh⟩]⟩ (by kernel_rfl) ⟨⟨by kernel_rfl, by kernel_rfl⟩, by kernel_rfl, by kernel_rfl⟩ (by (simp [spliceA_length] <;> omega)) ?_
    rw [Go.Dk.fi_spl (l) (low l f.nm) (by omega) (f.nm) (f.d) (f.sf)]
    refine DerZ.nil ?_
    refine FI (.tup []) ?_
    refine Shrink.trans (Shrink.taken (rows' := [⟨[.sl (List.take (List.length l * 3) (List.drop 0 (fisc (List.set l (low l f.nm) { nm := f.nm, d := f.d, sf := f.sf })))) (List.length l) .any, (I6 room), (I6 arm), (B6 dead)], 4, .fresh⟩, ⟨[(S6 f.nm), .sl (u8s f.d) (List.length f.d) .any, (I6 (f.sf))], 3, .fresh⟩, ⟨fisc (List.set l (low l f.nm) { nm := f.nm, d := f.d, sf := f.sf }), 3, .frozen⟩]) (x' := .tup []) (c := (dataAll (fisc (List.set l (low l f.nm) { nm := f.nm, d := f.d, sf := f.sf })) = true) ∧ (True)) [2] (by kernel_rfl) ⟨(by simp), trivial⟩ rfl) ?_
    ((rw [fi_all (l.set (low l f.nm) f) l.length (by simp)]; exact shr_cut 1 (by kernel_rfl) (by kernel_rfl) (by simp) (WfRows.of (by intro r hr; rw [List.mem_singleton] at hr; subst hr; rfl)) (by kernel_rfl)); done)
  · have h2' := of_decide_eq_false h2
    (exfalso; exact absurd h (by assumption); done)
theorem set_new (l : List FileD) (room arm : Int) (dead : Bool) (hs : Srt l) (hx : l.length ≤ 100) (f : FileD) (h : ¬ has l f.nm) : EvK Try.prog 71 [.ptr 0 0, .agg (fic f)] ⟨[.sl (fisc l) l.length .any, .sc (.int .i64 room), .sc (.int .i64 arm), .sc (.bool dead)], 4, .fresh⟩ (.tup []) ⟨[.sl (fisc (putL l f)) (l.length + 1) .any, .sc (.int .i64 room), .sc (.int .i64 arm), .sc (.bool dead)], 4, .fresh⟩ := by
  refine EvK.ofF ?_ ⟨rfl, rfl, by rfl, by rfl, rfl, rfl, by show 0 < 4; omega, by show 4 ≤ 4; omega, by simp [fic, ltAll, AVal.refLt], rfl⟩
  have hll := low_le l f.nm
  unfold putL
  rw [if_neg h]
  refine EvF.body Try.func71 rfl (fun _ => ?_)
  refine AWP.seq ?_
  refine TO ⟨[.ptr 0 0, .agg [(S6 f.nm), .sl (u8s f.d) (List.length f.d) .any, (I6 (f.sf))]] ++ UU 43, [⟨[.sl (fisc l) (List.length l) .any, (I6 room), (I6 arm), (B6 dead)], 4, .fresh⟩]⟩ ?_
  refine AWP.reg (RT 1 ?_)
  refine AWP.seq (KL [1] ⟨[.ptr 0 0, U6, U6, .ptr 1 0] ++ UU 41, [⟨[.sl (fisc l) (List.length l) .any, (I6 room), (I6 arm), (B6 dead)], 4, .fresh⟩, ⟨[(S6 f.nm), .sl (u8s f.d) (List.length f.d) .any, (I6 (f.sf))], 3, .fresh⟩]⟩ ?_)
  refine AWP.reg (PI 3 (True ∧ True ∧ 0 < 3 ∧ True) ⟨trivial, trivial, (by omega), trivial⟩ ?_)
  refine DerQ.callK (place l room arm dead hs (by omega) f.nm) 0 [.ptr 0 0, (S6 f.nm)] ⟨[.ptr 0 0, U6, U6, .ptr 1 0, U6, U6, U6, .ptr 0 0, .ptr 1 0, (S6 f.nm), .tup [(I6 (↑(low l f.nm) : Int)), (B6 (decide (has l f.nm)))]] ++ UU 34, [⟨[.sl (fisc l) (List.length l) .any, (I6 room), (I6 arm), (B6 dead)], 4, .fresh⟩, ⟨[(S6 f.nm), .sl (u8s f.d) (List.length f.d) .any, (I6 (f.sf))], 3, .fresh⟩]⟩ ⟨by kernel_rfl, by kernel_rfl, by kernel_rfl, by kernel_rfl, by kernel_rfl⟩ ?_
  refine RT 5 ?_
  refine AWP.seq (KL (NN 6 7) ⟨[.ptr 0 0, U6, U6, .ptr 1 0, (I6 (↑(low l f.nm) : Int)), (B6 (decide (has l f.nm)))] ++ UU 39, [⟨[.sl (fisc l) (List.length l) .any, (I6 room), (I6 arm), (B6 dead)], 4, .fresh⟩, ⟨[(S6 f.nm), .sl (u8s f.d) (List.length f.d) .any, (I6 (f.sf))], 3, .fresh⟩]⟩ ?_)
  refine AWP.reg (PI 6 (True ∧ True ∧ True ∧ True ∧ True ∧ 0 < 4 ∧ True) ⟨trivial, trivial, trivial, trivial, trivial, (by omega), trivial⟩ ?_)
  refine DerQ.callAI (ficlone l (by omega)) ⟨by kernel_rfl, by kernel_rfl⟩ ?_
  refine RI (True ∧ True ∧ True ∧ 1 ≤ 4 ∧ True) ⟨trivial, trivial, trivial, (by omega), trivial⟩ ?_
  refine AWP.seq (KL (NN 13 10) ⟨[.ptr 0 0, U6, U6, .ptr 1 0, (I6 (↑(low l f.nm) : Int)), (B6 (decide (has l f.nm)))] ++ UU 39, [⟨[.row 2 0 (List.length l), (I6 room), (I6 arm), (B6 dead)], 4, .fresh⟩, ⟨[(S6 f.nm), .sl (u8s f.d) (List.length f.d) .any, (I6 (f.sf))], 3, .fresh⟩, ⟨fisc l, 3, .fresh⟩]⟩ ?_)
  refine AWP.reg (RT 1 ?_)
  refine KL [5] ⟨[.ptr 0 0, U6, U6, .ptr 1 0, (I6 (↑(low l f.nm) : Int))] ++ UU 18 ++ [(B6 (decide (has l f.nm)))] ++ UU 21, [⟨[.row 2 0 (List.length l), (I6 room), (I6 arm), (B6 dead)], 4, .fresh⟩, ⟨[(S6 f.nm), .sl (u8s f.d) (List.length f.d) .any, (I6 (f.sf))], 3, .fresh⟩, ⟨fisc l, 3, .fresh⟩]⟩ ?_
  refine CN (decide (has l f.nm)) (fun h1 => ?_) (fun h1 => ?_)
  · have h1' := of_decide_eq_true h1
    (exfalso; exact absurd (by assumption) h; done)
  · have h1' := of_decide_eq_false h1
    refine AWP.drawT mixed (fun o => kindOf [(37, 4), (41, 3), (1044, 4)] (keyW o)) 0 (fun x => [⟨Row.cells (x 0), 4, .fresh⟩, ⟨[(S6 f.nm), .sl (u8s f.d) (List.length f.d) .any, (I6 (f.sf))], 3, .fresh⟩, x 2]) ⟨[.ptr 0 0, U6, U6, .ptr 1 0, (I6 (↑(low l f.nm) : Int))] ++ UU 18 ++ [(B6 (decide (has l f.nm)))] ++ UU 21, [⟨[.row 2 0 (List.length l), (I6 room), (I6 arm), (B6 dead)], 4, .fresh⟩, ⟨[(S6 f.nm), .sl (u8s f.d) (List.length f.d) .any, (I6 (f.sf))], 3, .fresh⟩, ⟨fisc l, 3, .fresh⟩]⟩ (by kernel_rfl) (by kernel_rfl) (by kernel_rfl) ?_
    refine DerU.preI 5 ((True) ∧ ((True) ∧ ((True) ∧ ((True) ∧ ((True) ∧ (True)))))) (by intro x ext; kernel_rfl) ⟨trivial, ⟨trivial, ⟨trivial, ⟨trivial, ⟨trivial, trivial⟩⟩⟩⟩⟩ ?_
    refine DerU.touchI 0 ((0 : Nat) < (4 : Nat)) (by intro x ext; kernel_rfl) ⟨by kernel_rfl, by kernel_rfl, by kernel_rfl, (by intro x; kernel_rfl), (by intro x; kernel_rfl), (by intro x; kernel_rfl)⟩ (by omega) ?_
    refine DerU.preI 3 ((True) ∧ (((3 : Nat) ≤ (3 : Nat)) ∧ ((True) ∧ (True)))) (by intro x ext; kernel_rfl) ⟨trivial, ⟨(by omega), ⟨trivial, trivial⟩⟩⟩ ?_
    refine DerU.callK (fi_insert l (low l f.nm) f hll (by omega)) 3 2 [.row 2 0 (List.length l), (I6 (↑(low l f.nm) : Int)), .sl [(S6 f.nm), .sl (u8s f.d) (List.length f.d) .any, (I6 (f.sf))] 1 .nn] ⟨[.ptr 0 0, U6, U6, .ptr 1 0, (I6 (↑(low l f.nm) : Int))] ++ UU 18 ++ [(B6 (decide (has l f.nm)))] ++ UU 8 ++ [.ptr 0 0, .ptr 0 0, .ptr 0 0, .ptr 0 0, .ptr 0 0, .row 2 0 (List.length l), (I6 (↑(low l f.nm) : Int)), .agg [(S6 f.nm), .sl (u8s f.d) (List.length f.d) .any, (I6 (f.sf))], .sl [(S6 f.nm), .sl (u8s f.d) (List.length f.d) .any, (I6 (f.sf))] 1 .nn, .sl (fisc (insD l (low l f.nm) f)) (List.length l + 1) .any, U6, U6, .undef], [⟨[.row 2 0 (List.length l), (I6 room), (I6 arm), (B6 dead)], 4, .fresh⟩, ⟨[(S6 f.nm), .sl (u8s f.d) (List.length f.d) .any, (I6 (f.sf))], 3, .fresh⟩, ⟨[], 3, .dead⟩]⟩ ⟨⟨by kernel_rfl, by kernel_rfl⟩, by kernel_rfl, by kernel_rfl, by kernel_rfl, by kernel_rfl, by kernel_rfl⟩ ?_
    refine DerU.pre 3 ((True) ∧ ((True) ∧ ((True) ∧ (True)))) [.ptr 0 0, .ptr 0 0, .ptr 0 0] ⟨[.ptr 0 0, U6, U6, .ptr 1 0, (I6 (↑(low l f.nm) : Int))] ++ UU 18 ++ [(B6 (decide (has l f.nm)))] ++ UU 8 ++ [.ptr 0 0, .ptr 0 0, .ptr 0 0, .ptr 0 0, .ptr 0 0, .row 2 0 (List.length l), (I6 (↑(low l f.nm) : Int)), .agg [(S6 f.nm), .sl (u8s f.d) (List.length f.d) .any, (I6 (f.sf))], .sl [(S6 f.nm), .sl (u8s f.d) (List.length f.d) .any, (I6 (f.sf))] 1 .nn, .sl (fisc (insD l (low l f.nm) f)) (List.length l + 1) .any, .ptr 0 0, .ptr 0 0, .ptr 0 0], [⟨[.row 2 0 (List.length l), (I6 room), (I6 arm), (B6 dead)], 4, .fresh⟩, ⟨[(S6 f.nm), .sl (u8s f.d) (List.length f.d) .any, (I6 (f.sf))], 3, .fresh⟩, ⟨[], 3, .dead⟩]⟩ (by intro x ext; kernel_rfl) (by kernel_rfl) ⟨trivial, ⟨trivial, ⟨trivial, trivial⟩⟩⟩ ?_
    refine DerU.touch 0 ⟨[.row 2 0 (List.length l), (I6 room), (I6 arm), (B6 dead)], 4, .fresh⟩ ⟨[.sl (fisc (insD l (low l f.nm) f)) (List.length l + 1) .any, (I6 room), (I6 arm), (B6 dead)], 4, .fresh⟩ ((1 : Nat) ≤ (4 : Nat)) (.tup []) ⟨[.ptr 0 0, U6, U6, .ptr 1 0, (I6 (↑(low l f.nm) : Int))] ++ UU 18 ++ [(B6 (decide (has l f.nm)))] ++ UU 8 ++ [.ptr 0 0, .ptr 0 0, .ptr 0 0, .ptr 0 0, .ptr 0 0, .row 2 0 (List.length l), (I6 (↑(low l f.nm) : Int)), .agg [(S6 f.nm), .sl (u8s f.d) (List.length f.d) .any, (I6 (f.sf))], .sl [(S6 f.nm), .sl (u8s f.d) (List.length f.d) .any, (I6 (f.sf))] 1 .nn, .sl (fisc (insD l (low l f.nm) f)) (List.length l + 1) .any, .ptr 0 0, .ptr 0 0, .ptr 0 0], [⟨[.sl (fisc (insD l (low l f.nm) f)) (List.length l + 1) .any, (I6 room), (I6 arm), (B6 dead)], 4, .fresh⟩, ⟨[(S6 f.nm), .sl (u8s f.d) (List.length f.d) .any, (I6 (f.sf))], 3, .fresh⟩, ⟨[], 3, .dead⟩]⟩ (by intro x ext; kernel_rfl) ⟨by kernel_rfl, by kernel_rfl, by kernel_rfl, (by intro x; kernel_rfl), (by intro x; kernel_rfl), (by intro x; kernel_rfl), by kernel_rfl⟩ (by omega) ?_
    refine DerU.nil ?_
    refine FI (.tup []) ?_
    (exact shr_cut 1 (by kernel_rfl) (by kernel_rfl) (by simp) (WfRows.of (by intro r hr; rw [List.mem_singleton] at hr; subst hr; rfl)) (by kernel_rfl); done)
end Go.Dk
