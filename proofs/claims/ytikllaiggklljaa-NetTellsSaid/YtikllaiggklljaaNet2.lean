/- Walks and laws. -/
import Derived.Test.YtikllaiggklljaaNet1
import Derived.Test.YtikllaiggklljaaLibC
set_option maxRecDepth 100000
set_option maxHeartbeats 0
set_option linter.unusedSimpArgs false
set_option linter.unusedVariables false
namespace Go.Net
open Go Go.Abs Go.Proofs
theorem tk_all (d : List Int) : List.take (List.length d) d = d := List.take_length
theorem fl_tk (l : List FlD) (k : Nat) : List.take (k * 4) (flsc l) = flsc (List.take k l) := (recs_take flc 4 (fun _ => rfl) l k).symm
theorem fl_dr (l : List FlD) (k : Nat) : List.drop (k * 4) (flsc l) = flsc (List.drop k l) := (recs_drop flc 4 (fun _ => rfl) l k).symm
theorem fl_apps (a b : List FlD) : flsc a ++ flsc b = flsc (a ++ b) := by simp [flsc]
theorem fl_spl (l : List FlD) (k : Nat) (h : k < l.length) (a b : Int) (d : List Int) (s : Bool) : spliceA (flsc l) (k * 4) [.sc (.int .i64 a), .sc (.int .i64 b), .sl (u8s d) (List.length d) .any, .sc (.bool s)] = flsc (l.set k ⟨a, b, d, s⟩) := by
  have hlen : (spliceA (flsc l) (k * 4) (flc ⟨a, b, d, s⟩)).length = (flsc (l.set k ⟨a, b, d, s⟩)).length := by rw [spliceA_length, flsc_length, flsc_length, List.length_set]
  apply List.ext_getElem hlen
  intro j h1 h2
  have hj : j < l.length * 4 := by rw [flsc_length, List.length_set] at h2; exact h2
  have g1 : (spliceA (flsc l) (k * 4) (flc ⟨a, b, d, s⟩)).getD j .undef = (spliceA (flsc l) (k * 4) (flc ⟨a, b, d, s⟩))[j] := by rw [List.getD_eq_getElem?_getD, List.getElem?_eq_getElem h1]; rfl
  have g2 : (flsc (l.set k ⟨a, b, d, s⟩)).getD j .undef = (flsc (l.set k ⟨a, b, d, s⟩))[j] := by rw [List.getD_eq_getElem?_getD, List.getElem?_eq_getElem h2]; rfl
  show (spliceA (flsc l) (k * 4) (flc ⟨a, b, d, s⟩))[j] = _
  rw [← g1, ← g2, spliceA_getD (flc ⟨a, b, d, s⟩) (flsc l) (k * 4) j (by rw [flsc_length]; show k * 4 + 4 ≤ _; omega)]
  have hd : j = j / 4 * 4 + j % 4 := by omega
  have e1 : (flsc (l.set k ⟨a, b, d, s⟩)).getD j .undef = (flc ((l.set k ⟨a, b, d, s⟩).getD (j / 4) fl0)).getD (j % 4) .undef := by
    rw [hd]
    have := recs_get flc 4 (fun _ => rfl) fl0 (l.set k ⟨a, b, d, s⟩) (j / 4) (j % 4) (by rw [List.length_set]; omega) (by omega)
    rw [show (j / 4 * 4 + j % 4) / 4 = j / 4 by omega, show (j / 4 * 4 + j % 4) % 4 = j % 4 by omega]
    exact this
  have e2 : (flsc l).getD j .undef = (flc (l.getD (j / 4) fl0)).getD (j % 4) .undef := by
    rw [hd]
    have := recs_get flc 4 (fun _ => rfl) fl0 l (j / 4) (j % 4) (by omega) (by omega)
    rw [show (j / 4 * 4 + j % 4) / 4 = j / 4 by omega, show (j / 4 * 4 + j % 4) % 4 = j % 4 by omega]
    exact this
  rw [e1, e2]
  by_cases hq : j / 4 = k
  · rw [if_pos ⟨by omega, by show j < k * 4 + 4; omega⟩]
    have e3 : (l.set k ⟨a, b, d, s⟩).getD (j / 4) fl0 = ⟨a, b, d, s⟩ := by rw [hq, List.getD_eq_getElem?_getD, List.getElem?_set_self h]; rfl
    rw [e3, show j - k * 4 = j % 4 by omega]
  · rw [if_neg (by rintro ⟨h3, h4⟩; have h4 : j < k * 4 + 4 := h4; omega)]
    have e3 : (l.set k ⟨a, b, d, s⟩).getD (j / 4) fl0 = l.getD (j / 4) fl0 := by rw [List.getD_eq_getElem?_getD, List.getElem?_set_ne (fun h => hq h.symm), ← List.getD_eq_getElem?_getD]
    rw [e3]
theorem tn1 (k : Nat) : Int.toNat ((↑k : Int) + 1) = k + 1 := by omega
theorem tkdr (l : List FlD) (k : Nat) : List.take (List.length l - (k + 1)) (List.drop (k + 1) l) = List.drop (k + 1) l := List.take_of_length_le (by rw [List.length_drop]; exact Nat.le_refl _)
theorem fl_dd (a b : List FlD) : dataAll (flsc a ++ flsc b) = true := by rw [fl_apps]; simp
def addL (l : List FlD) (next : Int) (f : FlD) : List FlD := l ++ [⟨next, f.to, f.d, f.sp⟩]
theorem addL_len (l : List FlD) (next : Int) (f : FlD) : (addL l next f).length = l.length + 1 := by simp [addL]
theorem r_more_ok (l : List FlD) (next : Int) (hx : l.length ≤ 1000) (hn : -9223372036854775808 ≤ next ∧ next ≤ 9223372036854775807) (f : FlD) (hf : f.d.length ≤ 100000) (h : next < 1073741824) : EvD Try.prog 61 [.agg [.sl (flsc l) l.length .any, .sc (.int .i64 next)], .agg (flc f)] (.tup [.agg [.sl (flsc (addL l next f)) (addL l next f).length .any, .sc (.int .i64 (next + 1))], .sc (.int .i64 next), .sc (.int .i64 0)]) := by
  rw [addL_len]
  unfold addL
  refine EvD.body Try.func61 rfl (by simp [flc, dataAll, AVal.data, *]) (by simp [flc, dataAll, AVal.data, *]) ?_
  refine AWP.seq ?_
  refine TO ⟨[.agg [.sl (flsc l) (List.length l) .any, (I6 next)], .agg [(I6 (f.num)), (I6 (f.to)), .sl (u8s f.d) (List.length f.d) .any, (B6 f.sp)]] ++ UU 38, []⟩ ?_
  refine AWP.reg (RT 5 ?_)
  refine AWP.seq (AWP.seq (KL [0, 1] ⟨[U6, U6, .ptr 0 0, .ptr 1 0, .ptr 2 0, (I6 0), (I6 0)] ++ UU 33, [⟨[.sl (flsc l) (List.length l) .any, (I6 next)], 2, .fresh⟩, ⟨[(I6 (f.num)), (I6 (f.to)), .sl (u8s f.d) (List.length f.d) .any, (B6 f.sp)], 4, .fresh⟩, ⟨[.sl [] 0 .nil, (I6 0)], 2, .fresh⟩]⟩ ?_))
  refine AWP.reg (PI 5 (True ∧ 0 < 2 ∧ True ∧ True ∧ True ∧ True) ⟨trivial, (by omega), trivial, trivial, trivial, trivial⟩ ?_)
  refine DerQ.to ⟨[U6, U6, .ptr 0 0, .ptr 1 0, .ptr 2 0, (I6 0), (I6 0), .ptr 0 0, .sl (flsc l) (List.length l) .any, (I6 (↑(List.length l) : Int)), (B6 (decide ((↑(List.length l) : Int) ≥ 4096))), (B6 (decide ((↑(List.length l) : Int) ≥ 4096)))] ++ UU 28, [⟨[.sl (flsc l) (List.length l) .any, (I6 next)], 2, .fresh⟩, ⟨[(I6 (f.num)), (I6 (f.to)), .sl (u8s f.d) (List.length f.d) .any, (B6 f.sp)], 4, .fresh⟩, ⟨[.sl [] 0 .nil, (I6 0)], 2, .fresh⟩]⟩ (by kernel_rfl) ?_
  cases h1 : (decide ((↑(List.length l) : Int) ≥ 4096))
  · have h1' := of_decide_eq_false h1
    refine RI (True ∧ 1 < 2 ∧ True ∧ True ∧ True) ⟨trivial, (by omega), trivial, trivial, trivial⟩ ?_
    refine KL (NN 7 8) ⟨[U6, U6, .ptr 0 0, .ptr 1 0, .ptr 2 0, (I6 0), (I6 0)] ++ UU 8 ++ [(B6 (decide (next ≥ 1073741824)))] ++ UU 24, [⟨[.sl (flsc l) (List.length l) .any, (I6 next)], 2, .fresh⟩, ⟨[(I6 (f.num)), (I6 (f.to)), .sl (u8s f.d) (List.length f.d) .any, (B6 f.sp)], 4, .fresh⟩, ⟨[.sl [] 0 .nil, (I6 0)], 2, .fresh⟩]⟩ ?_
    refine CN (decide (next ≥ 1073741824)) (fun h2 => ?_) (fun h2 => ?_)
    · have h2' := of_decide_eq_true h2
      exfalso; omega
    · have h2' := of_decide_eq_false h2
      refine AWP.skip (SQ (RI (True ∧ 1 < 2 ∧ True ∧ 1 ≤ 4 ∧ True) ⟨trivial, (by omega), trivial, (by omega), trivial⟩ ?_))
      refine AWP.seq (KL [15, 17, 18, 19] ⟨[U6, U6, .ptr 0 0, .ptr 1 0, .ptr 2 0, (I6 0), (I6 0)] ++ UU 33, [⟨[.sl (flsc l) (List.length l) .any, (I6 next)], 2, .fresh⟩, ⟨[(I6 next), (I6 (f.to)), .sl (u8s f.d) (List.length f.d) .any, (B6 f.sp)], 4, .fresh⟩, ⟨[.sl [] 0 .nil, (I6 0)], 2, .fresh⟩]⟩ ?_)
      refine AWP.reg (RI (True ∧ True ∧ 2 < 4 ∧ ((List.length (u8s f.d) = List.length f.d * 1) ∧ (List.length f.d ≤ 1073741824)) ∧ True ∧ 3 ≤ 4 ∧ True) ⟨trivial, trivial, (by omega), ⟨(by simp), (by omega)⟩, trivial, (by omega), trivial⟩ ?_)
      refine AWP.seq ?_
      refine AWP.fro [3] ((dataAll (u8s f.d) = true) ∧ (True)) ⟨[U6, U6, .ptr 0 0, .ptr 1 0, .ptr 2 0, (I6 0), (I6 0)] ++ UU 13 ++ [.sl [] 0 .cap0, .ptr 1 2, .sl (u8s f.d) (List.length f.d) .any, .sl (List.take (List.length f.d * 1) (List.drop 0 (u8s f.d))) (List.length f.d) .any, .ptr 1 2] ++ UU 15, [⟨[.sl (flsc l) (List.length l) .any, (I6 next)], 2, .fresh⟩, ⟨[(I6 next), (I6 (f.to)), .sl (List.take (List.length f.d * 1) (List.drop 0 (u8s f.d))) (List.length f.d) .any, (B6 f.sp)], 4, .fresh⟩, ⟨[.sl [] 0 .nil, (I6 0)], 2, .fresh⟩, ⟨u8s f.d, 1, .frozen⟩]⟩ (by kernel_rfl) ⟨(by exact dataAll_u8s _), trivial⟩ ?_
      refine KL (NN 20 5) ⟨[U6, U6, .ptr 0 0, .ptr 1 0, .ptr 2 0, (I6 0), (I6 0)] ++ UU 33, [⟨[.sl (flsc l) (List.length l) .any, (I6 next)], 2, .fresh⟩, ⟨[(I6 next), (I6 (f.to)), .sl (List.take (List.length f.d * 1) (List.drop 0 (u8s f.d))) (List.length f.d) .any, (B6 f.sp)], 4, .fresh⟩, ⟨[.sl [] 0 .nil, (I6 0)], 2, .fresh⟩, ⟨u8s f.d, 1, .frozen⟩]⟩ ?_
      refine AWP.drawB mixed (fun o => if [].contains (o.dst.getD 0) then 1 else if [].contains (o.dst.getD 0) then 2 else if [28, 31, 0, 27].contains (o.dst.getD 0) then 3 else 0) 0 4 (fun x => [⟨x 0, 2, .fresh⟩, ⟨[(I6 next), (I6 (f.to)), .sl (List.take (List.length f.d * 1) (List.drop 0 (u8s f.d))) (List.length f.d) .any, (B6 f.sp)], 4, .fresh⟩, ⟨[.sl [] 0 .nil, (I6 0)], 2, .fresh⟩, ⟨u8s f.d, 1, .frozen⟩]) ⟨[U6, U6, .ptr 0 0, .ptr 1 0, .ptr 2 0, (I6 0), (I6 0)] ++ UU 33, [⟨[.sl (flsc l) (List.length l) .any, (I6 next)], 2, .fresh⟩, ⟨[(I6 next), (I6 (f.to)), .sl (List.take (List.length f.d * 1) (List.drop 0 (u8s f.d))) (List.length f.d) .any, (B6 f.sp)], 4, .fresh⟩, ⟨[.sl [] 0 .nil, (I6 0)], 2, .fresh⟩, ⟨u8s f.d, 1, .frozen⟩]⟩ (by kernel_rfl) ⟨by kernel_rfl, by kernel_rfl⟩ (by kernel_rfl) ?_
      refine DerZ.pre 2 ((True) ∧ ((True) ∧ (True))) [.sl [] 0 .cap0, .ptr 0 0] ⟨[U6, U6, .ptr 0 0, .ptr 1 0, .ptr 2 0, (I6 0), (I6 0)] ++ UU 18 ++ [.sl [] 0 .cap0, .ptr 0 0] ++ UU 13, [⟨[.sl (flsc l) (List.length l) .any, (I6 next)], 2, .fresh⟩, ⟨[(I6 next), (I6 (f.to)), .sl (List.take (List.length f.d * 1) (List.drop 0 (u8s f.d))) (List.length f.d) .any, (B6 f.sp)], 4, .fresh⟩, ⟨[.sl [] 0 .nil, (I6 0)], 2, .fresh⟩, ⟨u8s f.d, 1, .frozen⟩]⟩ (by intro x ext; kernel_rfl) (by kernel_rfl) ⟨trivial, ⟨trivial, trivial⟩⟩ ?_
      rw [Nat.mul_one (List.length f.d)]
      rw [List.drop_zero]
      rw [Go.Abs.u8s_take (List.length f.d) (f.d)]
      rw [Go.Net.tk_all (f.d)]
      refine DerZ.effI 4 ((0 : Nat) < (2 : Nat)) (by kernel_rfl) ⟨⟨by kernel_rfl, by kernel_rfl⟩, by kernel_rfl⟩ (by omega) ?_
      refine DerZ.effI 4 ((List.length (flsc l) = List.length l * 4) ∧ (List.length l ≤ 1073741824)) (by kernel_rfl) ⟨⟨by kernel_rfl, by kernel_rfl⟩, by kernel_rfl⟩ ⟨(by simp), (by omega)⟩ ?_
      refine DerZ.preI 2 (((4 : Nat) ≤ (4 : Nat)) ∧ ((True) ∧ (True))) (by intro x ext; kernel_rfl) ⟨(by omega), ⟨trivial, trivial⟩⟩ ?_
      refine DerZ.eff 4 (((4 : Nat) = (4 : Nat)) ∧ (((4 : Nat) = (4 : Nat)) ∧ ((List.length l * 4 = List.length (flsc l)) ∧ ((List.length l + 1 ≤ 1073741824) ∧ ((dataAll (flsc l ++ [(I6 next), (I6 f.to), AVal.sl (u8s f.d) (List.length f.d) SlK.any, (B6 f.sp)]) = true) ∧ (∀ (i : Nat), i < 4 → AVal.one (List.getD [(I6 next), (I6 f.to), AVal.sl (u8s f.d) (List.length f.d) SlK.any, (B6 f.sp)] i AVal.undef) = true)))))) (.row 4 0 (List.length l + 1)) [⟨[.sl (flsc l) (List.length l) .any, (I6 next)], 2, .fresh⟩, ⟨[(I6 next), (I6 (f.to)), .sl (u8s f.d) (List.length f.d) .any, (B6 f.sp)], 4, .fresh⟩, ⟨[.sl [] 0 .nil, (I6 0)], 2, .fresh⟩, ⟨u8s f.d, 1, .frozen⟩, ⟨flsc l ++ [(I6 next), (I6 f.to), AVal.sl (u8s f.d) (List.length f.d) SlK.any, (B6 f.sp)], 4, .grown⟩] ⟨[U6, U6, .ptr 0 0, .ptr 1 0, .ptr 2 0, (I6 0), (I6 0)] ++ UU 18 ++ [.sl [] 0 .cap0, .ptr 0 0, .sl (flsc l) (List.length l) .any, .row 4 0 (List.length l), .agg [(I6 next), (I6 (f.to)), .sl (u8s f.d) (List.length f.d) .any, (B6 f.sp)], .sl [(I6 next), (I6 (f.to)), .sl (u8s f.d) (List.length f.d) .any, (B6 f.sp)] 1 .nn, .row 4 0 (List.length l + 1)] ++ UU 8, [⟨[.sl (flsc l) (List.length l) .any, (I6 next)], 2, .fresh⟩, ⟨[(I6 next), (I6 (f.to)), .sl (u8s f.d) (List.length f.d) .any, (B6 f.sp)], 4, .fresh⟩, ⟨[.sl [] 0 .nil, (I6 0)], 2, .fresh⟩, ⟨u8s f.d, 1, .frozen⟩, ⟨flsc l ++ [(I6 next), (I6 f.to), AVal.sl (u8s f.d) (List.length f.d) SlK.any, (B6 f.sp)], 4, .grown⟩]⟩ (by kernel_rfl) ⟨⟨by kernel_rfl, by kernel_rfl⟩, by kernel_rfl, by kernel_rfl⟩ ⟨(by omega), ⟨(by omega), ⟨(by simp), ⟨(by omega), ⟨(by (exact fl_dat _ _ _ _ _)), (by (exact fl_ones _ _ _ _))⟩⟩⟩⟩⟩ ?_
      rw [Go.Net.fl_app (l) (next) (f.to) (f.d) (f.sp)]
      refine DerZ.quiet (True) (.ptr 0 0) ⟨[U6, U6, .ptr 0 0, .ptr 1 0, .ptr 2 0, (I6 0), (I6 0)] ++ UU 18 ++ [.sl [] 0 .cap0, .ptr 0 0, .sl (flsc l) (List.length l) .any, .row 4 0 (List.length l), .agg [(I6 next), (I6 (f.to)), .sl (u8s f.d) (List.length f.d) .any, (B6 f.sp)], .sl [(I6 next), (I6 (f.to)), .sl (u8s f.d) (List.length f.d) .any, (B6 f.sp)] 1 .nn, .row 4 0 (List.length l + 1), .ptr 0 0] ++ UU 7, [⟨[.sl (flsc l) (List.length l) .any, (I6 next)], 2, .fresh⟩, ⟨[(I6 next), (I6 (f.to)), .sl (u8s f.d) (List.length f.d) .any, (B6 f.sp)], 4, .fresh⟩, ⟨[.sl [] 0 .nil, (I6 0)], 2, .fresh⟩, ⟨u8s f.d, 1, .frozen⟩, ⟨flsc (l ++ [{ num := next, to := f.to, d := f.d, sp := f.sp }]), 4, .grown⟩]⟩ (by intro x ext; kernel_rfl) ⟨by kernel_rfl, by kernel_rfl⟩ trivial ?_
      refine DerZ.eff 4 ((1 : Nat) ≤ (2 : Nat)) (.tup []) [⟨[.row 4 0 (List.length l + 1), (I6 next)], 2, .fresh⟩, ⟨[(I6 next), (I6 (f.to)), .sl (u8s f.d) (List.length f.d) .any, (B6 f.sp)], 4, .fresh⟩, ⟨[.sl [] 0 .nil, (I6 0)], 2, .fresh⟩, ⟨u8s f.d, 1, .frozen⟩, ⟨flsc (l ++ [{ num := next, to := f.to, d := f.d, sp := f.sp }]), 4, .grown⟩] ⟨[U6, U6, .ptr 0 0, .ptr 1 0, .ptr 2 0, (I6 0), (I6 0)] ++ UU 18 ++ [.sl [] 0 .cap0, .ptr 0 0, .sl (flsc l) (List.length l) .any, .row 4 0 (List.length l), .agg [(I6 next), (I6 (f.to)), .sl (u8s f.d) (List.length f.d) .any, (B6 f.sp)], .sl [(I6 next), (I6 (f.to)), .sl (u8s f.d) (List.length f.d) .any, (B6 f.sp)] 1 .nn, .row 4 0 (List.length l + 1), .ptr 0 0] ++ UU 7, [⟨[.row 4 0 (List.length l + 1), (I6 next)], 2, .fresh⟩, ⟨[(I6 next), (I6 (f.to)), .sl (u8s f.d) (List.length f.d) .any, (B6 f.sp)], 4, .fresh⟩, ⟨[.sl [] 0 .nil, (I6 0)], 2, .fresh⟩, ⟨u8s f.d, 1, .frozen⟩, ⟨flsc (l ++ [{ num := next, to := f.to, d := f.d, sp := f.sp }]), 4, .grown⟩]⟩ (by kernel_rfl) ⟨⟨by kernel_rfl, by kernel_rfl⟩, by kernel_rfl, by kernel_rfl⟩ (by omega) ?_
      refine DerZ.nil ?_
      refine AWP.seq ?_
      refine AWP.fro [4] ((dataAll (flsc (l ++ [{ num := next, to := f.to, d := f.d, sp := f.sp }])) = true) ∧ (True)) ⟨[U6, U6, .ptr 0 0, .ptr 1 0, .ptr 2 0, (I6 0), (I6 0)] ++ UU 18 ++ [.sl [] 0 .cap0, .ptr 0 0, .sl (flsc l) (List.length l) .any, .sl (List.take (List.length l * 4) (List.drop 0 (flsc (l ++ [{ num := next, to := f.to, d := f.d, sp := f.sp }])))) (List.length l) .any, .agg [(I6 next), (I6 (f.to)), .sl (u8s f.d) (List.length f.d) .any, (B6 f.sp)], .sl [(I6 next), (I6 (f.to)), .sl (u8s f.d) (List.length f.d) .any, (B6 f.sp)] 1 .nn, .sl (List.take ((List.length l + 1) * 4) (List.drop 0 (flsc (l ++ [{ num := next, to := f.to, d := f.d, sp := f.sp }])))) (List.length l + 1) .any, .ptr 0 0] ++ UU 7, [⟨[.sl (List.take ((List.length l + 1) * 4) (List.drop 0 (flsc (l ++ [{ num := next, to := f.to, d := f.d, sp := f.sp }])))) (List.length l + 1) .any, (I6 next)], 2, .fresh⟩, ⟨[(I6 next), (I6 (f.to)), .sl (u8s f.d) (List.length f.d) .any, (B6 f.sp)], 4, .fresh⟩, ⟨[.sl [] 0 .nil, (I6 0)], 2, .fresh⟩, ⟨u8s f.d, 1, .frozen⟩, ⟨flsc (l ++ [{ num := next, to := f.to, d := f.d, sp := f.sp }]), 4, .frozen⟩]⟩ (by kernel_rfl) ⟨(by simp), trivial⟩ ?_
      refine KL (NN 25 8) ⟨[U6, U6, .ptr 0 0, .ptr 1 0, .ptr 2 0, (I6 0), (I6 0)] ++ UU 33, [⟨[.sl (List.take ((List.length l + 1) * 4) (List.drop 0 (flsc (l ++ [{ num := next, to := f.to, d := f.d, sp := f.sp }])))) (List.length l + 1) .any, (I6 next)], 2, .fresh⟩, ⟨[(I6 next), (I6 (f.to)), .sl (u8s f.d) (List.length f.d) .any, (B6 f.sp)], 4, .fresh⟩, ⟨[.sl [] 0 .nil, (I6 0)], 2, .fresh⟩, ⟨u8s f.d, 1, .frozen⟩, ⟨flsc (l ++ [{ num := next, to := f.to, d := f.d, sp := f.sp }]), 4, .frozen⟩]⟩ ?_
      refine AWP.reg ?_
      refine DerQ.run (True ∧ 1 < 2 ∧ True ∧ True ∧ 2 ≤ 2 ∧ True) ⟨[U6, U6, .ptr 0 0, .ptr 1 0, .ptr 2 0, (I6 0), (I6 0)] ++ UU 26 ++ [.ptr 0 1, (I6 next), (I6 (IntKind.wrap IntKind.i64 (next + 1))), .ptr 0 1, U6, U6, .undef], [⟨[.sl (List.take ((List.length l + 1) * 4) (List.drop 0 (flsc (l ++ [{ num := next, to := f.to, d := f.d, sp := f.sp }])))) (List.length l + 1) .any, (I6 (IntKind.wrap IntKind.i64 (next + 1)))], 2, .fresh⟩, ⟨[(I6 next), (I6 (f.to)), .sl (u8s f.d) (List.length f.d) .any, (B6 f.sp)], 4, .fresh⟩, ⟨[.sl [] 0 .nil, (I6 0)], 2, .fresh⟩, ⟨u8s f.d, 1, .frozen⟩, ⟨flsc (l ++ [{ num := next, to := f.to, d := f.d, sp := f.sp }]), 4, .frozen⟩]⟩ (by kernel_rfl) ⟨trivial, (by omega), trivial, trivial, (by omega), trivial⟩ ?_
      rw [IntWalk.i64_in (next + 1) (by omega)]
      rw [List.drop_zero]
      refine AWP.seq (KL [33, 34, 35, 36] ⟨[U6, U6, .ptr 0 0, .ptr 1 0, .ptr 2 0, (I6 0), (I6 0)] ++ UU 33, [⟨[.sl (List.take ((List.length l + 1) * 4) (flsc (l ++ [{ num := next, to := f.to, d := f.d, sp := f.sp }]))) (List.length l + 1) .any, (I6 (next + 1))], 2, .fresh⟩, ⟨[(I6 next), (I6 (f.to)), .sl (u8s f.d) (List.length f.d) .any, (B6 f.sp)], 4, .fresh⟩, ⟨[.sl [] 0 .nil, (I6 0)], 2, .fresh⟩, ⟨u8s f.d, 1, .frozen⟩, ⟨flsc (l ++ [{ num := next, to := f.to, d := f.d, sp := f.sp }]), 4, .frozen⟩]⟩ ?_)
      refine AWP.drawB mixed (fun o => if [].contains (o.dst.getD 0) then 1 else if [].contains (o.dst.getD 0) then 2 else if [0].contains (o.dst.getD 0) then 3 else 0) 0 5 (fun x => [⟨[.sl (List.take ((List.length l + 1) * 4) (flsc (l ++ [{ num := next, to := f.to, d := f.d, sp := f.sp }]))) (List.length l + 1) .any, (I6 (next + 1))], 2, .fresh⟩, ⟨[(I6 next), (I6 (f.to)), .sl (u8s f.d) (List.length f.d) .any, (B6 f.sp)], 4, .fresh⟩, ⟨x 2, 2, .fresh⟩, ⟨u8s f.d, 1, .frozen⟩, ⟨flsc (l ++ [{ num := next, to := f.to, d := f.d, sp := f.sp }]), 4, .frozen⟩]) ⟨[U6, U6, .ptr 0 0, .ptr 1 0, .ptr 2 0, (I6 0), (I6 0)] ++ UU 33, [⟨[.sl (List.take ((List.length l + 1) * 4) (flsc (l ++ [{ num := next, to := f.to, d := f.d, sp := f.sp }]))) (List.length l + 1) .any, (I6 (next + 1))], 2, .fresh⟩, ⟨[(I6 next), (I6 (f.to)), .sl (u8s f.d) (List.length f.d) .any, (B6 f.sp)], 4, .fresh⟩, ⟨[.sl [] 0 .nil, (I6 0)], 2, .fresh⟩, ⟨u8s f.d, 1, .frozen⟩, ⟨flsc (l ++ [{ num := next, to := f.to, d := f.d, sp := f.sp }]), 4, .frozen⟩]⟩ (by kernel_rfl) ⟨by kernel_rfl, by kernel_rfl⟩ (by kernel_rfl) ?_
      refine DerZ.pre 3 (((2 : Nat) ≤ (2 : Nat)) ∧ ((True) ∧ (((0 : Nat) < (4 : Nat)) ∧ (True)))) [.agg [.sl (List.take ((List.length l + 1) * 4) (flsc (l ++ [{ num := next, to := f.to, d := f.d, sp := f.sp }]))) (List.length l + 1) .any, (I6 (next + 1))], .ptr 1 0, (I6 next)] ⟨[U6, U6, .ptr 0 0, .ptr 1 0, .ptr 2 0, (I6 0), (I6 0)] ++ UU 30 ++ [.agg [.sl (List.take ((List.length l + 1) * 4) (flsc (l ++ [{ num := next, to := f.to, d := f.d, sp := f.sp }]))) (List.length l + 1) .any, (I6 (next + 1))], .ptr 1 0, (I6 next)], [⟨[.sl (List.take ((List.length l + 1) * 4) (flsc (l ++ [{ num := next, to := f.to, d := f.d, sp := f.sp }]))) (List.length l + 1) .any, (I6 (next + 1))], 2, .fresh⟩, ⟨[(I6 next), (I6 (f.to)), .sl (u8s f.d) (List.length f.d) .any, (B6 f.sp)], 4, .fresh⟩, ⟨[.sl [] 0 .nil, (I6 0)], 2, .fresh⟩, ⟨u8s f.d, 1, .frozen⟩, ⟨flsc (l ++ [{ num := next, to := f.to, d := f.d, sp := f.sp }]), 4, .frozen⟩]⟩ (by intro x ext; kernel_rfl) (by kernel_rfl) ⟨(by omega), ⟨trivial, ⟨(by omega), trivial⟩⟩⟩ ?_
      refine DerZ.eff 5 ((2 : Nat) ≤ (2 : Nat)) (.tup []) [⟨[.sl (List.take ((List.length l + 1) * 4) (flsc (l ++ [{ num := next, to := f.to, d := f.d, sp := f.sp }]))) (List.length l + 1) .any, (I6 (next + 1))], 2, .fresh⟩, ⟨[(I6 next), (I6 (f.to)), .sl (u8s f.d) (List.length f.d) .any, (B6 f.sp)], 4, .fresh⟩, ⟨[.sl (List.take ((List.length l + 1) * 4) (flsc (l ++ [{ num := next, to := f.to, d := f.d, sp := f.sp }]))) (List.length l + 1) .any, (I6 (next + 1))], 2, .fresh⟩, ⟨u8s f.d, 1, .frozen⟩, ⟨flsc (l ++ [{ num := next, to := f.to, d := f.d, sp := f.sp }]), 4, .frozen⟩] ⟨[U6, U6, .ptr 0 0, .ptr 1 0, .ptr 2 0, (I6 0), (I6 0)] ++ UU 30 ++ [.agg [.sl (List.take ((List.length l + 1) * 4) (flsc (l ++ [{ num := next, to := f.to, d := f.d, sp := f.sp }]))) (List.length l + 1) .any, (I6 (next + 1))], .ptr 1 0, (I6 next)], [⟨[.sl (List.take ((List.length l + 1) * 4) (flsc (l ++ [{ num := next, to := f.to, d := f.d, sp := f.sp }]))) (List.length l + 1) .any, (I6 (next + 1))], 2, .fresh⟩, ⟨[(I6 next), (I6 (f.to)), .sl (u8s f.d) (List.length f.d) .any, (B6 f.sp)], 4, .fresh⟩, ⟨[.sl (List.take ((List.length l + 1) * 4) (flsc (l ++ [{ num := next, to := f.to, d := f.d, sp := f.sp }]))) (List.length l + 1) .any, (I6 (next + 1))], 2, .fresh⟩, ⟨u8s f.d, 1, .frozen⟩, ⟨flsc (l ++ [{ num := next, to := f.to, d := f.d, sp := f.sp }]), 4, .frozen⟩]⟩ (by kernel_rfl) ⟨⟨by kernel_rfl, by kernel_rfl⟩, by kernel_rfl, by kernel_rfl⟩ (by omega) ?_
      refine DerZ.pre 2 ((True) ∧ ((True) ∧ (True))) [(I6 next), (I6 0)] ⟨[U6, U6, .ptr 0 0, .ptr 1 0, .ptr 2 0, (I6 next), (I6 0)] ++ UU 30 ++ [.agg [.sl (List.take ((List.length l + 1) * 4) (flsc (l ++ [{ num := next, to := f.to, d := f.d, sp := f.sp }]))) (List.length l + 1) .any, (I6 (next + 1))], .ptr 1 0, (I6 next)], [⟨[.sl (List.take ((List.length l + 1) * 4) (flsc (l ++ [{ num := next, to := f.to, d := f.d, sp := f.sp }]))) (List.length l + 1) .any, (I6 (next + 1))], 2, .fresh⟩, ⟨[(I6 next), (I6 (f.to)), .sl (u8s f.d) (List.length f.d) .any, (B6 f.sp)], 4, .fresh⟩, ⟨[.sl (List.take ((List.length l + 1) * 4) (flsc (l ++ [{ num := next, to := f.to, d := f.d, sp := f.sp }]))) (List.length l + 1) .any, (I6 (next + 1))], 2, .fresh⟩, ⟨u8s f.d, 1, .frozen⟩, ⟨flsc (l ++ [{ num := next, to := f.to, d := f.d, sp := f.sp }]), 4, .frozen⟩]⟩ (by intro x ext; kernel_rfl) (by kernel_rfl) ⟨trivial, ⟨trivial, trivial⟩⟩ ?_
      refine DerZ.nil ?_
      refine KL [2, 3, 37, 38, 39] ⟨[U6, U6, U6, U6, .ptr 2 0, (I6 next), (I6 0)] ++ UU 33, [⟨[.sl (List.take ((List.length l + 1) * 4) (flsc (l ++ [{ num := next, to := f.to, d := f.d, sp := f.sp }]))) (List.length l + 1) .any, (I6 (next + 1))], 2, .fresh⟩, ⟨[(I6 next), (I6 (f.to)), .sl (u8s f.d) (List.length f.d) .any, (B6 f.sp)], 4, .fresh⟩, ⟨[.sl (List.take ((List.length l + 1) * 4) (flsc (l ++ [{ num := next, to := f.to, d := f.d, sp := f.sp }]))) (List.length l + 1) .any, (I6 (next + 1))], 2, .fresh⟩, ⟨u8s f.d, 1, .frozen⟩, ⟨flsc (l ++ [{ num := next, to := f.to, d := f.d, sp := f.sp }]), 4, .frozen⟩]⟩ ?_
      refine AWP.ret ?_
      refine FI (.tup [.agg [.sl (List.take ((List.length l + 1) * 4) (flsc (l ++ [{ num := next, to := f.to, d := f.d, sp := f.sp }]))) (List.length l + 1) .any, (I6 (next + 1))], (I6 next), (I6 0)]) ?_
      refine Shrink.dataK [] (True) (.tup [.agg [.sl (List.take ((List.length l + 1) * 4) (flsc (l ++ [{ num := next, to := f.to, d := f.d, sp := f.sp }]))) (List.length l + 1) .any, (I6 (next + 1))], (I6 next), (I6 0)]) (by kernel_rfl) trivial ?_ rfl
      (rw [List.take_of_length_le (by simp)]; rfl; done)
  · have h1' := of_decide_eq_true h1
    exfalso; omega
theorem r_more_full (l : List FlD) (next : Int) (hx : l.length ≤ 1000) (hn : -9223372036854775808 ≤ next ∧ next ≤ 9223372036854775807) (f : FlD) (h : 1073741824 ≤ next) : EvD Try.prog 61 [.agg [.sl (flsc l) l.length .any, .sc (.int .i64 next)], .agg (flc f)] (.tup [.agg [.sl (flsc l) l.length .any, .sc (.int .i64 next)], .sc (.int .i64 0), .sc (.int .i64 4)]) := by
  refine EvD.body Try.func61 rfl (by simp [flc, dataAll, AVal.data, *]) (by simp [flc, dataAll, AVal.data, *]) ?_
  refine AWP.seq ?_
  refine TO ⟨[.agg [.sl (flsc l) (List.length l) .any, (I6 next)], .agg [(I6 (f.num)), (I6 (f.to)), .sl (u8s f.d) (List.length f.d) .any, (B6 f.sp)]] ++ UU 38, []⟩ ?_
  refine AWP.reg (RT 5 ?_)
  refine AWP.seq (AWP.seq (KL [0, 1] ⟨[U6, U6, .ptr 0 0, .ptr 1 0, .ptr 2 0, (I6 0), (I6 0)] ++ UU 33, [⟨[.sl (flsc l) (List.length l) .any, (I6 next)], 2, .fresh⟩, ⟨[(I6 (f.num)), (I6 (f.to)), .sl (u8s f.d) (List.length f.d) .any, (B6 f.sp)], 4, .fresh⟩, ⟨[.sl [] 0 .nil, (I6 0)], 2, .fresh⟩]⟩ ?_))
  refine AWP.reg (PI 5 (True ∧ 0 < 2 ∧ True ∧ True ∧ True ∧ True) ⟨trivial, (by omega), trivial, trivial, trivial, trivial⟩ ?_)
  refine DerQ.to ⟨[U6, U6, .ptr 0 0, .ptr 1 0, .ptr 2 0, (I6 0), (I6 0), .ptr 0 0, .sl (flsc l) (List.length l) .any, (I6 (↑(List.length l) : Int)), (B6 (decide ((↑(List.length l) : Int) ≥ 4096))), (B6 (decide ((↑(List.length l) : Int) ≥ 4096)))] ++ UU 28, [⟨[.sl (flsc l) (List.length l) .any, (I6 next)], 2, .fresh⟩, ⟨[(I6 (f.num)), (I6 (f.to)), .sl (u8s f.d) (List.length f.d) .any, (B6 f.sp)], 4, .fresh⟩, ⟨[.sl [] 0 .nil, (I6 0)], 2, .fresh⟩]⟩ (by kernel_rfl) ?_
  cases h1 : (decide ((↑(List.length l) : Int) ≥ 4096))
  · have h1' := of_decide_eq_false h1
    refine RI (True ∧ 1 < 2 ∧ True ∧ True ∧ True) ⟨trivial, (by omega), trivial, trivial, trivial⟩ ?_
    refine KL (NN 7 8) ⟨[U6, U6, .ptr 0 0, .ptr 1 0, .ptr 2 0, (I6 0), (I6 0)] ++ UU 8 ++ [(B6 (decide (next ≥ 1073741824)))] ++ UU 24, [⟨[.sl (flsc l) (List.length l) .any, (I6 next)], 2, .fresh⟩, ⟨[(I6 (f.num)), (I6 (f.to)), .sl (u8s f.d) (List.length f.d) .any, (B6 f.sp)], 4, .fresh⟩, ⟨[.sl [] 0 .nil, (I6 0)], 2, .fresh⟩]⟩ ?_
    refine CN (decide (next ≥ 1073741824)) (fun h2 => ?_) (fun h2 => ?_)
    · have h2' := of_decide_eq_true h2
      refine SQ (RI (2 ≤ 2 ∧ 2 ≤ 2 ∧ True ∧ True ∧ True) ⟨(by omega), (by omega), trivial, trivial, trivial⟩ ?_)
      refine AWP.ret FA
    · have h2' := of_decide_eq_false h2
      exfalso; omega
  · have h1' := of_decide_eq_true h1
    exfalso; omega
theorem r_send_form (l : List FlD) (next : Int) (hx : l.length ≤ 1000) (hn : -9223372036854775808 ≤ next ∧ next ≤ 9223372036854775807) (to : Int) (d : List Int) (h : ¬ okN next l) : EvD Try.prog 32 [.agg [.sl (flsc l) l.length .any, .sc (.int .i64 next)], .sc (.int .i64 to), .sl (u8s d) d.length .any] (.tup [.agg [.sl (flsc l) l.length .any, .sc (.int .i64 next)], .sc (.int .i64 0), .sc (.int .i64 3)]) := by
  refine EvD.body Try.func32 rfl (by simp [flc, dataAll, AVal.data, *]) (by simp [flc, dataAll, AVal.data, *]) ?_
  refine AWP.seq ?_
  refine TO ⟨[.agg [.sl (flsc l) (List.length l) .any, (I6 next)], (I6 to), .sl (u8s d) (List.length d) .any] ++ UU 32, []⟩ ?_
  refine AWP.reg (RT 4 ?_)
  refine AWP.seq (AWP.seq (KL [0] ⟨[U6, (I6 to), .sl (u8s d) (List.length d) .any, .ptr 0 0, U6, U6, .ptr 1 0, (I6 0), (I6 0)] ++ UU 26, [⟨[.sl (flsc l) (List.length l) .any, (I6 next)], 2, .fresh⟩, ⟨[.sl [] 0 .nil, (I6 0)], 2, .fresh⟩]⟩ ?_))
  refine AWP.reg (PI 1 (2 ≤ 2 ∧ True) ⟨(by omega), trivial⟩ ?_)
  refine CD (r_check l next (by omega)) ?_
  refine RT 1 ?_
  refine KL [9, 10] ⟨[U6, (I6 to), .sl (u8s d) (List.length d) .any, .ptr 0 0, U6, U6, .ptr 1 0, (I6 0), (I6 0), U6, U6, (B6 (!decide (okN next l)))] ++ UU 23, [⟨[.sl (flsc l) (List.length l) .any, (I6 next)], 2, .fresh⟩, ⟨[.sl [] 0 .nil, (I6 0)], 2, .fresh⟩]⟩ ?_
  refine CN (!decide (okN next l)) (fun h1 => ?_) (fun h1 => ?_)
  · have h1' := h1
    simp only [Bool.and_eq_true, Bool.and_eq_false_iff, Bool.or_eq_true, Bool.or_eq_false_iff, Bool.not_eq_true', Bool.not_eq_false', beq_iff_eq, beq_eq_false_iff_ne, decide_eq_true_eq, decide_eq_false_iff_not, ne_eq] at h1'
    refine SQ (RI (2 ≤ 2 ∧ 2 ≤ 2 ∧ True ∧ True ∧ True) ⟨(by omega), (by omega), trivial, trivial, trivial⟩ ?_)
    refine AWP.ret FA
  · have h1' := h1
    simp only [Bool.and_eq_true, Bool.and_eq_false_iff, Bool.or_eq_true, Bool.or_eq_false_iff, Bool.not_eq_true', Bool.not_eq_false', beq_iff_eq, beq_eq_false_iff_ne, decide_eq_true_eq, decide_eq_false_iff_not, ne_eq] at h1'
    (exfalso; (exfalso; simp_all; done); done)
theorem r_send_arg (l : List FlD) (next : Int) (hx : l.length ≤ 1000) (hn : -9223372036854775808 ≤ next ∧ next ≤ 9223372036854775807) (to : Int) (d : List Int) (h : okN next l) (ha : ¬ ((1 ≤ to ∧ to ≤ 12) ∧ 1 ≤ d.length ∧ d.length ≤ 60000)) : EvD Try.prog 32 [.agg [.sl (flsc l) l.length .any, .sc (.int .i64 next)], .sc (.int .i64 to), .sl (u8s d) d.length .any] (.tup [.agg [.sl (flsc l) l.length .any, .sc (.int .i64 next)], .sc (.int .i64 0), .sc (.int .i64 2)]) := by
  refine EvD.body Try.func32 rfl (by simp [flc, dataAll, AVal.data, *]) (by simp [flc, dataAll, AVal.data, *]) ?_
  refine AWP.seq ?_
  refine TO ⟨[.agg [.sl (flsc l) (List.length l) .any, (I6 next)], (I6 to), .sl (u8s d) (List.length d) .any] ++ UU 32, []⟩ ?_
  refine AWP.reg (RT 4 ?_)
  refine AWP.seq (AWP.seq (KL [0] ⟨[U6, (I6 to), .sl (u8s d) (List.length d) .any, .ptr 0 0, U6, U6, .ptr 1 0, (I6 0), (I6 0)] ++ UU 26, [⟨[.sl (flsc l) (List.length l) .any, (I6 next)], 2, .fresh⟩, ⟨[.sl [] 0 .nil, (I6 0)], 2, .fresh⟩]⟩ ?_))
  refine AWP.reg (PI 1 (2 ≤ 2 ∧ True) ⟨(by omega), trivial⟩ ?_)
  refine CD (r_check l next (by omega)) ?_
  refine RT 1 ?_
  refine KL [9, 10] ⟨[U6, (I6 to), .sl (u8s d) (List.length d) .any, .ptr 0 0, U6, U6, .ptr 1 0, (I6 0), (I6 0), U6, U6, (B6 (!decide (okN next l)))] ++ UU 23, [⟨[.sl (flsc l) (List.length l) .any, (I6 next)], 2, .fresh⟩, ⟨[.sl [] 0 .nil, (I6 0)], 2, .fresh⟩]⟩ ?_
  refine CN (!decide (okN next l)) (fun h1 => ?_) (fun h1 => ?_)
  · have h1' := h1
    simp only [Bool.and_eq_true, Bool.and_eq_false_iff, Bool.or_eq_true, Bool.or_eq_false_iff, Bool.not_eq_true', Bool.not_eq_false', beq_iff_eq, beq_eq_false_iff_ne, decide_eq_true_eq, decide_eq_false_iff_not, ne_eq] at h1'
    (exfalso; (exfalso; simp_all; done); done)
  · have h1' := h1
    simp only [Bool.and_eq_true, Bool.and_eq_false_iff, Bool.or_eq_true, Bool.or_eq_false_iff, Bool.not_eq_true', Bool.not_eq_false', beq_iff_eq, beq_eq_false_iff_ne, decide_eq_true_eq, decide_eq_false_iff_not, ne_eq] at h1'
    refine AWP.skip (AWP.seq (SQ (PT 1 1 ?_)))
    refine CD (r_peer to) ?_
    refine PT 2 2 ?_
    refine DerQ.to ⟨[U6, (I6 to), .sl (u8s d) (List.length d) .any, .ptr 0 0, U6, U6, .ptr 1 0, (I6 0), (I6 0), U6, U6, (B6 (!decide (okN next l))), U6, (I6 to), (B6 (decide (1 ≤ to ∧ to ≤ 12))), (B6 (!decide (1 ≤ to ∧ to ≤ 12))), (B6 (!decide (1 ≤ to ∧ to ≤ 12)))] ++ UU 18, [⟨[.sl (flsc l) (List.length l) .any, (I6 next)], 2, .fresh⟩, ⟨[.sl [] 0 .nil, (I6 0)], 2, .fresh⟩]⟩ (by kernel_rfl) ?_
    cases h2 : (!decide (1 ≤ to ∧ to ≤ 12))
    · have h2' := h2
      simp only [Bool.and_eq_true, Bool.and_eq_false_iff, Bool.or_eq_true, Bool.or_eq_false_iff, Bool.not_eq_true', Bool.not_eq_false', beq_iff_eq, beq_eq_false_iff_ne, decide_eq_true_eq, decide_eq_false_iff_not, ne_eq] at h2'
      refine PT 5 5 ?_
      refine DerQ.to ⟨[U6, (I6 to), .sl (u8s d) (List.length d) .any, .ptr 0 0, U6, U6, .ptr 1 0, (I6 0), (I6 0), U6, U6, (B6 (!decide (okN next l))), U6, (I6 to), (B6 (decide (1 ≤ to ∧ to ≤ 12))), (B6 false), (B6 false), .sl (u8s d) (List.length d) .any, (I6 (↑(List.length d) : Int)), (B6 (decide ((↑(List.length d) : Int) < 1))), (B6 (decide ((↑(List.length d) : Int) < 1))), (B6 (decide ((↑(List.length d) : Int) < 1)))] ++ UU 13, [⟨[.sl (flsc l) (List.length l) .any, (I6 next)], 2, .fresh⟩, ⟨[.sl [] 0 .nil, (I6 0)], 2, .fresh⟩]⟩ (by kernel_rfl) ?_
      cases h3 : (decide ((↑(List.length d) : Int) < 1))
      · have h3' := of_decide_eq_false h3
        refine RT 4 ?_
        refine KL ([11] ++ NN 13 12) ⟨[U6, (I6 to), .sl (u8s d) (List.length d) .any, .ptr 0 0, U6, U6, .ptr 1 0, (I6 0), (I6 0)] ++ UU 16 ++ [(B6 (decide ((↑(List.length d) : Int) > 60000)))] ++ UU 9, [⟨[.sl (flsc l) (List.length l) .any, (I6 next)], 2, .fresh⟩, ⟨[.sl [] 0 .nil, (I6 0)], 2, .fresh⟩]⟩ ?_
        refine CN (decide ((↑(List.length d) : Int) > 60000)) (fun h4 => ?_) (fun h4 => ?_)
        · have h4' := of_decide_eq_true h4
          refine SQ (RI (2 ≤ 2 ∧ 2 ≤ 2 ∧ True ∧ True ∧ True) ⟨(by omega), (by omega), trivial, trivial, trivial⟩ ?_)
          refine AWP.ret FA
        · have h4' := of_decide_eq_false h4
          exfalso; omega
      · have h3' := of_decide_eq_true h3
        refine RT 1 ?_
        refine KL ([11] ++ NN 13 12) ⟨[U6, (I6 to), .sl (u8s d) (List.length d) .any, .ptr 0 0, U6, U6, .ptr 1 0, (I6 0), (I6 0)] ++ UU 16 ++ [(B6 true)] ++ UU 9, [⟨[.sl (flsc l) (List.length l) .any, (I6 next)], 2, .fresh⟩, ⟨[.sl [] 0 .nil, (I6 0)], 2, .fresh⟩]⟩ ?_
        refine CN true (fun _ => ?_) (fun h => nomatch h)
        refine SQ (RI (2 ≤ 2 ∧ 2 ≤ 2 ∧ True ∧ True ∧ True) ⟨(by omega), (by omega), trivial, trivial, trivial⟩ ?_)
        refine AWP.ret FA
    · have h2' := h2
      simp only [Bool.and_eq_true, Bool.and_eq_false_iff, Bool.or_eq_true, Bool.or_eq_false_iff, Bool.not_eq_true', Bool.not_eq_false', beq_iff_eq, beq_eq_false_iff_ne, decide_eq_true_eq, decide_eq_false_iff_not, ne_eq] at h2'
      refine RT 3 ?_
      refine KL ([11] ++ NN 13 12) ⟨[U6, (I6 to), .sl (u8s d) (List.length d) .any, .ptr 0 0, U6, U6, .ptr 1 0, (I6 0), (I6 0)] ++ UU 16 ++ [(B6 true)] ++ UU 9, [⟨[.sl (flsc l) (List.length l) .any, (I6 next)], 2, .fresh⟩, ⟨[.sl [] 0 .nil, (I6 0)], 2, .fresh⟩]⟩ ?_
      refine CN true (fun _ => ?_) (fun h => nomatch h)
      refine SQ (RI (2 ≤ 2 ∧ 2 ≤ 2 ∧ True ∧ True ∧ True) ⟨(by omega), (by omega), trivial, trivial, trivial⟩ ?_)
      refine AWP.ret FA
theorem r_send_full (l : List FlD) (next : Int) (hx : l.length ≤ 1000) (hn : -9223372036854775808 ≤ next ∧ next ≤ 9223372036854775807) (to : Int) (d : List Int) (h : okN next l) (ha : (1 ≤ to ∧ to ≤ 12) ∧ 1 ≤ d.length ∧ d.length ≤ 60000) (hm : 1073741824 ≤ next) : EvD Try.prog 32 [.agg [.sl (flsc l) l.length .any, .sc (.int .i64 next)], .sc (.int .i64 to), .sl (u8s d) d.length .any] (.tup [.agg [.sl (flsc l) l.length .any, .sc (.int .i64 next)], .sc (.int .i64 0), .sc (.int .i64 4)]) := by
  have m1 := r_more_full l next hx hn ⟨0, to, d, false⟩ (by omega)
  refine EvD.body Try.func32 rfl (by simp [flc, dataAll, AVal.data, *]) (by simp [flc, dataAll, AVal.data, *]) ?_
  refine AWP.seq ?_
  refine TO ⟨[.agg [.sl (flsc l) (List.length l) .any, (I6 next)], (I6 to), .sl (u8s d) (List.length d) .any] ++ UU 32, []⟩ ?_
  refine AWP.reg (RT 4 ?_)
  refine AWP.seq (AWP.seq (KL [0] ⟨[U6, (I6 to), .sl (u8s d) (List.length d) .any, .ptr 0 0, U6, U6, .ptr 1 0, (I6 0), (I6 0)] ++ UU 26, [⟨[.sl (flsc l) (List.length l) .any, (I6 next)], 2, .fresh⟩, ⟨[.sl [] 0 .nil, (I6 0)], 2, .fresh⟩]⟩ ?_))
  refine AWP.reg (PI 1 (2 ≤ 2 ∧ True) ⟨(by omega), trivial⟩ ?_)
  refine CD (r_check l next (by omega)) ?_
  refine RT 1 ?_
  refine KL [9, 10] ⟨[U6, (I6 to), .sl (u8s d) (List.length d) .any, .ptr 0 0, U6, U6, .ptr 1 0, (I6 0), (I6 0), U6, U6, (B6 (!decide (okN next l)))] ++ UU 23, [⟨[.sl (flsc l) (List.length l) .any, (I6 next)], 2, .fresh⟩, ⟨[.sl [] 0 .nil, (I6 0)], 2, .fresh⟩]⟩ ?_
  refine CN (!decide (okN next l)) (fun h1 => ?_) (fun h1 => ?_)
  · have h1' := h1
    simp only [Bool.and_eq_true, Bool.and_eq_false_iff, Bool.or_eq_true, Bool.or_eq_false_iff, Bool.not_eq_true', Bool.not_eq_false', beq_iff_eq, beq_eq_false_iff_ne, decide_eq_true_eq, decide_eq_false_iff_not, ne_eq] at h1'
    (exfalso; (exfalso; simp_all; done); done)
  · have h1' := h1
    simp only [Bool.and_eq_true, Bool.and_eq_false_iff, Bool.or_eq_true, Bool.or_eq_false_iff, Bool.not_eq_true', Bool.not_eq_false', beq_iff_eq, beq_eq_false_iff_ne, decide_eq_true_eq, decide_eq_false_iff_not, ne_eq] at h1'
    refine AWP.skip (AWP.seq (SQ (PT 1 1 ?_)))
    refine CD (r_peer to) ?_
    refine PT 2 2 ?_
    refine DerQ.to ⟨[U6, (I6 to), .sl (u8s d) (List.length d) .any, .ptr 0 0, U6, U6, .ptr 1 0, (I6 0), (I6 0), U6, U6, (B6 (!decide (okN next l))), U6, (I6 to), (B6 (decide (1 ≤ to ∧ to ≤ 12))), (B6 (!decide (1 ≤ to ∧ to ≤ 12))), (B6 (!decide (1 ≤ to ∧ to ≤ 12)))] ++ UU 18, [⟨[.sl (flsc l) (List.length l) .any, (I6 next)], 2, .fresh⟩, ⟨[.sl [] 0 .nil, (I6 0)], 2, .fresh⟩]⟩ (by kernel_rfl) ?_
    cases h2 : (!decide (1 ≤ to ∧ to ≤ 12))
    · have h2' := h2
      simp only [Bool.and_eq_true, Bool.and_eq_false_iff, Bool.or_eq_true, Bool.or_eq_false_iff, Bool.not_eq_true', Bool.not_eq_false', beq_iff_eq, beq_eq_false_iff_ne, decide_eq_true_eq, decide_eq_false_iff_not, ne_eq] at h2'
      refine PT 5 5 ?_
      refine DerQ.to ⟨[U6, (I6 to), .sl (u8s d) (List.length d) .any, .ptr 0 0, U6, U6, .ptr 1 0, (I6 0), (I6 0), U6, U6, (B6 (!decide (okN next l))), U6, (I6 to), (B6 (decide (1 ≤ to ∧ to ≤ 12))), (B6 false), (B6 false), .sl (u8s d) (List.length d) .any, (I6 (↑(List.length d) : Int)), (B6 (decide ((↑(List.length d) : Int) < 1))), (B6 (decide ((↑(List.length d) : Int) < 1))), (B6 (decide ((↑(List.length d) : Int) < 1)))] ++ UU 13, [⟨[.sl (flsc l) (List.length l) .any, (I6 next)], 2, .fresh⟩, ⟨[.sl [] 0 .nil, (I6 0)], 2, .fresh⟩]⟩ (by kernel_rfl) ?_
      cases h3 : (decide ((↑(List.length d) : Int) < 1))
      · have h3' := of_decide_eq_false h3
        refine RT 4 ?_
        refine KL ([11] ++ NN 13 12) ⟨[U6, (I6 to), .sl (u8s d) (List.length d) .any, .ptr 0 0, U6, U6, .ptr 1 0, (I6 0), (I6 0)] ++ UU 16 ++ [(B6 (decide ((↑(List.length d) : Int) > 60000)))] ++ UU 9, [⟨[.sl (flsc l) (List.length l) .any, (I6 next)], 2, .fresh⟩, ⟨[.sl [] 0 .nil, (I6 0)], 2, .fresh⟩]⟩ ?_
        refine CN (decide ((↑(List.length d) : Int) > 60000)) (fun h4 => ?_) (fun h4 => ?_)
        · have h4' := of_decide_eq_true h4
          exfalso; omega
        · have h4' := of_decide_eq_false h4
          refine AWP.skip (SQ (PI 4 (2 ≤ 2 ∧ True ∧ True ∧ True ∧ True) ⟨(by omega), trivial, trivial, trivial, trivial⟩ ?_))
          refine CD (m1) ?_
          refine RI (True ∧ True ∧ True ∧ 2 ≤ 2 ∧ True ∧ True ∧ True) ⟨trivial, trivial, trivial, (by omega), trivial, trivial, trivial⟩ ?_
          refine AWP.ret FA
      · have h3' := of_decide_eq_true h3
        exfalso; omega
    · have h2' := h2
      simp only [Bool.and_eq_true, Bool.and_eq_false_iff, Bool.or_eq_true, Bool.or_eq_false_iff, Bool.not_eq_true', Bool.not_eq_false', beq_iff_eq, beq_eq_false_iff_ne, decide_eq_true_eq, decide_eq_false_iff_not, ne_eq] at h2'
      exfalso; omega
theorem r_send_ok (l : List FlD) (next : Int) (hx : l.length ≤ 1000) (hn : -9223372036854775808 ≤ next ∧ next ≤ 9223372036854775807) (to : Int) (d : List Int) (h : okN next l) (ha : (1 ≤ to ∧ to ≤ 12) ∧ 1 ≤ d.length ∧ d.length ≤ 60000) (hm : next < 1073741824) : EvD Try.prog 32 [.agg [.sl (flsc l) l.length .any, .sc (.int .i64 next)], .sc (.int .i64 to), .sl (u8s d) d.length .any] (.tup [.agg [.sl (flsc (addL l next ⟨0, to, d, false⟩)) (addL l next ⟨0, to, d, false⟩).length .any, .sc (.int .i64 (next + 1))], .sc (.int .i64 next), .sc (.int .i64 0)]) := by
  have hd : d.length ≤ 100000 := by omega
  have m1 := r_more_ok l next hx hn ⟨0, to, d, false⟩ (by first | assumption | (show d.length ≤ 100000; omega)) (by omega)
  refine EvD.body Try.func32 rfl (by simp [flc, dataAll, AVal.data, *]) (by simp [flc, dataAll, AVal.data, *]) ?_
  refine AWP.seq ?_
  refine TO ⟨[.agg [.sl (flsc l) (List.length l) .any, (I6 next)], (I6 to), .sl (u8s d) (List.length d) .any] ++ UU 32, []⟩ ?_
  refine AWP.reg (RT 4 ?_)
  refine AWP.seq (AWP.seq (KL [0] ⟨[U6, (I6 to), .sl (u8s d) (List.length d) .any, .ptr 0 0, U6, U6, .ptr 1 0, (I6 0), (I6 0)] ++ UU 26, [⟨[.sl (flsc l) (List.length l) .any, (I6 next)], 2, .fresh⟩, ⟨[.sl [] 0 .nil, (I6 0)], 2, .fresh⟩]⟩ ?_))
  refine AWP.reg (PI 1 (2 ≤ 2 ∧ True) ⟨(by omega), trivial⟩ ?_)
  refine CD (r_check l next (by omega)) ?_
  refine RT 1 ?_
  refine KL [9, 10] ⟨[U6, (I6 to), .sl (u8s d) (List.length d) .any, .ptr 0 0, U6, U6, .ptr 1 0, (I6 0), (I6 0), U6, U6, (B6 (!decide (okN next l)))] ++ UU 23, [⟨[.sl (flsc l) (List.length l) .any, (I6 next)], 2, .fresh⟩, ⟨[.sl [] 0 .nil, (I6 0)], 2, .fresh⟩]⟩ ?_
  refine CN (!decide (okN next l)) (fun h1 => ?_) (fun h1 => ?_)
  · have h1' := h1
    simp only [Bool.and_eq_true, Bool.and_eq_false_iff, Bool.or_eq_true, Bool.or_eq_false_iff, Bool.not_eq_true', Bool.not_eq_false', beq_iff_eq, beq_eq_false_iff_ne, decide_eq_true_eq, decide_eq_false_iff_not, ne_eq] at h1'
    (exfalso; (exfalso; simp_all; done); done)
  · have h1' := h1
    simp only [Bool.and_eq_true, Bool.and_eq_false_iff, Bool.or_eq_true, Bool.or_eq_false_iff, Bool.not_eq_true', Bool.not_eq_false', beq_iff_eq, beq_eq_false_iff_ne, decide_eq_true_eq, decide_eq_false_iff_not, ne_eq] at h1'
    refine AWP.skip (AWP.seq (SQ (PT 1 1 ?_)))
    refine CD (r_peer to) ?_
    refine PT 2 2 ?_
    refine DerQ.to ⟨[U6, (I6 to), .sl (u8s d) (List.length d) .any, .ptr 0 0, U6, U6, .ptr 1 0, (I6 0), (I6 0), U6, U6, (B6 (!decide (okN next l))), U6, (I6 to), (B6 (decide (1 ≤ to ∧ to ≤ 12))), (B6 (!decide (1 ≤ to ∧ to ≤ 12))), (B6 (!decide (1 ≤ to ∧ to ≤ 12)))] ++ UU 18, [⟨[.sl (flsc l) (List.length l) .any, (I6 next)], 2, .fresh⟩, ⟨[.sl [] 0 .nil, (I6 0)], 2, .fresh⟩]⟩ (by kernel_rfl) ?_
    cases h2 : (!decide (1 ≤ to ∧ to ≤ 12))
    · have h2' := h2
      simp only [Bool.and_eq_true, Bool.and_eq_false_iff, Bool.or_eq_true, Bool.or_eq_false_iff, Bool.not_eq_true', Bool.not_eq_false', beq_iff_eq, beq_eq_false_iff_ne, decide_eq_true_eq, decide_eq_false_iff_not, ne_eq] at h2'
      refine PT 5 5 ?_
      refine DerQ.to ⟨[U6, (I6 to), .sl (u8s d) (List.length d) .any, .ptr 0 0, U6, U6, .ptr 1 0, (I6 0), (I6 0), U6, U6, (B6 (!decide (okN next l))), U6, (I6 to), (B6 (decide (1 ≤ to ∧ to ≤ 12))), (B6 false), (B6 false), .sl (u8s d) (List.length d) .any, (I6 (↑(List.length d) : Int)), (B6 (decide ((↑(List.length d) : Int) < 1))), (B6 (decide ((↑(List.length d) : Int) < 1))), (B6 (decide ((↑(List.length d) : Int) < 1)))] ++ UU 13, [⟨[.sl (flsc l) (List.length l) .any, (I6 next)], 2, .fresh⟩, ⟨[.sl [] 0 .nil, (I6 0)], 2, .fresh⟩]⟩ (by kernel_rfl) ?_
      cases h3 : (decide ((↑(List.length d) : Int) < 1))
      · have h3' := of_decide_eq_false h3
        refine RT 4 ?_
        refine KL ([11] ++ NN 13 12) ⟨[U6, (I6 to), .sl (u8s d) (List.length d) .any, .ptr 0 0, U6, U6, .ptr 1 0, (I6 0), (I6 0)] ++ UU 16 ++ [(B6 (decide ((↑(List.length d) : Int) > 60000)))] ++ UU 9, [⟨[.sl (flsc l) (List.length l) .any, (I6 next)], 2, .fresh⟩, ⟨[.sl [] 0 .nil, (I6 0)], 2, .fresh⟩]⟩ ?_
        refine CN (decide ((↑(List.length d) : Int) > 60000)) (fun h4 => ?_) (fun h4 => ?_)
        · have h4' := of_decide_eq_true h4
          exfalso; omega
        · have h4' := of_decide_eq_false h4
          refine AWP.skip (SQ (PI 4 (2 ≤ 2 ∧ True ∧ True ∧ True ∧ True) ⟨(by omega), trivial, trivial, trivial, trivial⟩ ?_))
          refine CD (m1) ?_
          refine RI (True ∧ True ∧ True ∧ 2 ≤ 2 ∧ True ∧ True ∧ True) ⟨trivial, trivial, trivial, (by omega), trivial, trivial, trivial⟩ ?_
          refine AWP.ret FA
      · have h3' := of_decide_eq_true h3
        exfalso; omega
    · have h2' := h2
      simp only [Bool.and_eq_true, Bool.and_eq_false_iff, Bool.or_eq_true, Bool.or_eq_false_iff, Bool.not_eq_true', Bool.not_eq_false', beq_iff_eq, beq_eq_false_iff_ne, decide_eq_true_eq, decide_eq_false_iff_not, ne_eq] at h2'
      exfalso; omega
def rmL (l : List FlD) (k : Nat) : List FlD := l.take k ++ l.drop (k + 1)
theorem rmL_len (l : List FlD) (k : Nat) (h : k < l.length) : (rmL l k).length = l.length - 1 := by unfold rmL; rw [List.length_append, List.length_take, List.length_drop]; omega
theorem r_take_form (l : List FlD) (next : Int) (hx : l.length ≤ 1000) (hn : -9223372036854775808 ≤ next ∧ next ≤ 9223372036854775807) (x : Int) (h : ¬ okN next l) : EvD Try.prog 37 [.agg [.sl (flsc l) l.length .any, .sc (.int .i64 next)], .sc (.int .i64 x)] (.tup [.agg [.sl (flsc l) l.length .any, .sc (.int .i64 next)], .agg [.sc (.int .i64 0), .sc (.int .i64 0), .sl [] 0 .any, .sc (.bool false)], .sc (.int .i64 3)]) := by
  refine EvD.body Try.func37 rfl (by simp [flc, dataAll, AVal.data, *]) (by simp [flc, dataAll, AVal.data, *]) ?_
  refine AWP.seq ?_
  refine TO ⟨[.agg [.sl (flsc l) (List.length l) .any, (I6 next)], (I6 x)] ++ UU 39, []⟩ ?_
  refine AWP.reg (RT 4 ?_)
  refine AWP.seq (AWP.seq (KL [0] ⟨[U6, (I6 x), .ptr 0 0, U6, .ptr 1 0, .ptr 2 0, (I6 0)] ++ UU 34, [⟨[.sl (flsc l) (List.length l) .any, (I6 next)], 2, .fresh⟩, ⟨[.sl [] 0 .nil, (I6 0)], 2, .fresh⟩, ⟨[(I6 0), (I6 0), .sl [] 0 .nil, (B6 false)], 4, .fresh⟩]⟩ ?_))
  refine AWP.reg (PI 1 (2 ≤ 2 ∧ True) ⟨(by omega), trivial⟩ ?_)
  refine CD (r_check l next (by omega)) ?_
  refine RT 1 ?_
  refine KL [9, 10] ⟨[U6, (I6 x), .ptr 0 0, U6, .ptr 1 0, .ptr 2 0, (I6 0), U6, U6, U6, U6, (B6 (!decide (okN next l)))] ++ UU 29, [⟨[.sl (flsc l) (List.length l) .any, (I6 next)], 2, .fresh⟩, ⟨[.sl [] 0 .nil, (I6 0)], 2, .fresh⟩, ⟨[(I6 0), (I6 0), .sl [] 0 .nil, (B6 false)], 4, .fresh⟩]⟩ ?_
  refine CN (!decide (okN next l)) (fun h1 => ?_) (fun h1 => ?_)
  · have h1' := h1
    simp only [Bool.and_eq_true, Bool.and_eq_false_iff, Bool.or_eq_true, Bool.or_eq_false_iff, Bool.not_eq_true', Bool.not_eq_false', beq_iff_eq, beq_eq_false_iff_ne, decide_eq_true_eq, decide_eq_false_iff_not, ne_eq] at h1'
    refine SQ (RI (2 ≤ 2 ∧ True ∧ 2 ≤ 2 ∧ 4 ≤ 4 ∧ True ∧ True) ⟨(by omega), trivial, (by omega), (by omega), trivial, trivial⟩ ?_)
    refine AWP.ret ?_
    refine FI (.tup [.agg [.sl (flsc l) (List.length l) .any, (I6 next)], .agg [(I6 0), (I6 0), .sl [] 0 .nil, (B6 false)], (I6 3)]) ?_
    refine Shrink.dataK [] (True) (.tup [.agg [.sl (flsc l) (List.length l) .any, (I6 next)], .agg [(I6 0), (I6 0), .sl [] 0 .nil, (B6 false)], (I6 3)]) (by kernel_rfl) trivial ?_ rfl
    kernel_rfl
  · have h1' := h1
    simp only [Bool.and_eq_true, Bool.and_eq_false_iff, Bool.or_eq_true, Bool.or_eq_false_iff, Bool.not_eq_true', Bool.not_eq_false', beq_iff_eq, beq_eq_false_iff_ne, decide_eq_true_eq, decide_eq_false_iff_not, ne_eq] at h1'
    (exfalso; (exfalso; simp_all; done); done)
theorem r_take_none (l : List FlD) (next : Int) (hx : l.length ≤ 1000) (hn : -9223372036854775808 ≤ next ∧ next ≤ 9223372036854775807) (x : Int) (h : okN next l) (hp : placeI l x 0 = -1) : EvD Try.prog 37 [.agg [.sl (flsc l) l.length .any, .sc (.int .i64 next)], .sc (.int .i64 x)] (.tup [.agg [.sl (flsc l) l.length .any, .sc (.int .i64 next)], .agg [.sc (.int .i64 0), .sc (.int .i64 0), .sl [] 0 .any, .sc (.bool false)], .sc (.int .i64 7)]) := by
  have hpl := r_place l next x (by omega)
  rw [hp] at hpl
  refine EvD.body Try.func37 rfl (by simp [flc, dataAll, AVal.data, *]) (by simp [flc, dataAll, AVal.data, *]) ?_
  refine AWP.seq ?_
  refine TO ⟨[.agg [.sl (flsc l) (List.length l) .any, (I6 next)], (I6 x)] ++ UU 39, []⟩ ?_
  refine AWP.reg (RT 4 ?_)
  refine AWP.seq (AWP.seq (KL [0] ⟨[U6, (I6 x), .ptr 0 0, U6, .ptr 1 0, .ptr 2 0, (I6 0)] ++ UU 34, [⟨[.sl (flsc l) (List.length l) .any, (I6 next)], 2, .fresh⟩, ⟨[.sl [] 0 .nil, (I6 0)], 2, .fresh⟩, ⟨[(I6 0), (I6 0), .sl [] 0 .nil, (B6 false)], 4, .fresh⟩]⟩ ?_))
  refine AWP.reg (PI 1 (2 ≤ 2 ∧ True) ⟨(by omega), trivial⟩ ?_)
  refine CD (r_check l next (by omega)) ?_
  refine RT 1 ?_
  refine KL [9, 10] ⟨[U6, (I6 x), .ptr 0 0, U6, .ptr 1 0, .ptr 2 0, (I6 0), U6, U6, U6, U6, (B6 (!decide (okN next l)))] ++ UU 29, [⟨[.sl (flsc l) (List.length l) .any, (I6 next)], 2, .fresh⟩, ⟨[.sl [] 0 .nil, (I6 0)], 2, .fresh⟩, ⟨[(I6 0), (I6 0), .sl [] 0 .nil, (B6 false)], 4, .fresh⟩]⟩ ?_
  refine CN (!decide (okN next l)) (fun h1 => ?_) (fun h1 => ?_)
  · have h1' := h1
    simp only [Bool.and_eq_true, Bool.and_eq_false_iff, Bool.or_eq_true, Bool.or_eq_false_iff, Bool.not_eq_true', Bool.not_eq_false', beq_iff_eq, beq_eq_false_iff_ne, decide_eq_true_eq, decide_eq_false_iff_not, ne_eq] at h1'
    (exfalso; (exfalso; simp_all; done); done)
  · have h1' := h1
    simp only [Bool.and_eq_true, Bool.and_eq_false_iff, Bool.or_eq_true, Bool.or_eq_false_iff, Bool.not_eq_true', Bool.not_eq_false', beq_iff_eq, beq_eq_false_iff_ne, decide_eq_true_eq, decide_eq_false_iff_not, ne_eq] at h1'
    refine AWP.skip (SQ (PI 2 (2 ≤ 2 ∧ True ∧ True) ⟨(by omega), trivial, trivial⟩ ?_))
    refine CD (hpl) ?_
    refine RT 1 ?_
    refine AWP.seq (AWP.seq (KL [1, 11, 14, 15, 16] ⟨[U6, U6, .ptr 0 0, U6, .ptr 1 0, .ptr 2 0, (I6 0), (I6 (-1))] ++ UU 33, [⟨[.sl (flsc l) (List.length l) .any, (I6 next)], 2, .fresh⟩, ⟨[.sl [] 0 .nil, (I6 0)], 2, .fresh⟩, ⟨[(I6 0), (I6 0), .sl [] 0 .nil, (B6 false)], 4, .fresh⟩]⟩ ?_))
    refine AWP.reg (RT 2 ?_)
    refine KL [17] ⟨[U6, U6, .ptr 0 0, U6, .ptr 1 0, .ptr 2 0, (I6 0), (I6 (-1))] ++ UU 10 ++ [(B6 true)] ++ UU 22, [⟨[.sl (flsc l) (List.length l) .any, (I6 next)], 2, .fresh⟩, ⟨[.sl [] 0 .nil, (I6 0)], 2, .fresh⟩, ⟨[(I6 0), (I6 0), .sl [] 0 .nil, (B6 false)], 4, .fresh⟩]⟩ ?_
    refine CN true (fun _ => ?_) (fun h => nomatch h)
    refine SQ (RI (2 ≤ 2 ∧ True ∧ 2 ≤ 2 ∧ 4 ≤ 4 ∧ True ∧ True) ⟨(by omega), trivial, (by omega), (by omega), trivial, trivial⟩ ?_)
    refine AWP.ret ?_
    refine FI (.tup [.agg [.sl (flsc l) (List.length l) .any, (I6 next)], .agg [(I6 0), (I6 0), .sl [] 0 .nil, (B6 false)], (I6 7)]) ?_
    refine Shrink.dataK [] (True) (.tup [.agg [.sl (flsc l) (List.length l) .any, (I6 next)], .agg [(I6 0), (I6 0), .sl [] 0 .nil, (B6 false)], (I6 7)]) (by kernel_rfl) trivial ?_ rfl
    kernel_rfl
theorem r_double_form (l : List FlD) (next : Int) (hx : l.length ≤ 1000) (hn : -9223372036854775808 ≤ next ∧ next ≤ 9223372036854775807) (x : Int) (h : ¬ okN next l) : EvD Try.prog 34 [.agg [.sl (flsc l) l.length .any, .sc (.int .i64 next)], .sc (.int .i64 x)] (.tup [.agg [.sl (flsc l) l.length .any, .sc (.int .i64 next)], .sc (.int .i64 0), .sc (.int .i64 3)]) := by
  refine EvD.body Try.func34 rfl (by simp [flc, dataAll, AVal.data, *]) (by simp [flc, dataAll, AVal.data, *]) ?_
  refine AWP.seq ?_
  refine TO ⟨[.agg [.sl (flsc l) (List.length l) .any, (I6 next)], (I6 x)] ++ UU 26, []⟩ ?_
  refine AWP.reg (RT 4 ?_)
  refine AWP.seq (AWP.seq (KL [0] ⟨[U6, (I6 x), .ptr 0 0, U6, .ptr 1 0, (I6 0), (I6 0)] ++ UU 21, [⟨[.sl (flsc l) (List.length l) .any, (I6 next)], 2, .fresh⟩, ⟨[.sl [] 0 .nil, (I6 0)], 2, .fresh⟩]⟩ ?_))
  refine AWP.reg (PI 1 (2 ≤ 2 ∧ True) ⟨(by omega), trivial⟩ ?_)
  refine CD (r_check l next (by omega)) ?_
  refine RT 1 ?_
  refine KL [8, 9] ⟨[U6, (I6 x), .ptr 0 0, U6, .ptr 1 0, (I6 0), (I6 0), U6, U6, U6, (B6 (!decide (okN next l)))] ++ UU 17, [⟨[.sl (flsc l) (List.length l) .any, (I6 next)], 2, .fresh⟩, ⟨[.sl [] 0 .nil, (I6 0)], 2, .fresh⟩]⟩ ?_
  refine CN (!decide (okN next l)) (fun h1 => ?_) (fun h1 => ?_)
  · have h1' := h1
    simp only [Bool.and_eq_true, Bool.and_eq_false_iff, Bool.or_eq_true, Bool.or_eq_false_iff, Bool.not_eq_true', Bool.not_eq_false', beq_iff_eq, beq_eq_false_iff_ne, decide_eq_true_eq, decide_eq_false_iff_not, ne_eq] at h1'
    refine SQ (RI (2 ≤ 2 ∧ 2 ≤ 2 ∧ True ∧ True ∧ True) ⟨(by omega), (by omega), trivial, trivial, trivial⟩ ?_)
    refine AWP.ret FA
  · have h1' := h1
    simp only [Bool.and_eq_true, Bool.and_eq_false_iff, Bool.or_eq_true, Bool.or_eq_false_iff, Bool.not_eq_true', Bool.not_eq_false', beq_iff_eq, beq_eq_false_iff_ne, decide_eq_true_eq, decide_eq_false_iff_not, ne_eq] at h1'
    (exfalso; (exfalso; simp_all; done); done)
theorem r_double_none (l : List FlD) (next : Int) (hx : l.length ≤ 1000) (hn : -9223372036854775808 ≤ next ∧ next ≤ 9223372036854775807) (x : Int) (h : okN next l) (hp : placeI l x 0 = -1) : EvD Try.prog 34 [.agg [.sl (flsc l) l.length .any, .sc (.int .i64 next)], .sc (.int .i64 x)] (.tup [.agg [.sl (flsc l) l.length .any, .sc (.int .i64 next)], .sc (.int .i64 0), .sc (.int .i64 7)]) := by
  have hpl := r_place l next x (by omega)
  rw [hp] at hpl
  refine EvD.body Try.func34 rfl (by simp [flc, dataAll, AVal.data, *]) (by simp [flc, dataAll, AVal.data, *]) ?_
  refine AWP.seq ?_
  refine TO ⟨[.agg [.sl (flsc l) (List.length l) .any, (I6 next)], (I6 x)] ++ UU 26, []⟩ ?_
  refine AWP.reg (RT 4 ?_)
  refine AWP.seq (AWP.seq (KL [0] ⟨[U6, (I6 x), .ptr 0 0, U6, .ptr 1 0, (I6 0), (I6 0)] ++ UU 21, [⟨[.sl (flsc l) (List.length l) .any, (I6 next)], 2, .fresh⟩, ⟨[.sl [] 0 .nil, (I6 0)], 2, .fresh⟩]⟩ ?_))
  refine AWP.reg (PI 1 (2 ≤ 2 ∧ True) ⟨(by omega), trivial⟩ ?_)
  refine CD (r_check l next (by omega)) ?_
  refine RT 1 ?_
  refine KL [8, 9] ⟨[U6, (I6 x), .ptr 0 0, U6, .ptr 1 0, (I6 0), (I6 0), U6, U6, U6, (B6 (!decide (okN next l)))] ++ UU 17, [⟨[.sl (flsc l) (List.length l) .any, (I6 next)], 2, .fresh⟩, ⟨[.sl [] 0 .nil, (I6 0)], 2, .fresh⟩]⟩ ?_
  refine CN (!decide (okN next l)) (fun h1 => ?_) (fun h1 => ?_)
  · have h1' := h1
    simp only [Bool.and_eq_true, Bool.and_eq_false_iff, Bool.or_eq_true, Bool.or_eq_false_iff, Bool.not_eq_true', Bool.not_eq_false', beq_iff_eq, beq_eq_false_iff_ne, decide_eq_true_eq, decide_eq_false_iff_not, ne_eq] at h1'
    (exfalso; (exfalso; simp_all; done); done)
  · have h1' := h1
    simp only [Bool.and_eq_true, Bool.and_eq_false_iff, Bool.or_eq_true, Bool.or_eq_false_iff, Bool.not_eq_true', Bool.not_eq_false', beq_iff_eq, beq_eq_false_iff_ne, decide_eq_true_eq, decide_eq_false_iff_not, ne_eq] at h1'
    refine AWP.skip (SQ (PI 2 (2 ≤ 2 ∧ True ∧ True) ⟨(by omega), trivial, trivial⟩ ?_))
    refine CD (hpl) ?_
    refine RT 1 ?_
    refine AWP.seq (AWP.seq (KL [1, 10, 12, 13, 14] ⟨[U6, U6, .ptr 0 0, U6, .ptr 1 0, (I6 0), (I6 0), (I6 (-1))] ++ UU 20, [⟨[.sl (flsc l) (List.length l) .any, (I6 next)], 2, .fresh⟩, ⟨[.sl [] 0 .nil, (I6 0)], 2, .fresh⟩]⟩ ?_))
    refine AWP.reg (RT 2 ?_)
    refine KL [15] ⟨[U6, U6, .ptr 0 0, U6, .ptr 1 0, (I6 0), (I6 0), (I6 (-1))] ++ UU 8 ++ [(B6 true)] ++ UU 11, [⟨[.sl (flsc l) (List.length l) .any, (I6 next)], 2, .fresh⟩, ⟨[.sl [] 0 .nil, (I6 0)], 2, .fresh⟩]⟩ ?_
    refine CN true (fun _ => ?_) (fun h => nomatch h)
    refine SQ (RI (2 ≤ 2 ∧ 2 ≤ 2 ∧ True ∧ True ∧ True) ⟨(by omega), (by omega), trivial, trivial, trivial⟩ ?_)
    refine AWP.ret FA
theorem r_double_full (l : List FlD) (next : Int) (hx : l.length ≤ 1000) (hn : -9223372036854775808 ≤ next ∧ next ≤ 9223372036854775807) (x : Int) (h : okN next l) (k : Nat) (hk : k < l.length) (hp : placeI l x 0 = (k : Int)) (hm : 1073741824 ≤ next) : EvD Try.prog 34 [.agg [.sl (flsc l) l.length .any, .sc (.int .i64 next)], .sc (.int .i64 x)] (.tup [.agg [.sl (flsc l) l.length .any, .sc (.int .i64 next)], .sc (.int .i64 0), .sc (.int .i64 4)]) := by
  have hpl := r_place l next x (by omega)
  rw [hp] at hpl
  have m1 := r_more_full l next hx hn (List.getD l k fl0) (by omega)
  refine EvD.body Try.func34 rfl (by simp [flc, dataAll, AVal.data, *]) (by simp [flc, dataAll, AVal.data, *]) ?_
  refine AWP.seq ?_
  refine TO ⟨[.agg [.sl (flsc l) (List.length l) .any, (I6 next)], (I6 x)] ++ UU 26, []⟩ ?_
  refine AWP.reg (RT 4 ?_)
  refine AWP.seq (AWP.seq (KL [0] ⟨[U6, (I6 x), .ptr 0 0, U6, .ptr 1 0, (I6 0), (I6 0)] ++ UU 21, [⟨[.sl (flsc l) (List.length l) .any, (I6 next)], 2, .fresh⟩, ⟨[.sl [] 0 .nil, (I6 0)], 2, .fresh⟩]⟩ ?_))
  refine AWP.reg (PI 1 (2 ≤ 2 ∧ True) ⟨(by omega), trivial⟩ ?_)
  refine CD (r_check l next (by omega)) ?_
  refine RT 1 ?_
  refine KL [8, 9] ⟨[U6, (I6 x), .ptr 0 0, U6, .ptr 1 0, (I6 0), (I6 0), U6, U6, U6, (B6 (!decide (okN next l)))] ++ UU 17, [⟨[.sl (flsc l) (List.length l) .any, (I6 next)], 2, .fresh⟩, ⟨[.sl [] 0 .nil, (I6 0)], 2, .fresh⟩]⟩ ?_
  refine CN (!decide (okN next l)) (fun h1 => ?_) (fun h1 => ?_)
  · have h1' := h1
    simp only [Bool.and_eq_true, Bool.and_eq_false_iff, Bool.or_eq_true, Bool.or_eq_false_iff, Bool.not_eq_true', Bool.not_eq_false', beq_iff_eq, beq_eq_false_iff_ne, decide_eq_true_eq, decide_eq_false_iff_not, ne_eq] at h1'
    (exfalso; (exfalso; simp_all; done); done)
  · have h1' := h1
    simp only [Bool.and_eq_true, Bool.and_eq_false_iff, Bool.or_eq_true, Bool.or_eq_false_iff, Bool.not_eq_true', Bool.not_eq_false', beq_iff_eq, beq_eq_false_iff_ne, decide_eq_true_eq, decide_eq_false_iff_not, ne_eq] at h1'
    refine AWP.skip (SQ (PI 2 (2 ≤ 2 ∧ True ∧ True) ⟨(by omega), trivial, trivial⟩ ?_))
    refine CD (hpl) ?_
    refine RT 1 ?_
    refine AWP.seq (AWP.seq (KL [1, 10, 12, 13, 14] ⟨[U6, U6, .ptr 0 0, U6, .ptr 1 0, (I6 0), (I6 0), (I6 (↑k : Int))] ++ UU 20, [⟨[.sl (flsc l) (List.length l) .any, (I6 next)], 2, .fresh⟩, ⟨[.sl [] 0 .nil, (I6 0)], 2, .fresh⟩]⟩ ?_))
    refine AWP.reg (RT 2 ?_)
    refine KL [15] ⟨[U6, U6, .ptr 0 0, U6, .ptr 1 0, (I6 0), (I6 0), (I6 (↑k : Int))] ++ UU 8 ++ [(B6 false)] ++ UU 11, [⟨[.sl (flsc l) (List.length l) .any, (I6 next)], 2, .fresh⟩, ⟨[.sl [] 0 .nil, (I6 0)], 2, .fresh⟩]⟩ ?_
    refine CN false (fun h => nomatch h) (fun _ => ?_)
    refine AWP.skip (AWP.seq ?_)
    refine AWP.drawB mixed (fun o => if [].contains (o.dst.getD 0) then 1 else if [].contains (o.dst.getD 0) then 2 else if [0, 24].contains (o.dst.getD 0) then 3 else 0) 0 2 (fun x => [⟨[.sl (flsc l) (List.length l) .any, (I6 next)], 2, .fresh⟩, ⟨x 1, 2, .fresh⟩]) ⟨[U6, U6, .ptr 0 0, U6, .ptr 1 0, (I6 0), (I6 0), (I6 (↑k : Int))] ++ UU 8 ++ [(B6 false)] ++ UU 11, [⟨[.sl (flsc l) (List.length l) .any, (I6 next)], 2, .fresh⟩, ⟨[.sl [] 0 .nil, (I6 0)], 2, .fresh⟩]⟩ (by kernel_rfl) ⟨by kernel_rfl, by kernel_rfl⟩ (by kernel_rfl) ?_
    refine DerZ.pre 6 (((2 : Nat) ≤ (2 : Nat)) ∧ ((True) ∧ (((0 : Nat) < (2 : Nat)) ∧ ((True) ∧ ((((0 ≤ (↑k : Int)) ∧ ((↑k : Int) < (↑(List.length l) : Int))) ∧ (Int.toNat (↑k : Int) * 4 + 4 ≤ List.length (flsc l))) ∧ (((4 : Nat) ≤ (4 : Nat)) ∧ (True))))))) [.agg [.sl (flsc l) (List.length l) .any, (I6 next)], .ptr 0 0, .sl (flsc l) (List.length l) .any, (I6 (↑k : Int)), .dptr [List.getD (flsc l) (Int.toNat (↑k : Int) * 4 + 0) U6, List.getD (flsc l) (Int.toNat (↑k : Int) * 4 + 1) U6, List.getD (flsc l) (Int.toNat (↑k : Int) * 4 + 2) U6, List.getD (flsc l) (Int.toNat (↑k : Int) * 4 + 3) AVal.undef], .agg [List.getD (flsc l) (Int.toNat (↑k : Int) * 4 + 0) U6, List.getD (flsc l) (Int.toNat (↑k : Int) * 4 + 1) U6, List.getD (flsc l) (Int.toNat (↑k : Int) * 4 + 2) U6, List.getD (flsc l) (Int.toNat (↑k : Int) * 4 + 3) AVal.undef]] ⟨[U6, U6, .ptr 0 0, U6, .ptr 1 0, (I6 0), (I6 0), (I6 (↑k : Int))] ++ UU 8 ++ [(B6 false), U6, .agg [.sl (flsc l) (List.length l) .any, (I6 next)], .ptr 0 0, .sl (flsc l) (List.length l) .any, (I6 (↑k : Int)), .dptr [List.getD (flsc l) (Int.toNat (↑k : Int) * 4 + 0) U6, List.getD (flsc l) (Int.toNat (↑k : Int) * 4 + 1) U6, List.getD (flsc l) (Int.toNat (↑k : Int) * 4 + 2) U6, List.getD (flsc l) (Int.toNat (↑k : Int) * 4 + 3) AVal.undef], .agg [List.getD (flsc l) (Int.toNat (↑k : Int) * 4 + 0) U6, List.getD (flsc l) (Int.toNat (↑k : Int) * 4 + 1) U6, List.getD (flsc l) (Int.toNat (↑k : Int) * 4 + 2) U6, List.getD (flsc l) (Int.toNat (↑k : Int) * 4 + 3) AVal.undef], U6, U6, U6, .undef], [⟨[.sl (flsc l) (List.length l) .any, (I6 next)], 2, .fresh⟩, ⟨[.sl [] 0 .nil, (I6 0)], 2, .fresh⟩]⟩ (by intro x ext; kernel_rfl) (by kernel_rfl) ⟨(by omega), ⟨trivial, ⟨(by omega), ⟨trivial, ⟨⟨⟨(by omega), (by omega)⟩, (by (simp [spliceA_length] <;> omega))⟩, ⟨(by omega), trivial⟩⟩⟩⟩⟩⟩ ?_
    rw [Int.toNat_natCast (k)]
    rw [Nat.add_zero (k * 4)]
    rw [Go.Net.fl_cells (l) (k) (by omega)]
    refine DerZ.callDI (m1) ⟨by kernel_rfl, by kernel_rfl⟩ ?_
    refine DerZ.preI 3 ((True) ∧ ((True) ∧ ((True) ∧ (True)))) (by intro x ext; kernel_rfl) ⟨trivial, ⟨trivial, ⟨trivial, trivial⟩⟩⟩ ?_
    refine DerZ.effI 2 ((2 : Nat) ≤ (2 : Nat)) (by kernel_rfl) ⟨⟨by kernel_rfl, by kernel_rfl⟩, by kernel_rfl⟩ (by omega) ?_
    refine DerZ.preI 2 ((True) ∧ ((True) ∧ (True))) (by intro x ext; kernel_rfl) ⟨trivial, ⟨trivial, trivial⟩⟩ ?_
    refine DerZ.nil ?_
    refine AWP.ret FA
theorem r_double_ok (l : List FlD) (next : Int) (hx : l.length ≤ 1000) (hn : -9223372036854775808 ≤ next ∧ next ≤ 9223372036854775807) (x : Int) (h : okN next l) (k : Nat) (hk : k < l.length) (hp : placeI l x 0 = (k : Int)) (hd : (l.getD k fl0).d.length ≤ 100000) (hm : next < 1073741824) : EvD Try.prog 34 [.agg [.sl (flsc l) l.length .any, .sc (.int .i64 next)], .sc (.int .i64 x)] (.tup [.agg [.sl (flsc (addL l next (l.getD k fl0))) (addL l next (l.getD k fl0)).length .any, .sc (.int .i64 (next + 1))], .sc (.int .i64 next), .sc (.int .i64 0)]) := by
  have hpl := r_place l next x (by omega)
  rw [hp] at hpl
  have m1 := r_more_ok l next hx hn (List.getD l k fl0) hd (by omega)
  refine EvD.body Try.func34 rfl (by simp [flc, dataAll, AVal.data, *]) (by simp [flc, dataAll, AVal.data, *]) ?_
  refine AWP.seq ?_
  refine TO ⟨[.agg [.sl (flsc l) (List.length l) .any, (I6 next)], (I6 x)] ++ UU 26, []⟩ ?_
  refine AWP.reg (RT 4 ?_)
  refine AWP.seq (AWP.seq (KL [0] ⟨[U6, (I6 x), .ptr 0 0, U6, .ptr 1 0, (I6 0), (I6 0)] ++ UU 21, [⟨[.sl (flsc l) (List.length l) .any, (I6 next)], 2, .fresh⟩, ⟨[.sl [] 0 .nil, (I6 0)], 2, .fresh⟩]⟩ ?_))
  refine AWP.reg (PI 1 (2 ≤ 2 ∧ True) ⟨(by omega), trivial⟩ ?_)
  refine CD (r_check l next (by omega)) ?_
  refine RT 1 ?_
  refine KL [8, 9] ⟨[U6, (I6 x), .ptr 0 0, U6, .ptr 1 0, (I6 0), (I6 0), U6, U6, U6, (B6 (!decide (okN next l)))] ++ UU 17, [⟨[.sl (flsc l) (List.length l) .any, (I6 next)], 2, .fresh⟩, ⟨[.sl [] 0 .nil, (I6 0)], 2, .fresh⟩]⟩ ?_
  refine CN (!decide (okN next l)) (fun h1 => ?_) (fun h1 => ?_)
  · have h1' := h1
    simp only [Bool.and_eq_true, Bool.and_eq_false_iff, Bool.or_eq_true, Bool.or_eq_false_iff, Bool.not_eq_true', Bool.not_eq_false', beq_iff_eq, beq_eq_false_iff_ne, decide_eq_true_eq, decide_eq_false_iff_not, ne_eq] at h1'
    (exfalso; (exfalso; simp_all; done); done)
  · have h1' := h1
    simp only [Bool.and_eq_true, Bool.and_eq_false_iff, Bool.or_eq_true, Bool.or_eq_false_iff, Bool.not_eq_true', Bool.not_eq_false', beq_iff_eq, beq_eq_false_iff_ne, decide_eq_true_eq, decide_eq_false_iff_not, ne_eq] at h1'
    refine AWP.skip (SQ (PI 2 (2 ≤ 2 ∧ True ∧ True) ⟨(by omega), trivial, trivial⟩ ?_))
    refine CD (hpl) ?_
    refine RT 1 ?_
    refine AWP.seq (AWP.seq (KL [1, 10, 12, 13, 14] ⟨[U6, U6, .ptr 0 0, U6, .ptr 1 0, (I6 0), (I6 0), (I6 (↑k : Int))] ++ UU 20, [⟨[.sl (flsc l) (List.length l) .any, (I6 next)], 2, .fresh⟩, ⟨[.sl [] 0 .nil, (I6 0)], 2, .fresh⟩]⟩ ?_))
    refine AWP.reg (RT 2 ?_)
    refine KL [15] ⟨[U6, U6, .ptr 0 0, U6, .ptr 1 0, (I6 0), (I6 0), (I6 (↑k : Int))] ++ UU 8 ++ [(B6 false)] ++ UU 11, [⟨[.sl (flsc l) (List.length l) .any, (I6 next)], 2, .fresh⟩, ⟨[.sl [] 0 .nil, (I6 0)], 2, .fresh⟩]⟩ ?_
    refine CN false (fun h => nomatch h) (fun _ => ?_)
    refine AWP.skip (AWP.seq ?_)
    refine AWP.drawB mixed (fun o => if [].contains (o.dst.getD 0) then 1 else if [].contains (o.dst.getD 0) then 2 else if [0, 24].contains (o.dst.getD 0) then 3 else 0) 0 2 (fun x => [⟨[.sl (flsc l) (List.length l) .any, (I6 next)], 2, .fresh⟩, ⟨x 1, 2, .fresh⟩]) ⟨[U6, U6, .ptr 0 0, U6, .ptr 1 0, (I6 0), (I6 0), (I6 (↑k : Int))] ++ UU 8 ++ [(B6 false)] ++ UU 11, [⟨[.sl (flsc l) (List.length l) .any, (I6 next)], 2, .fresh⟩, ⟨[.sl [] 0 .nil, (I6 0)], 2, .fresh⟩]⟩ (by kernel_rfl) ⟨by kernel_rfl, by kernel_rfl⟩ (by kernel_rfl) ?_
    refine DerZ.pre 6 (((2 : Nat) ≤ (2 : Nat)) ∧ ((True) ∧ (((0 : Nat) < (2 : Nat)) ∧ ((True) ∧ ((((0 ≤ (↑k : Int)) ∧ ((↑k : Int) < (↑(List.length l) : Int))) ∧ (Int.toNat (↑k : Int) * 4 + 4 ≤ List.length (flsc l))) ∧ (((4 : Nat) ≤ (4 : Nat)) ∧ (True))))))) [.agg [.sl (flsc l) (List.length l) .any, (I6 next)], .ptr 0 0, .sl (flsc l) (List.length l) .any, (I6 (↑k : Int)), .dptr [List.getD (flsc l) (Int.toNat (↑k : Int) * 4 + 0) U6, List.getD (flsc l) (Int.toNat (↑k : Int) * 4 + 1) U6, List.getD (flsc l) (Int.toNat (↑k : Int) * 4 + 2) U6, List.getD (flsc l) (Int.toNat (↑k : Int) * 4 + 3) AVal.undef], .agg [List.getD (flsc l) (Int.toNat (↑k : Int) * 4 + 0) U6, List.getD (flsc l) (Int.toNat (↑k : Int) * 4 + 1) U6, List.getD (flsc l) (Int.toNat (↑k : Int) * 4 + 2) U6, List.getD (flsc l) (Int.toNat (↑k : Int) * 4 + 3) AVal.undef]] ⟨[U6, U6, .ptr 0 0, U6, .ptr 1 0, (I6 0), (I6 0), (I6 (↑k : Int))] ++ UU 8 ++ [(B6 false), U6, .agg [.sl (flsc l) (List.length l) .any, (I6 next)], .ptr 0 0, .sl (flsc l) (List.length l) .any, (I6 (↑k : Int)), .dptr [List.getD (flsc l) (Int.toNat (↑k : Int) * 4 + 0) U6, List.getD (flsc l) (Int.toNat (↑k : Int) * 4 + 1) U6, List.getD (flsc l) (Int.toNat (↑k : Int) * 4 + 2) U6, List.getD (flsc l) (Int.toNat (↑k : Int) * 4 + 3) AVal.undef], .agg [List.getD (flsc l) (Int.toNat (↑k : Int) * 4 + 0) U6, List.getD (flsc l) (Int.toNat (↑k : Int) * 4 + 1) U6, List.getD (flsc l) (Int.toNat (↑k : Int) * 4 + 2) U6, List.getD (flsc l) (Int.toNat (↑k : Int) * 4 + 3) AVal.undef], U6, U6, U6, .undef], [⟨[.sl (flsc l) (List.length l) .any, (I6 next)], 2, .fresh⟩, ⟨[.sl [] 0 .nil, (I6 0)], 2, .fresh⟩]⟩ (by intro x ext; kernel_rfl) (by kernel_rfl) ⟨(by omega), ⟨trivial, ⟨(by omega), ⟨trivial, ⟨⟨⟨(by omega), (by omega)⟩, (by (simp [spliceA_length] <;> omega))⟩, ⟨(by omega), trivial⟩⟩⟩⟩⟩⟩ ?_
    rw [Int.toNat_natCast (k)]
    rw [Nat.add_zero (k * 4)]
    rw [Go.Net.fl_cells (l) (k) (by omega)]
    refine DerZ.callDI (m1) ⟨by kernel_rfl, by kernel_rfl⟩ ?_
    refine DerZ.preI 3 ((True) ∧ ((True) ∧ ((True) ∧ (True)))) (by intro x ext; kernel_rfl) ⟨trivial, ⟨trivial, ⟨trivial, trivial⟩⟩⟩ ?_
    refine DerZ.effI 2 ((2 : Nat) ≤ (2 : Nat)) (by kernel_rfl) ⟨⟨by kernel_rfl, by kernel_rfl⟩, by kernel_rfl⟩ (by omega) ?_
    refine DerZ.preI 2 ((True) ∧ ((True) ∧ (True))) (by intro x ext; kernel_rfl) ⟨trivial, ⟨trivial, trivial⟩⟩ ?_
    refine DerZ.nil ?_
    refine AWP.ret FA
end Go.Net
