/- Walks and laws. -/
import Derived.Test.YtikllaiggklljaaDk8
import Derived.Test.YtikllaiggklljaaLibC
set_option maxRecDepth 100000
set_option maxHeartbeats 0
set_option linter.unusedSimpArgs false
set_option linter.unusedVariables false
namespace Go.Dk
open Go Go.Abs Go.Proofs
open Go.Chu (concat2)
def synL (l : List FileD) (k : Nat) : List FileD := l.set k ⟨(l.getD k fi0).nm, (l.getD k fi0).d, ((l.getD k fi0).d.length : Int)⟩
theorem fi_set (l : List FileD) (k : Nat) (h : k < l.length) : List.set (fisc l) (k * 3 + 2) (.sc (.int .i64 ((l.getD k fi0).d.length : Int))) = fisc (synL l k) := by
  apply List.ext_getElem (by rw [List.length_set, fisc_length, fisc_length, synL, List.length_set])
  intro j h1 h2
  have hj : j < l.length * 3 := by rw [List.length_set, fisc_length] at h1; exact h1
  have hs : (synL l k).length = l.length := by rw [synL, List.length_set]
  rw [List.getElem_set]
  have hd : j = j / 3 * 3 + j % 3 := by omega
  have e1 : (fisc (synL l k))[j] = (fic ((synL l k).getD (j / 3) fi0)).getD (j % 3) .undef := by
    have := recs_get fic 3 (fun _ => rfl) fi0 (synL l k) (j / 3) (j % 3) (by omega) (by omega)
    rw [← hd] at this
    rw [← this]
    show _ = (fisc (synL l k)).getD j .undef
    rw [List.getD_eq_getElem?_getD, List.getElem?_eq_getElem h2]; rfl
  have h1' : j < (fisc l).length := by rw [fisc_length]; exact hj
  have e2 : (fisc l)[j] = (fic (l.getD (j / 3) fi0)).getD (j % 3) .undef := by
    have := recs_get fic 3 (fun _ => rfl) fi0 l (j / 3) (j % 3) (by omega) (by omega)
    rw [← hd] at this
    rw [← this]
    show _ = (fisc l).getD j .undef
    rw [List.getD_eq_getElem?_getD, List.getElem?_eq_getElem h1']; rfl
  rw [e1, e2]
  by_cases hq : j / 3 = k
  · have e3 : (synL l k).getD (j / 3) fi0 = ⟨(l.getD k fi0).nm, (l.getD k fi0).d, ((l.getD k fi0).d.length : Int)⟩ := by rw [hq, synL, List.getD_eq_getElem?_getD, List.getElem?_set_self h]; rfl
    rw [e3, hq]
    by_cases h5 : k * 3 + 2 = j
    · rw [if_pos h5, show j % 3 = 2 by omega]; rfl
    · rw [if_neg h5]
      rcases (by omega : j % 3 = 0 ∨ j % 3 = 1) with e | e <;> rw [e] <;> rfl
  · have e3 : (synL l k).getD (j / 3) fi0 = l.getD (j / 3) fi0 := by rw [synL, List.getD_eq_getElem?_getD, List.getElem?_set_ne (fun h => hq h.symm), ← List.getD_eq_getElem?_getD]
    rw [e3, if_neg (by omega)]
theorem spl_one (c : List AVal) (o : Nat) (x : AVal) (h : o + 1 ≤ c.length) : spliceA c o [x] = c.set o x := by
  apply List.ext_getElem (by rw [spliceA_length, List.length_set])
  intro j h1 h2
  have g1 : (spliceA c o [x])[j] = (spliceA c o [x]).getD j .undef := by rw [List.getD_eq_getElem?_getD, List.getElem?_eq_getElem h1]; rfl
  have h1' : j < c.length := by rw [spliceA_length] at h1; exact h1
  have g2 : (c.set o x)[j] = if o = j then x else c.getD j .undef := by
    rw [List.getElem_set, List.getD_eq_getElem?_getD, List.getElem?_eq_getElem h1']; rfl
  refine g1.trans (Eq.trans ?_ g2.symm)
  rw [spliceA_getD [x] c o j (by show o + 1 ≤ _; exact h)]
  by_cases h5 : o = j
  · rw [if_pos h5, if_pos ⟨by omega, by show j < o + 1; omega⟩, show j - o = 0 by omega]; rfl
  · rw [if_neg h5, if_neg (by rintro ⟨h3, h4⟩; have h4 : j < o + 1 := h4; omega)]
theorem fi_spl1 (l : List FileD) (k : Nat) (h : k < l.length) : spliceA (fisc l) (k * 3 + 2) [.sc (.int .i64 ((l.getD k fi0).d.length : Int))] = fisc (synL l k) := by
  rw [spl_one _ _ _ (by rw [fisc_length]; omega), fi_set l k h]
theorem sync1 (l : List FileD) (room arm arm0 : Int) (dead : Bool) (k : Nat) (hk : k < l.length) (hx : l.length ≤ 100) : EvF Try.prog 82 [.ptr 3 0, .sc (.int .i64 (k : Nat))] [⟨[.sl (fisc l) l.length .any, .sc (.int .i64 room), .sc (.int .i64 arm0), .sc (.bool dead)], 4, .fresh⟩, ⟨[.fn 82 []], 1, .fresh⟩, ⟨[.sl [] 0 .nil, .sc (.int .i64 0), .sc (.int .i64 0), .sc (.bool false)], 4, .fresh⟩, ⟨[.row 6 0 l.length, .sc (.int .i64 room), .sc (.int .i64 arm), .sc (.bool dead)], 4, .fresh⟩, ⟨[.ptr 3 0], 1, .fresh⟩, ⟨[.sc (.int .i64 (k : Nat))], 1, .fresh⟩, ⟨fisc l, 3, .fresh⟩] (.tup []) [⟨[.sl (fisc l) l.length .any, .sc (.int .i64 room), .sc (.int .i64 arm0), .sc (.bool dead)], 4, .fresh⟩, ⟨[.fn 82 []], 1, .fresh⟩, ⟨[.sl [] 0 .nil, .sc (.int .i64 0), .sc (.int .i64 0), .sc (.bool false)], 4, .fresh⟩, ⟨[.row 6 0 l.length, .sc (.int .i64 room), .sc (.int .i64 arm), .sc (.bool dead)], 4, .fresh⟩, ⟨[.ptr 3 0], 1, .fresh⟩, ⟨[.sc (.int .i64 (k : Nat))], 1, .fresh⟩, ⟨fisc (synL l k), 3, .fresh⟩] := by
  refine EvF.body Try.func82 rfl (fun _ => ?_)
  refine TO ⟨[.ptr 3 0, (I6 (↑k : Int))] ++ UU 20, [⟨[.sl (fisc l) (List.length l) .any, (I6 room), (I6 arm0), (B6 dead)], 4, .fresh⟩, ⟨[.fn 82 []], 1, .fresh⟩, ⟨[.sl [] 0 .nil, (I6 0), (I6 0), (B6 false)], 4, .fresh⟩, ⟨[.row 6 0 (List.length l), (I6 room), (I6 arm), (B6 dead)], 4, .fresh⟩, ⟨[.ptr 3 0], 1, .fresh⟩, ⟨[(I6 (↑k : Int))], 1, .fresh⟩, ⟨fisc l, 3, .fresh⟩]⟩ ?_
  refine AWP.drawB mixed (fun o => if [].contains (o.dst.getD 0) then 1 else if [].contains (o.dst.getD 0) then 2 else if [0, 18].contains (o.dst.getD 0) then 3 else 0) 0 7 (fun x => [⟨[.sl (fisc l) (List.length l) .any, (I6 room), (I6 arm0), (B6 dead)], 4, .fresh⟩, ⟨[.fn 82 []], 1, .fresh⟩, ⟨[.sl [] 0 .nil, (I6 0), (I6 0), (B6 false)], 4, .fresh⟩, ⟨[.row 6 0 (List.length l), (I6 room), (I6 arm), (B6 dead)], 4, .fresh⟩, ⟨[.ptr 3 0], 1, .fresh⟩, ⟨[(I6 (↑k : Int))], 1, .fresh⟩, ⟨x 6, 3, .fresh⟩]) ⟨[.ptr 3 0, (I6 (↑k : Int))] ++ UU 20, [⟨[.sl (fisc l) (List.length l) .any, (I6 room), (I6 arm0), (B6 dead)], 4, .fresh⟩, ⟨[.fn 82 []], 1, .fresh⟩, ⟨[.sl [] 0 .nil, (I6 0), (I6 0), (B6 false)], 4, .fresh⟩, ⟨[.row 6 0 (List.length l), (I6 room), (I6 arm), (B6 dead)], 4, .fresh⟩, ⟨[.ptr 3 0], 1, .fresh⟩, ⟨[(I6 (↑k : Int))], 1, .fresh⟩, ⟨fisc l, 3, .fresh⟩]⟩ (by kernel_rfl) ⟨by kernel_rfl, by kernel_rfl⟩ (by kernel_rfl) ?_
  refine DerZ.pre 14 ((True) ∧ ((True) ∧ ((True) ∧ ((True) ∧ (((0 : Nat) < (4 : Nat)) ∧ ((True) ∧ ((True) ∧ ((True) ∧ ((True) ∧ ((True) ∧ (((0 : Nat) < (4 : Nat)) ∧ ((True) ∧ ((((0 ≤ (↑k : Int)) ∧ ((↑k : Int) < (↑(List.length l) : Int))) ∧ ((3 : Nat) = (3 : Nat))) ∧ ((True) ∧ (True))))))))))))))) [.ptr 3 0, .ptr 3 0, .ptr 3 0, .ptr 3 0, .row 6 0 (List.length l), (I6 (↑k : Int)), .ptr 3 0, .ptr 3 0, .ptr 3 0, .ptr 3 0, .row 6 0 (List.length l), (I6 (↑k : Int)), .ptr 6 (0 + Int.toNat (↑k : Int) * 3), .ptr 6 (0 + Int.toNat (↑k : Int) * 3 + 1)] ⟨[.ptr 3 0, (I6 (↑k : Int)), U6, U6, .ptr 3 0, .ptr 3 0, .ptr 3 0, .ptr 3 0, .row 6 0 (List.length l), (I6 (↑k : Int)), .ptr 3 0, .ptr 3 0, .ptr 3 0, .ptr 3 0, .row 6 0 (List.length l), (I6 (↑k : Int)), .ptr 6 (0 + Int.toNat (↑k : Int) * 3), .ptr 6 (0 + Int.toNat (↑k : Int) * 3 + 1), U6, U6, U6, .undef], [⟨[.sl (fisc l) (List.length l) .any, (I6 room), (I6 arm0), (B6 dead)], 4, .fresh⟩, ⟨[.fn 82 []], 1, .fresh⟩, ⟨[.sl [] 0 .nil, (I6 0), (I6 0), (B6 false)], 4, .fresh⟩, ⟨[.row 6 0 (List.length l), (I6 room), (I6 arm), (B6 dead)], 4, .fresh⟩, ⟨[.ptr 3 0], 1, .fresh⟩, ⟨[(I6 (↑k : Int))], 1, .fresh⟩, ⟨fisc l, 3, .fresh⟩]⟩ (by intro x ext; kernel_rfl) (by kernel_rfl) ⟨trivial, ⟨trivial, ⟨trivial, ⟨trivial, ⟨(by omega), ⟨trivial, ⟨trivial, ⟨trivial, ⟨trivial, ⟨trivial, ⟨(by omega), ⟨trivial, ⟨⟨⟨(by omega), (by omega)⟩, (by omega)⟩, ⟨trivial, trivial⟩⟩⟩⟩⟩⟩⟩⟩⟩⟩⟩⟩⟩⟩ ?_
  rw [Int.toNat_natCast (k)]
  rw [Nat.zero_add (k * 3)]
  refine DerZ.eff 7 (k * 3 + 1 < List.length (fisc l)) (List.getD (fisc l) (k * 3 + 1) AVal.undef) [⟨[.sl (fisc l) (List.length l) .any, (I6 room), (I6 arm0), (B6 dead)], 4, .fresh⟩, ⟨[.fn 82 []], 1, .fresh⟩, ⟨[.sl [] 0 .nil, (I6 0), (I6 0), (B6 false)], 4, .fresh⟩, ⟨[.row 6 0 (List.length l), (I6 room), (I6 arm), (B6 dead)], 4, .fresh⟩, ⟨[.ptr 3 0], 1, .fresh⟩, ⟨[(I6 (↑k : Int))], 1, .fresh⟩, ⟨fisc l, 3, .fresh⟩] ⟨[.ptr 3 0, (I6 (↑k : Int)), U6, U6, .ptr 3 0, .ptr 3 0, .ptr 3 0, .ptr 3 0, .row 6 0 (List.length l), (I6 (↑k : Int)), .ptr 3 0, .ptr 3 0, .ptr 3 0, .ptr 3 0, .row 6 0 (List.length l), (I6 (↑k : Int)), .ptr 6 (k * 3), .ptr 6 (k * 3 + 1), List.getD (fisc l) (k * 3 + 1) U6, U6, U6, .undef], [⟨[.sl (fisc l) (List.length l) .any, (I6 room), (I6 arm0), (B6 dead)], 4, .fresh⟩, ⟨[.fn 82 []], 1, .fresh⟩, ⟨[.sl [] 0 .nil, (I6 0), (I6 0), (B6 false)], 4, .fresh⟩, ⟨[.row 6 0 (List.length l), (I6 room), (I6 arm), (B6 dead)], 4, .fresh⟩, ⟨[.ptr 3 0], 1, .fresh⟩, ⟨[(I6 (↑k : Int))], 1, .fresh⟩, ⟨fisc l, 3, .fresh⟩]⟩ (by kernel_rfl) ⟨⟨by kernel_rfl, by kernel_rfl⟩, by kernel_rfl, by kernel_rfl⟩ (by (simp [spliceA_length] <;> omega)) ?_
  rw [Go.Dk.fi_1 (l) (k) (by omega)]
  refine DerZ.pre 3 ((True) ∧ ((((0 ≤ (↑k : Int)) ∧ ((↑k : Int) < (↑(List.length l) : Int))) ∧ ((3 : Nat) = (3 : Nat))) ∧ ((True) ∧ (True)))) [(I6 (↑(List.length (List.getD l k fi0).d) : Int)), .ptr 6 (0 + Int.toNat (↑k : Int) * 3), .ptr 6 (0 + Int.toNat (↑k : Int) * 3 + 2)] ⟨[.ptr 3 0, (I6 (↑k : Int)), U6, U6, .ptr 3 0, .ptr 3 0, .ptr 3 0, .ptr 3 0, .row 6 0 (List.length l), (I6 (↑k : Int)), .ptr 3 0, .ptr 3 0, .ptr 3 0, .ptr 3 0, .row 6 0 (List.length l), (I6 (↑k : Int)), .ptr 6 (k * 3), .ptr 6 (k * 3 + 1), .sl (u8s (List.getD l k fi0).d) (List.length (List.getD l k fi0).d) .any, (I6 (↑(List.length (List.getD l k fi0).d) : Int)), .ptr 6 (0 + Int.toNat (↑k : Int) * 3), .ptr 6 (0 + Int.toNat (↑k : Int) * 3 + 2)], [⟨[.sl (fisc l) (List.length l) .any, (I6 room), (I6 arm0), (B6 dead)], 4, .fresh⟩, ⟨[.fn 82 []], 1, .fresh⟩, ⟨[.sl [] 0 .nil, (I6 0), (I6 0), (B6 false)], 4, .fresh⟩, ⟨[.row 6 0 (List.length l), (I6 room), (I6 arm), (B6 dead)], 4, .fresh⟩, ⟨[.ptr 3 0], 1, .fresh⟩, ⟨[(I6 (↑k : Int))], 1, .fresh⟩, ⟨fisc l, 3, .fresh⟩]⟩ (by intro x ext; kernel_rfl) (by kernel_rfl) ⟨trivial, ⟨⟨⟨(by omega), (by omega)⟩, (by omega)⟩, ⟨trivial, trivial⟩⟩⟩ ?_
  rw [Int.toNat_natCast (k)]
  rw [Nat.zero_add (k * 3)]
  refine DerZ.eff 7 (k * 3 + 2 + 1 ≤ List.length (fisc l)) (.tup []) [⟨[.sl (fisc l) (List.length l) .any, (I6 room), (I6 arm0), (B6 dead)], 4, .fresh⟩, ⟨[.fn 82 []], 1, .fresh⟩, ⟨[.sl [] 0 .nil, (I6 0), (I6 0), (B6 false)], 4, .fresh⟩, ⟨[.row 6 0 (List.length l), (I6 room), (I6 arm), (B6 dead)], 4, .fresh⟩, ⟨[.ptr 3 0], 1, .fresh⟩, ⟨[(I6 (↑k : Int))], 1, .fresh⟩, ⟨spliceA (fisc l) (k * 3 + 2) [(I6 (↑(List.length (List.getD l k fi0).d) : Int))], 3, .fresh⟩] ⟨[.ptr 3 0, (I6 (↑k : Int)), U6, U6, .ptr 3 0, .ptr 3 0, .ptr 3 0, .ptr 3 0, .row 6 0 (List.length l), (I6 (↑k : Int)), .ptr 3 0, .ptr 3 0, .ptr 3 0, .ptr 3 0, .row 6 0 (List.length l), (I6 (↑k : Int)), .ptr 6 (k * 3), .ptr 6 (k * 3 + 1), .sl (u8s (List.getD l k fi0).d) (List.length (List.getD l k fi0).d) .any, (I6 (↑(List.length (List.getD l k fi0).d) : Int)), .ptr 6 (k * 3), .ptr 6 (k * 3 + 2)], [⟨[.sl (fisc l) (List.length l) .any, (I6 room), (I6 arm0), (B6 dead)], 4, .fresh⟩, ⟨[.fn 82 []], 1, .fresh⟩, ⟨[.sl [] 0 .nil, (I6 0), (I6 0), (B6 false)], 4, .fresh⟩, ⟨[.row 6 0 (List.length l), (I6 room), (I6 arm), (B6 dead)], 4, .fresh⟩, ⟨[.ptr 3 0], 1, .fresh⟩, ⟨[(I6 (↑k : Int))], 1, .fresh⟩, ⟨spliceA (fisc l) (k * 3 + 2) [(I6 (↑(List.length (List.getD l k fi0).d) : Int))], 3, .fresh⟩]⟩ (by kernel_rfl) ⟨⟨by kernel_rfl, by kernel_rfl⟩, by kernel_rfl, by kernel_rfl⟩ (by (simp [spliceA_length] <;> omega)) ?_
  rw [Go.Dk.fi_spl1 (l) (k) (by omega)]
  refine DerZ.nil ?_
  refine FI (.tup []) ?_
  exact Shrink.refl _ _ _
theorem chg_sync (l : List FileD) (room arm arm0 : Int) (dead : Bool) (k : Nat) (hk : k < l.length) (hx : l.length ≤ 100) : EvF Try.prog 95 [.ptr 1 0, .ptr 4 0, .ptr 5 0] [⟨[.sl (fisc l) l.length .any, .sc (.int .i64 room), .sc (.int .i64 arm0), .sc (.bool dead)], 4, .fresh⟩, ⟨[.fn 82 []], 1, .fresh⟩, ⟨[.sl [] 0 .nil, .sc (.int .i64 0), .sc (.int .i64 0), .sc (.bool false)], 4, .fresh⟩, ⟨[.row 6 0 l.length, .sc (.int .i64 room), .sc (.int .i64 arm), .sc (.bool dead)], 4, .fresh⟩, ⟨[.ptr 3 0], 1, .fresh⟩, ⟨[.sc (.int .i64 (k : Nat))], 1, .fresh⟩, ⟨fisc l, 3, .fresh⟩] (.tup []) [⟨[.sl (fisc l) l.length .any, .sc (.int .i64 room), .sc (.int .i64 arm0), .sc (.bool dead)], 4, .fresh⟩, ⟨[.fn 82 []], 1, .fresh⟩, ⟨[.sl [] 0 .nil, .sc (.int .i64 0), .sc (.int .i64 0), .sc (.bool false)], 4, .fresh⟩, ⟨[.row 6 0 l.length, .sc (.int .i64 room), .sc (.int .i64 arm), .sc (.bool dead)], 4, .fresh⟩, ⟨[.ptr 3 0], 1, .fresh⟩, ⟨[.sc (.int .i64 (k : Nat))], 1, .fresh⟩, ⟨fisc (synL l k), 3, .fresh⟩] := by
  refine EvF.body Try.func95 rfl (fun _ => ?_)
  refine TO ⟨[.ptr 1 0, .ptr 4 0, .ptr 5 0, U6, U6, U6, .undef], [⟨[.sl (fisc l) (List.length l) .any, (I6 room), (I6 arm0), (B6 dead)], 4, .fresh⟩, ⟨[.fn 82 []], 1, .fresh⟩, ⟨[.sl [] 0 .nil, (I6 0), (I6 0), (B6 false)], 4, .fresh⟩, ⟨[.row 6 0 (List.length l), (I6 room), (I6 arm), (B6 dead)], 4, .fresh⟩, ⟨[.ptr 3 0], 1, .fresh⟩, ⟨[(I6 (↑k : Int))], 1, .fresh⟩, ⟨fisc l, 3, .fresh⟩]⟩ ?_
  refine AWP.reg (PI 3 (0 < 1 ∧ 0 < 1 ∧ 0 < 1 ∧ True) ⟨(by omega), (by omega), (by omega), trivial⟩ ?_)
  refine DerQ.callM (sync1 l room arm arm0 dead k hk hx) [.ptr 3 0, (I6 (↑k : Int))] ⟨[.ptr 1 0, .ptr 4 0, .ptr 5 0, .fn 82 [], .ptr 3 0, (I6 (↑k : Int)), .tup []], [⟨[.sl (fisc l) (List.length l) .any, (I6 room), (I6 arm0), (B6 dead)], 4, .fresh⟩, ⟨[.fn 82 []], 1, .fresh⟩, ⟨[.sl [] 0 .nil, (I6 0), (I6 0), (B6 false)], 4, .fresh⟩, ⟨[.row 6 0 (List.length l), (I6 room), (I6 arm), (B6 dead)], 4, .fresh⟩, ⟨[.ptr 3 0], 1, .fresh⟩, ⟨[(I6 (↑k : Int))], 1, .fresh⟩, ⟨fisc (synL l k), 3, .fresh⟩]⟩ ⟨by kernel_rfl, by kernel_rfl, by kernel_rfl, by kernel_rfl, by kernel_rfl⟩ ?_
  refine DerQ.nil ?_
  refine FI (.tup []) ?_
  exact Shrink.refl _ _ _
theorem done_sync (l : List FileD) (room arm : Int) (dead : Bool) (k : Nat) (hk : k < l.length) (hx : l.length ≤ 100) (ha : -1 ≤ arm ∧ arm ≤ 9223372036854775807) (h0 : arm ≠ 0) : EvF Try.prog 69 [.ptr 3 0, .fn 95 [.ptr 1 0, .ptr 4 0, .ptr 5 0]] [⟨[.sl (fisc l) l.length .any, .sc (.int .i64 room), .sc (.int .i64 arm), .sc (.bool dead)], 4, .fresh⟩, ⟨[.fn 82 []], 1, .fresh⟩, ⟨[.sl [] 0 .nil, .sc (.int .i64 0), .sc (.int .i64 0), .sc (.bool false)], 4, .fresh⟩, ⟨[.row 6 0 l.length, .sc (.int .i64 room), .sc (.int .i64 arm), .sc (.bool dead)], 4, .fresh⟩, ⟨[.ptr 3 0], 1, .fresh⟩, ⟨[.sc (.int .i64 (k : Nat))], 1, .fresh⟩, ⟨fisc l, 3, .fresh⟩] (.sc (.int .i64 0)) [⟨[.sl (fisc l) l.length .any, .sc (.int .i64 room), .sc (.int .i64 arm), .sc (.bool dead)], 4, .fresh⟩, ⟨[.fn 82 []], 1, .fresh⟩, ⟨[.sl [] 0 .nil, .sc (.int .i64 0), .sc (.int .i64 0), .sc (.bool false)], 4, .fresh⟩, ⟨[.row 6 0 l.length, .sc (.int .i64 room), .sc (.int .i64 (armN arm)), .sc (.bool dead)], 4, .fresh⟩, ⟨[.ptr 3 0], 1, .fresh⟩, ⟨[.sc (.int .i64 (k : Nat))], 1, .fresh⟩, ⟨fisc (synL l k), 3, .fresh⟩] := by
  unfold armN
  refine EvF.body Try.func69 rfl (fun _ => ?_)
  refine AWP.seq ?_
  refine TO ⟨[.ptr 3 0, .fn 95 [.ptr 1 0, .ptr 4 0, .ptr 5 0]] ++ UU 26, [⟨[.sl (fisc l) (List.length l) .any, (I6 room), (I6 arm), (B6 dead)], 4, .fresh⟩, ⟨[.fn 82 []], 1, .fresh⟩, ⟨[.sl [] 0 .nil, (I6 0), (I6 0), (B6 false)], 4, .fresh⟩, ⟨[.row 6 0 (List.length l), (I6 room), (I6 arm), (B6 dead)], 4, .fresh⟩, ⟨[.ptr 3 0], 1, .fresh⟩, ⟨[(I6 (↑k : Int))], 1, .fresh⟩, ⟨fisc l, 3, .fresh⟩]⟩ ?_
  refine AWP.reg (RT 1 ?_)
  refine AWP.seq (AWP.seq ?_)
  refine TO ⟨[.ptr 3 0, .fn 95 [.ptr 1 0, .ptr 4 0, .ptr 5 0], U6, U6, (I6 0)] ++ UU 23, [⟨[.sl (fisc l) (List.length l) .any, (I6 room), (I6 arm), (B6 dead)], 4, .fresh⟩, ⟨[.fn 82 []], 1, .fresh⟩, ⟨[.sl [] 0 .nil, (I6 0), (I6 0), (B6 false)], 4, .fresh⟩, ⟨[.row 6 0 (List.length l), (I6 room), (I6 arm), (B6 dead)], 4, .fresh⟩, ⟨[.ptr 3 0], 1, .fresh⟩, ⟨[(I6 (↑k : Int))], 1, .fresh⟩, ⟨fisc l, 3, .fresh⟩]⟩ ?_
  refine AWP.reg (RI (True ∧ True ∧ True ∧ True ∧ 2 < 4 ∧ True ∧ True) ⟨trivial, trivial, trivial, trivial, (by omega), trivial, trivial⟩ ?_)
  refine KL (NN 5 5) ⟨[.ptr 3 0, .fn 95 [.ptr 1 0, .ptr 4 0, .ptr 5 0], U6, U6, (I6 0)] ++ UU 5 ++ [(B6 (arm == 0))] ++ UU 17, [⟨[.sl (fisc l) (List.length l) .any, (I6 room), (I6 arm), (B6 dead)], 4, .fresh⟩, ⟨[.fn 82 []], 1, .fresh⟩, ⟨[.sl [] 0 .nil, (I6 0), (I6 0), (B6 false)], 4, .fresh⟩, ⟨[.row 6 0 (List.length l), (I6 room), (I6 arm), (B6 dead)], 4, .fresh⟩, ⟨[.ptr 3 0], 1, .fresh⟩, ⟨[(I6 (↑k : Int))], 1, .fresh⟩, ⟨fisc l, 3, .fresh⟩]⟩ ?_
  refine CN (arm == 0) (fun h1 => ?_) (fun h1 => ?_)
  · have h1' := eq_of_beq h1
    exfalso; omega
  · have h1' := ne_of_beq_false h1
    refine AWP.skip (SQ ?_)
    refine DerQ.run (True ∧ True ∧ True ∧ True ∧ True ∧ 2 < 4 ∧ True ∧ True ∧ True ∧ True ∧ True ∧ 3 ≤ 4 ∧ True) ⟨[.ptr 3 0, .fn 95 [.ptr 1 0, .ptr 4 0, .ptr 5 0], U6, U6, (I6 0)] ++ UU 5 ++ [(B6 (arm == 0)), U6, U6, U6, U6, .ptr 3 0, .ptr 3 0, .ptr 3 0, .ptr 3 0, .ptr 3 2, (I6 arm), (I6 (IntKind.wrap IntKind.i64 (arm - 1))), (I6 (if -1 > IntKind.wrap IntKind.i64 (arm - 1) then -1 else IntKind.wrap IntKind.i64 (arm - 1))), .ptr 3 0, .ptr 3 0, .ptr 3 2, U6, .undef], [⟨[.sl (fisc l) (List.length l) .any, (I6 room), (I6 arm), (B6 dead)], 4, .fresh⟩, ⟨[.fn 82 []], 1, .fresh⟩, ⟨[.sl [] 0 .nil, (I6 0), (I6 0), (B6 false)], 4, .fresh⟩, ⟨[.row 6 0 (List.length l), (I6 room), (I6 (if -1 > IntKind.wrap IntKind.i64 (arm - 1) then -1 else IntKind.wrap IntKind.i64 (arm - 1))), (B6 dead)], 4, .fresh⟩, ⟨[.ptr 3 0], 1, .fresh⟩, ⟨[(I6 (↑k : Int))], 1, .fresh⟩, ⟨fisc l, 3, .fresh⟩]⟩ (by kernel_rfl) ⟨trivial, trivial, trivial, trivial, trivial, (by omega), trivial, trivial, trivial, trivial, trivial, (by omega), trivial⟩ ?_
    rw [IntWalk.i64_in (arm - 1) (by omega)]
    refine AWP.seq (KL ([0, 10] ++ NN 15 11) ⟨[U6, .fn 95 [.ptr 1 0, .ptr 4 0, .ptr 5 0], U6, U6, (I6 0)] ++ UU 23, [⟨[.sl (fisc l) (List.length l) .any, (I6 room), (I6 arm), (B6 dead)], 4, .fresh⟩, ⟨[.fn 82 []], 1, .fresh⟩, ⟨[.sl [] 0 .nil, (I6 0), (I6 0), (B6 false)], 4, .fresh⟩, ⟨[.row 6 0 (List.length l), (I6 room), (I6 (if -1 > arm - 1 then -1 else arm - 1)), (B6 dead)], 4, .fresh⟩, ⟨[.ptr 3 0], 1, .fresh⟩, ⟨[(I6 (↑k : Int))], 1, .fresh⟩, ⟨fisc l, 3, .fresh⟩]⟩ ?_)
    refine AWP.reg (PT 1 1 ?_)
    refine DerQ.callM (chg_sync l room (if -1 > arm - 1 then -1 else arm - 1) arm dead k hk hx) [.ptr 1 0, .ptr 4 0, .ptr 5 0] ⟨[U6, .fn 95 [.ptr 1 0, .ptr 4 0, .ptr 5 0], U6, U6, (I6 0)] ++ UU 21 ++ [.fn 95 [.ptr 1 0, .ptr 4 0, .ptr 5 0], .tup []], [⟨[.sl (fisc l) (List.length l) .any, (I6 room), (I6 arm), (B6 dead)], 4, .fresh⟩, ⟨[.fn 82 []], 1, .fresh⟩, ⟨[.sl [] 0 .nil, (I6 0), (I6 0), (B6 false)], 4, .fresh⟩, ⟨[.row 6 0 (List.length l), (I6 room), (I6 (if -1 > arm - 1 then -1 else arm - 1)), (B6 dead)], 4, .fresh⟩, ⟨[.ptr 3 0], 1, .fresh⟩, ⟨[(I6 (↑k : Int))], 1, .fresh⟩, ⟨fisc (synL l k), 3, .fresh⟩]⟩ ⟨by kernel_rfl, by kernel_rfl, by kernel_rfl, by kernel_rfl, by kernel_rfl⟩ ?_
    refine DerQ.nil ?_
    refine SQ (RT 1 ?_)
    refine AWP.ret ?_
    refine FI (I6 0) ?_
    exact Shrink.refl _ _ _
end Go.Dk
