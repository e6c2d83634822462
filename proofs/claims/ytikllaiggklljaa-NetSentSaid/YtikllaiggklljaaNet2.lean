/- Walks and laws. -/
import Derived.Test.YtikllaiggklljaaNet1
import Derived.Test.YtikllaiggklljaaLibC
set_option maxRecDepth 100000
set_option maxHeartbeats 0
set_option linter.unusedSimpArgs false
set_option linter.unusedVariables false
namespace Go.Net
open Go Go.Abs Go.Proofs
theorem fl_spl (l : List FlD) (k : Nat) (h : k < l.length) (a b : Int) (d : List Int) (s : Bool) : spliceA (flsc l) (k * 4) [.sc (.int .i64 a), .sc (.int .i64 b), .sl (u8s d) (List.length d) .any, .sc (.bool s)] = flsc (l.set k ⟨a, b, d, s⟩) := by
  have hlen : (spliceA (flsc l) (k * 4) (flc ⟨a, b, d, s⟩)).length = (flsc (l.set k ⟨a, b, d, s⟩)).length := by rw [spliceA_length, flsc_length, flsc_length, List.length_set]
  apply List.ext_getElem hlen
  intro j h1 h2
  have hj : j < l.length * 4 := by rw [flsc_length, List.length_set] at h2; exact h2
  have g1 : (spliceA (flsc l) (k * 4) (flc ⟨a, b, d, s⟩)).getD j .undef = (spliceA (flsc l) (k * 4) (flc ⟨a, b, d, s⟩))[j] := by rw [List.getD_eq_getElem?_getD, List.getElem?_eq_getElem h1]; rfl
  have g2 : (flsc (l.set k ⟨a, b, d, s⟩)).getD j .undef = (flsc (l.set k ⟨a, b, d, s⟩))[j] := by rw [List.getD_eq_getElem?_getD, List.getElem?_eq_getElem h2]; rfl
  show (spliceA (flsc l) (k * 4) (flc ⟨a, b, d, s⟩))[j] = _
  rw [← g1, ← g2, spliceA_getD (flc ⟨a, b, d, s⟩) (flsc l) (k * 4) j (by rw [flsc_length]; show k * 4 + 4 ≤ _; omega)]
  have hd : j = j / 4 * 4 + j % 4 := by omega
  have e1 : (flsc (l.set k ⟨a, b, d, s⟩)).getD j .undef = (flc ((l.set k ⟨a, b, d, s⟩).getD (j / 4) fl0)).getD (j % 4) .undef := by
    rw [hd]
    have := recs_get flc 4 (fun _ => rfl) fl0 (l.set k ⟨a, b, d, s⟩) (j / 4) (j % 4) (by rw [List.length_set]; omega) (by omega)
    rw [show (j / 4 * 4 + j % 4) / 4 = j / 4 by omega, show (j / 4 * 4 + j % 4) % 4 = j % 4 by omega]
    exact this
  have e2 : (flsc l).getD j .undef = (flc (l.getD (j / 4) fl0)).getD (j % 4) .undef := by
    rw [hd]
    have := recs_get flc 4 (fun _ => rfl) fl0 l (j / 4) (j % 4) (by omega) (by omega)
    rw [show (j / 4 * 4 + j % 4) / 4 = j / 4 by omega, show (j / 4 * 4 + j % 4) % 4 = j % 4 by omega]
    exact this
  rw [e1, e2]
  by_cases hq : j / 4 = k
  · rw [if_pos ⟨by omega, by show j < k * 4 + 4; omega⟩]
    have e3 : (l.set k ⟨a, b, d, s⟩).getD (j / 4) fl0 = ⟨a, b, d, s⟩ := by rw [hq, List.getD_eq_getElem?_getD, List.getElem?_set_self h]; rfl
    rw [e3, show j - k * 4 = j % 4 by omega]
  · rw [if_neg (by rintro ⟨h3, h4⟩; have h4 : j < k * 4 + 4 := h4; omega)]
    have e3 : (l.set k ⟨a, b, d, s⟩).getD (j / 4) fl0 = l.getD (j / 4) fl0 := by rw [List.getD_eq_getElem?_getD, List.getElem?_set_ne (fun h => hq h.symm), ← List.getD_eq_getElem?_getD]
    rw [e3]
def addL (l : List FlD) (next : Int) (f : FlD) : List FlD := l ++ [⟨next, f.to, f.d, f.sp⟩]
theorem addL_len (l : List FlD) (next : Int) (f : FlD) : (addL l next f).length = l.length + 1 := by simp [addL]
def rmL (l : List FlD) (k : Nat) : List FlD := l.take k ++ l.drop (k + 1)
theorem rmL_len (l : List FlD) (k : Nat) (h : k < l.length) : (rmL l k).length = l.length - 1 := by unfold rmL; rw [List.length_append, List.length_take, List.length_drop]; omega
end Go.Net
