/- Library: an abstract machine over the model, part 20. -/
import Derived.Test.YtmcjdeiicbgmhabAbs19
import Derived.IntWalk
set_option linter.unusedVariables false
set_option linter.unusedSimpArgs false
namespace Go.Abs
open Go

/-- Only what the mask says is kept. -/
def onlyL : List Bool → List AVal → List AVal
  | true :: m, x :: l => x :: onlyL m l
  | false :: m, _ :: l => .undef :: onlyL m l
  | [], l => l
  | _, [] => []
def St.only (mask : List Bool) (st : St) : St := ⟨onlyL mask st.regs, st.rows⟩

theorem onlyL_length : ∀ (m : List Bool) (l : List AVal), (onlyL m l).length = l.length
  | true :: m, x :: l => by simp [onlyL, onlyL_length m l]
  | false :: m, _ :: l => by simp [onlyL, onlyL_length m l]
  | [], l => by simp [onlyL]
  | true :: m, [] => by simp [onlyL]
  | false :: m, [] => by simp [onlyL]
theorem onlyL_get : ∀ (m : List Bool) (l : List AVal) (i : Nat), (onlyL m l).getD i .undef = l.getD i .undef ∨ (onlyL m l).getD i .undef = .undef
  | true :: m, x :: l, 0 => by simp [onlyL]
  | true :: m, x :: l, i + 1 => by simpa [onlyL] using onlyL_get m l i
  | false :: m, _ :: l, 0 => by simp [onlyL]
  | false :: m, _ :: l, i + 1 => by simpa [onlyL] using onlyL_get m l i
  | [], l, i => by simp [onlyL]
  | true :: m, [], i => by simp [onlyL]
  | false :: m, [], i => by simp [onlyL]

theorem St.only_weak (N : Nat) (mask : List Bool) (st : St) : Weak N st (st.only mask) := by
  intro hN
  refine ⟨hN, fun X m w a h => ⟨m, ⟨h.rel, by rw [St.only, onlyL_length]; exact h.len, ?_, h.defers⟩, Evo.refl _ _⟩⟩
  intro i hi
  simp only [St.only, onlyL_length] at hi
  show V _ ((onlyL mask st.regs).getD i .undef) _
  rcases onlyL_get mask st.regs i with h' | h'
  · rw [h']; exact h.regs i hi
  · rw [h']; exact .undef _

theorem AWP.only {P : Program} {N : Nat} {c : Code} {Q : Exit → St → Prop} {st : St} (mask : List Bool) (h : AWP P N c Q (st.only mask)) : AWP P N c Q st := AWP.weaken (St.only_weak N mask st) h

theorem AWP.post {P : Program} {N : Nat} {c : Code} {Q Q' : Exit → St → Prop} {st : St} (h : AWP P N c Q st) (hq : ∀ e s, Q e s → N ≤ s.rows.length → ∃ s', Weak N s s' ∧ Q' e s') : AWP P N c Q' st := by
  intro hN X m w a hr
  refine wp_mono (h hN X m w a hr) ?_
  rintro e a' w' ⟨s, m', h1, h2, h3, h4⟩
  obtain ⟨s', hw, hq'⟩ := hq e s h1 h2
  obtain ⟨k1, k2⟩ := hw h2
  obtain ⟨m2, k3, k4⟩ := k2 X m' w' a' h3
  exact ⟨s', m2, hq', k1, k3, h4.trans k4⟩

/-- A loop: behind each round just what the mask says is known. -/
theorem AWP.loopM {P : Program} {N : Nat} {c : Code} {Q : Exit → St → Prop} {st : St} (mask : List Bool) (I : Nat → St → Prop) (n₀ : Nat) (h₀ : I n₀ (st.only mask))
    (round : ∀ n s, I n s → AWP P N c (thenQ (fun s' => ∃ n', n' < n ∧ I n' (s'.only mask)) Q) s) : AWP P N (.loop c) Q st := by
  refine AWP.only mask (AWP.loop I n₀ h₀ fun n s hI => ?_)
  refine AWP.post (round n s hI) ?_
  intro e s' hq hN
  cases e with
  | normal => exact ⟨s'.only mask, St.only_weak N mask s', hq⟩
  | exit id => exact ⟨s', fun hN => ⟨hN, fun X m w a h => ⟨m, h, Evo.refl _ _⟩⟩, hq⟩
  | goto l => exact ⟨s', fun hN => ⟨hN, fun X m w a h => ⟨m, h, Evo.refl _ _⟩⟩, hq⟩
  | ret => exact ⟨s', fun hN => ⟨hN, fun X m w a h => ⟨m, h, Evo.refl _ _⟩⟩, hq⟩
  | panic ch => exact ⟨s', fun hN => ⟨hN, fun X m w a h => ⟨m, h, Evo.refl _ _⟩⟩, hq⟩
  | outgrown => exact ⟨s', fun hN => ⟨hN, fun X m w a h => ⟨m, h, Evo.refl _ _⟩⟩, hq⟩
end Go.Abs
namespace Go.Abs
theorem Shrink.dataE {rows : List Row} {r1 r : AVal} (l : List Nat) (r2 : AVal) (h : (frzB 0 l rows r1).map (·.2) = some r2) (he : r2 = r) (hd : r.data = true) : Shrink 0 rows r1 [] r := by
  subst he; exact Shrink.data l h hd
end Go.Abs

namespace Go.Abs
open Go
/-- bytes -/
abbrev u8s (xs : List Int) : List AVal := xs.map fun x => .sc (.int .u8 x)
theorem u8s_getD (xs : List Int) (i : Nat) (h : i < xs.length) : (u8s xs).getD i .undef = .sc (.int .u8 (xs.getD i 0)) := by
  simp [u8s, List.getD_eq_getElem?_getD, h]
end Go.Abs
