/- Walks and laws. -/
import Derived.Test.YtgpikfncinkjlaaTr0
import Derived.HandedShaped
set_option maxRecDepth 100000
set_option linter.unusedVariables false
namespace Go.Tr
open Go Go.Abs Go.Proofs
theorem cof24 : Try.prog.cellsOf 24 = 2 := by kernel_rfl
theorem tree_has : ∀ (t : TypeId) (cs : List AVal), HasT Try.prog t cs → (t = 24 → ∃ x : T, cs = tc x) ∧ (t = 22 → ∃ ks : List T, cs = [.sl (tcs ks) ks.length .any]) := by
  intro t cs h
  induction h with
  | bool t b h => exact ⟨fun e => by subst e; rw [Try.underlying24] at h; simp at h, fun e => by subst e; rw [Try.underlying22] at h; simp at h⟩
  | int t k n h hw => exact ⟨fun e => by subst e; rw [Try.underlying24] at h; simp at h, fun e => by subst e; rw [Try.underlying22] at h; simp at h⟩
  | string t s h => exact ⟨fun e => by subst e; rw [Try.underlying24] at h; simp at h, fun e => by subst e; rw [Try.underlying22] at h; simp at h⟩
  | slice t e cs n h hl hb hi ih =>
    refine ⟨fun e => by subst e; rw [Try.underlying24] at h; simp at h, fun e => ?_⟩
    subst e
    rw [Try.underlying22] at h
    simp only [Option.some.injEq, TypeDesc.slice.injEq] at h
    subst h
    rw [cof24] at hl ih
    obtain ⟨l, h3, _, h5⟩ := items_of tc (fun _ => True) 2 n cs hl (fun i hi => by
      obtain ⟨o, ho⟩ := (ih i hi).1 rfl
      exact ⟨o, trivial, ho⟩)
    exact ⟨l, by rw [tcs_flat, h5, h3]⟩
  | struct t fs cs h hl hi ih =>
    refine ⟨fun e => ?_, fun e => by subst e; rw [Try.underlying22] at h; simp at h⟩
    subst e
    rw [Try.underlying24] at h
    simp only [Option.some.injEq, TypeDesc.struct.injEq] at h
    subst h
    have hl2 : cs.length = 2 := hl.trans cof24
    have h0 := hi 0 _ rfl
    obtain ⟨ks, hk⟩ := (ih 1 _ rfl).2 rfl
    obtain ⟨n, _, hn⟩ := HasT.int_inv Try.underlying3 h0
    match cs, hl2 with
    | [a, b], _ =>
      have e1 : [a] = [AVal.sc (.int .i64 n)] := hn
      have e2 : [b] = [AVal.sl (tcs ks) ks.length .any] := hk
      injection e1 with e1
      injection e2 with e2
      exact ⟨.mk n ks, by rw [tc, e1, e2]⟩
  | array t e n cs h hl hi ih => exact ⟨fun e => by subst e; rw [Try.underlying24] at h; simp at h, fun e => by subst e; rw [Try.underlying22] at h; simp at h⟩
theorem tree_of {xs : List AVal} (h : HasT Try.prog 24 xs) : ∃ (n : Int) (ks : List T), xs = [.sc (.int .i64 n), .sl (tcs ks) ks.length .any] := by
  obtain ⟨x, hx⟩ := (tree_has 24 xs h).1 rfl
  exact ⟨x.n, x.ks, by rw [hx, tc_eta]⟩
end Go.Tr
