/- Walks and laws. -/
import Derived.Test.YtgpikfncinkjlaaIdGT
set_option maxRecDepth 100000
set_option linter.unusedVariables false
namespace Go.Tr
open Go Go.Abs Go.Proofs
theorem cof45 : Try.prog.cellsOf 45 = 4 := by kernel_rfl
theorem stamp_of {xs : List AVal} (h : HasT Try.prog 45 xs) : ∃ (n : Int) (ks : List T) (m : Int) (ls : List T), xs = [.sc (.int .i64 n), .sl (tcs ks) ks.length .any, .sc (.int .i64 m), .sl (tcs ls) ls.length .any] := by
  generalize e : (45 : TypeId) = t at h
  cases h with
  | bool t b h => subst e; rw [Try.underlying45] at h; simp at h
  | int t k n h hw => subst e; rw [Try.underlying45] at h; simp at h
  | string t s h => subst e; rw [Try.underlying45] at h; simp at h
  | slice t e' cs n h hl hb hi => subst e; rw [Try.underlying45] at h; simp at h
  | array t e' n cs h hl hi => subst e; rw [Try.underlying45] at h; simp at h
  | struct t fs cs h hl hi =>
    subst e
    rw [Try.underlying45] at h
    simp only [Option.some.injEq, TypeDesc.struct.injEq] at h
    subst h
    have hl2 : xs.length = 4 := hl.trans cof45
    obtain ⟨n, ks, h0⟩ := tree_of (hi 0 _ rfl)
    obtain ⟨m, ls, h1⟩ := tree_of (hi 1 _ rfl)
    match xs, hl2 with
    | [a, b, c, d], _ =>
      have e1 : [a, b] = [AVal.sc (.int .i64 n), AVal.sl (tcs ks) ks.length .any] := h0
      have e2 : [c, d] = [AVal.sc (.int .i64 m), AVal.sl (tcs ls) ls.length .any] := h1
      exact ⟨n, ks, m, ls, by rw [show [a, b, c, d] = [a, b] ++ [c, d] from rfl, e1, e2]; rfl⟩
theorem tys2 : okTys Try.prog [3, 22, 24, 45] = true := by kernel_rfl
end Go.Tr
