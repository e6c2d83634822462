/- Walks and laws. -/
import Derived.Test.YtmcjdeiicbgmhabMgG
import Derived.Test.YtmcjdeiicbgmhabChB8
set_option maxRecDepth 100000
set_option maxHeartbeats 0
set_option linter.unusedSimpArgs false
set_option linter.unusedVariables false
namespace Go.Chu
open Go Go.Abs Go.Proofs
theorem msgs_of {y : AVal} (h : HasT Try.prog 56 [y]) : ∃ l : List MT, y = .sl (mss l) l.length .any := by
  obtain ⟨ys, n, h0, h1, _, h2⟩ := HasT.slice_inv Try.underlying56 h
  have hc : Try.prog.cellsOf 40 = 56 := by kernel_rfl
  rw [hc] at h1 h2
  obtain ⟨l, h3, _, h5⟩ := items_of mcells (fun _ => True) 56 n ys h1 (fun i hi => by
    obtain ⟨x, _, hx⟩ := msg_of (h2 i hi)
    exact ⟨x, trivial, hx⟩)
  subst h3
  injection h0 with h0
  exact ⟨l, by rw [h0, h5]; rfl⟩
theorem tys2 : okTys Try.prog [3, 4, 5, 9, 22, 23, 25, 27, 29, 30, 32, 33, 35, 37, 38, 40, 56, 87, 89] = true := by kernel_rfl
end Go.Chu
