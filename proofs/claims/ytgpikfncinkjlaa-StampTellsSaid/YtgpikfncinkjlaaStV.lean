/- Walks and laws. -/
import Derived.Test.YtgpikfncinkjlaaStU
import Derived.Test.YtgpikfncinkjlaaSt5
set_option linter.unusedSimpArgs false
set_option linter.unusedVariables false
namespace Go.Tr
open Go Go.Abs Go.Proofs
theorem size_fork {a b : T} (ha : size a ≤ 1000) (hb : size b ≤ 1000) : size (forkP a b).1.1 ≤ 1002 ∧ size (forkP a b).1.2 ≤ 1002 ∧ size (forkP a b).2.1.1 ≤ 1002 ∧ size (forkP a b).2.1.2 ≤ 1002 := by
  have h := size_splitP a
  unfold forkP
  (repeat' split) <;> simp only [size, sizes] <;> omega
theorem size_joinS {a b c d : T} (ha : size a ≤ 1000) (hb : size b ≤ 1000) (hc : size c ≤ 1000) (hd : size d ≤ 1000) : size (joinSP a b c d).1.1 ≤ 140000 ∧ size (joinSP a b c d).1.2 ≤ 140000 := by
  have h := size_sumP a c
  have h2 := size_joinP b d
  unfold joinSP
  (repeat' split) <;> simp only [size, sizes] <;> omega
theorem size_event {a b : T} (ha : size a ≤ 1000) (hb : size b ≤ 1000) : size (eventP a b).1.1 ≤ 4000 ∧ size (eventP a b).1.2 ≤ 4000 := by
  have h := next_size a b
  unfold eventP
  (repeat' split) <;> simp only [size, sizes] <;> omega
theorem sr_self (a b : T) (ha : size a ≤ 1000000) (hb : size b ≤ 1000000) : EvD Try.prog 57 [sg a b, sg a b] (.sc (.bool true)) := by
  have h := sr_same a.n b.n a.ks b.ks a.n b.n a.ks b.ks (by rw [T.mk_eta]; exact ha) (by rw [T.mk_eta]; exact hb)
  rw [T.mk_eta, T.mk_eta, beqT_self, beqT_self] at h
  exact h
end Go.Tr
