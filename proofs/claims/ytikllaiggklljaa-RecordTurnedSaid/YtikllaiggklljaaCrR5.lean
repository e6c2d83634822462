/- Walks and laws. -/
import Derived.Test.YtikllaiggklljaaLibB
import Derived.Test.YtikllaiggklljaaCrR4
set_option maxRecDepth 100000
set_option maxHeartbeats 0
set_option linter.unusedSimpArgs false
set_option linter.unusedVariables false
namespace Go.Crc
open Go Go.Abs Go.Proofs
theorem opn_seal (b : List Int) : opn (b ++ laid (sum b)) = some b := by
  have hl : (b ++ laid (sum b)).length - 4 = b.length := by simp
  unfold opn
  rw [hl, List.take_left, List.drop_left, if_neg (by simp), if_pos rfl]
theorem opn_some {xs a : List Int} (h : opn xs = some a) : a ++ laid (sum a) = xs ∧ xs.length = a.length + 4 := by
  unfold opn at h
  split at h
  · simp at h
  · rename_i hl
    split at h
    · rename_i he
      simp at h; subst h
      refine ⟨by rw [he, List.take_append_drop], ?_⟩
      simp; omega
    · simp at h
theorem c_open_none {xs : List Int} (h : opn xs = none) (n : Nat) (hn : n = xs.length) (hx : xs.length ≤ 1000000) (hb : Bts xs) : EvD Try.prog 91 [.sl (u8s xs) n .any] (.tup [.sl [] 0 .any, .sc (.bool false)]) := by
  have := c_open xs n hn hx hb
  rwa [h] at this
theorem c_open_some {xs a : List Int} (h : opn xs = some a) (n : Nat) (hn : n = xs.length) (hx : xs.length ≤ 1000000) (hb : Bts xs) : EvD Try.prog 91 [.sl (u8s xs) n .any] (.tup [.sl (u8s a) a.length .any, .sc (.bool true)]) := by
  have := c_open xs n hn hx hb
  rwa [h] at this
end Go.Crc
