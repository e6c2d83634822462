/- Walks and laws. -/
import Derived.Test.YtmcjdeiicbgmhabNum3
import Derived.Test.YtmcjdeiicbgmhabLibB
set_option maxRecDepth 100000
set_option maxHeartbeats 0
set_option linter.unusedSimpArgs false
set_option linter.unusedVariables false
namespace Go.Num
open Go Go.Abs Go.Proofs
theorem n_bytes (xs ys : List Int) (n m : Nat) (hx : Bts xs) (hy : Bts ys) (hn : n = xs.length) (hm : m = ys.length) : EvD Try.prog 25 [.sl (u8s xs) n .any, .sl (u8s ys) m .any] (.sc (.bool (xs == ys))) := by
  refine EvD.body Try.func25 rfl rfl rfl ?_
  refine SQ ?_
  refine DerQ.run (True ∧ True) ⟨[.sl (u8s xs) (n) .any, .sl (u8s ys) (m) .any, U6, U6, (B6 false)] ++ UU 5, []⟩ (by kernel_rfl) ⟨trivial, trivial⟩ ?_
  refine SQ ?_
  refine DerQ.run (True ∧ ((n = List.length (u8s xs)) ∧ (∀ (i : Nat), i < List.length (u8s xs) → isByteA (List.getD (u8s xs) i AVal.undef) = true)) ∧ True ∧ ((m = List.length (u8s ys)) ∧ (∀ (i : Nat), i < List.length (u8s ys) → isByteA (List.getD (u8s ys) i AVal.undef) = true)) ∧ True ∧ True ∧ True) ⟨[.sl (u8s xs) (n) .any, .sl (u8s ys) (m) .any, U6, U6, (B6 (ByteArray.toList (strOf (u8s xs)) == ByteArray.toList (strOf (u8s ys)))), .sl (u8s xs) (n) .any, (S6 (strOf (u8s xs))), .sl (u8s ys) (m) .any, (S6 (strOf (u8s ys))), (B6 (ByteArray.toList (strOf (u8s xs)) == ByteArray.toList (strOf (u8s ys))))], []⟩ (by kernel_rfl) ⟨trivial, ⟨(by (simp [spliceA_length] <;> omega)), (by exact u8s_isByte _)⟩, trivial, ⟨(by (simp [spliceA_length] <;> omega)), (by exact u8s_isByte _)⟩, trivial, trivial, trivial⟩ ?_
  rw [Go.Abs.strOf_beq (xs) (ys) (by omega) (by omega)]
  refine AWP.ret FA
end Go.Num
