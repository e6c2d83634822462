/- Library: an abstract machine over the model, part 32. -/
import Derived.Test.YtmcjdeiicbgmhabAbs31
set_option linter.unusedVariables false
namespace Go.Abs
open Go
/-- A text's bytes as numbers. -/
def strB (s : ByteArray) : List Int := s.data.toList.map fun b => (b.toNat : Int)
theorem byteV_map (s : ByteArray) : List.map byteV s.data.toList = u8s (strB s) := by
  simp [u8s, strB, byteV]
@[simp] theorem strB_length (s : ByteArray) : (strB s).length = s.size := by simp [strB]
theorem strB_bts (s : ByteArray) : Bts (strB s) := by
  intro x hx
  simp [strB] at hx
  obtain ⟨b, _, rfl⟩ := hx
  have := b.toNat_lt
  omega
end Go.Abs
