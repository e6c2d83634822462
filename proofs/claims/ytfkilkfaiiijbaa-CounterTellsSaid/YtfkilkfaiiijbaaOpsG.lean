/- Walks and laws. -/
import Derived.Test.YtfkilkfaiiijbaaOpsT
import Derived.Test.YtfkilkfaiiijbaaLibC
import Derived.Test.YtfkilkfaiiijbaaProg
set_option maxRecDepth 100000
set_option maxHeartbeats 0
set_option linter.unusedSimpArgs false
set_option linter.unusedVariables false
namespace Go.Ops
open Go Go.Abs Go.Proofs
theorem laidOut : laidOutB Try.prog = true := by kernel_rfl
theorem mark_of {xs : List AVal} (h : HasT Try.prog 33 xs) : ∃ a b c : Int, xs = [.sc (.int .i64 a), .sc (.int .i64 b), .sc (.int .i64 c)] := by
  obtain ⟨_, _, rfl, ⟨a, _, rfl⟩, _, _, rfl, ⟨b, _, rfl⟩, _, _, rfl, ⟨c, _, rfl⟩, rfl⟩ := leaves_spec 3 33 [.int .i64, .int .i64, .int .i64] xs (by kernel_rfl) h
  exact ⟨a, b, c, rfl⟩
theorem op_of {xs : List AVal} (h : HasT Try.prog 35 xs) : ∃ o : OpD, xs = opc o := by
  obtain ⟨_, _, rfl, ⟨k, _, rfl⟩, _, _, rfl, ⟨key, rfl⟩, _, _, rfl, ⟨f, rfl⟩, _, _, rfl, ⟨inner, _, rfl⟩, _, _, rfl, ⟨a, _, rfl⟩, _, _, rfl, ⟨n, _, rfl⟩, _, _, rfl, ⟨t, rfl⟩, _, _, rfl, ⟨p, _, rfl⟩, _, _, rfl, ⟨s, _, rfl⟩, _, _, rfl, ⟨i, _, rfl⟩, rfl⟩ := leaves_spec 4 35 [.int .i64, .str, .str, .int .i64, .int .i64, .int .i64, .str, .int .i64, .int .i64, .int .i64] xs (by kernel_rfl) h
  exact ⟨⟨k, key, f, inner, a, n, t, p, s, i⟩, rfl⟩
theorem vec_of {xs : List AVal} (h : HasT Try.prog 25 xs) : ∃ v : Nat → Int, xs = vecc .on v := by
  obtain ⟨_, _, rfl, ⟨n0, _, rfl⟩, _, _, rfl, ⟨n1, _, rfl⟩, _, _, rfl, ⟨n2, _, rfl⟩, _, _, rfl, ⟨n3, _, rfl⟩, _, _, rfl, ⟨n4, _, rfl⟩, _, _, rfl, ⟨n5, _, rfl⟩, _, _, rfl, ⟨n6, _, rfl⟩, _, _, rfl, ⟨n7, _, rfl⟩, _, _, rfl, ⟨n8, _, rfl⟩, _, _, rfl, ⟨n9, _, rfl⟩, _, _, rfl, ⟨n10, _, rfl⟩, _, _, rfl, ⟨n11, _, rfl⟩, _, _, rfl, ⟨n12, _, rfl⟩, rfl⟩ := leaves_spec 4 25 (List.replicate 13 (.int .i64)) xs (by kernel_rfl) h
  exact ⟨fun i => ([n0, n1, n2, n3, n4, n5, n6, n7, n8, n9, n10, n11, n12] : List Int).getD i 0, rfl⟩
theorem tx_of {xs : List AVal} (h : HasT Try.prog 28 xs) : ∃ t : TxD, xs = txc .on t := by
  obtain ⟨_, _, rfl, ⟨p, _, rfl⟩, _, _, rfl, ⟨s, _, rfl⟩, _, _, rfl, ⟨n0, _, rfl⟩, _, _, rfl, ⟨n1, _, rfl⟩, _, _, rfl, ⟨n2, _, rfl⟩, _, _, rfl, ⟨n3, _, rfl⟩, _, _, rfl, ⟨n4, _, rfl⟩, _, _, rfl, ⟨n5, _, rfl⟩, _, _, rfl, ⟨n6, _, rfl⟩, _, _, rfl, ⟨n7, _, rfl⟩, _, _, rfl, ⟨n8, _, rfl⟩, _, _, rfl, ⟨n9, _, rfl⟩, _, _, rfl, ⟨n10, _, rfl⟩, _, _, rfl, ⟨n11, _, rfl⟩, _, _, rfl, ⟨n12, _, rfl⟩, _, _, rfl, ⟨time, _, rfl⟩, _, _, rfl, ⟨ys, n, rfl, h1, _, h2⟩, rfl⟩ := leaves_spec 4 28 ([.int .i64, .int .i64] ++ List.replicate 13 (.int .i64) ++ [.int .i64, .sl 35]) xs (by kernel_rfl) h
  have hc : Try.prog.cellsOf 35 = 10 := by kernel_rfl
  rw [hc] at h1 h2
  obtain ⟨l, h3, _, h5⟩ := items_of opc (fun _ => True) 10 n ys h1 (fun i hi => by
    obtain ⟨o, ho⟩ := op_of (h2 i hi)
    exact ⟨o, trivial, ho⟩)
  subst h3
  subst h5
  exact ⟨⟨p, s, fun i => ([n0, n1, n2, n3, n4, n5, n6, n7, n8, n9, n10, n11, n12] : List Int).getD i 0, time, l⟩, rfl⟩
theorem tys : okTys Try.prog [3, 4, 5, 9, 23, 25, 26, 28, 33, 35, 43] = true := by kernel_rfl
end Go.Ops
