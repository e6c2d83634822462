/- Walks and laws. -/
import Derived.Test.YtfkilkfaiiijbaaOpsG
import Derived.Test.YtfkilkfaiiijbaaCnt6
set_option maxRecDepth 100000
set_option maxHeartbeats 0
set_option linter.unusedSimpArgs false
set_option linter.unusedVariables false
namespace Go.Cnt
open Go Go.Abs Go.Proofs Go.Ops
theorem far {n b : Nat} (h : n * b ≤ reachBytes) (hb : 0 < b) : n ≤ 1000000000000000 := by
  have h1 : n * 1 ≤ n * b := Nat.mul_le_mul_left n hb
  have : reachBytes ≤ 1000000000000000 := by decide
  omega
theorem am_of {xs : List AVal} (h : HasT Try.prog 55 xs) : ∃ a : AmtD, xs = amc a := by
  obtain ⟨_, _, rfl, ⟨a, _, rfl⟩, _, _, rfl, ⟨b, _, rfl⟩, _, _, rfl, ⟨c, _, rfl⟩, _, _, rfl, ⟨d, _, rfl⟩, rfl⟩ := leaves_spec 4 55 [.int .i64, .int .i64, .int .i64, .int .i64] xs (by kernel_rfl) h
  exact ⟨⟨a, b, c, d⟩, rfl⟩
theorem wr_of {xs : List AVal} (h : HasT Try.prog 95 xs) : ∃ a : WrD, xs = wrc a := by
  obtain ⟨_, _, rfl, ⟨a, _, rfl⟩, _, _, rfl, ⟨b, _, rfl⟩, _, _, rfl, ⟨c, _, rfl⟩, _, _, rfl, ⟨d, _, rfl⟩, _, _, rfl, ⟨t, rfl⟩, rfl⟩ := leaves_spec 4 95 [.int .i64, .int .i64, .int .i64, .int .i64, .str] xs (by kernel_rfl) h
  exact ⟨⟨⟨a, b, c⟩, d, t⟩, rfl⟩
theorem mk_of {xs : List AVal} (h : HasT Try.prog 33 xs) : ∃ a : MarkD, xs = mkc a := by
  obtain ⟨a, b, c, rfl⟩ := mark_of h
  exact ⟨⟨a, b, c⟩, rfl⟩
theorem cof33 : Try.prog.cellsOf 33 = 3 := by kernel_rfl
theorem cof55 : Try.prog.cellsOf 55 = 4 := by kernel_rfl
theorem cof95 : Try.prog.cellsOf 95 = 5 := by kernel_rfl
theorem cof98 : Try.prog.cellsOf 98 = 3 := by kernel_rfl
theorem cof100 : Try.prog.cellsOf 100 = 9 := by kernel_rfl
theorem me_of {xs : List AVal} (h : HasT Try.prog 98 xs) : ∃ a : MeD, xs = mec a := by
  obtain ⟨_, _, rfl, ⟨t, rfl⟩, _, _, rfl, ⟨b, rfl⟩, _, _, rfl, ⟨ys, n, rfl, h1, _, h2⟩, rfl⟩ := leaves_spec 4 98 [.str, .bool, .sl 33] xs (by kernel_rfl) h
  rw [cof33] at h1 h2
  obtain ⟨l, h3, _, h5⟩ := items_of mkc (fun _ => True) 3 n ys h1 (fun i hi => by
    obtain ⟨o, ho⟩ := mk_of (h2 i hi)
    exact ⟨o, trivial, ho⟩)
  subst h3; subst h5
  exact ⟨⟨t, b, l⟩, rfl⟩
theorem el_of {xs : List AVal} (h : HasT Try.prog 100 xs) : ∃ a : ElD, xs = elc a := by
  obtain ⟨_, _, rfl, ⟨a, _, rfl⟩, _, _, rfl, ⟨b, _, rfl⟩, _, _, rfl, ⟨c, _, rfl⟩, _, _, rfl, ⟨d, _, rfl⟩, _, _, rfl, ⟨a1, _, rfl⟩, _, _, rfl, ⟨b1, _, rfl⟩, _, _, rfl, ⟨c1, _, rfl⟩, _, _, rfl, ⟨t, rfl⟩, _, _, rfl, ⟨ys, n, rfl, h1, _, h2⟩, rfl⟩ := leaves_spec 4 100 [.int .i64, .int .i64, .int .i64, .int .i64, .int .i64, .int .i64, .int .i64, .str, .sl 33] xs (by kernel_rfl) h
  rw [cof33] at h1 h2
  obtain ⟨l, h3, _, h5⟩ := items_of mkc (fun _ => True) 3 n ys h1 (fun i hi => by
    obtain ⟨o, ho⟩ := mk_of (h2 i hi)
    exact ⟨o, trivial, ho⟩)
  subst h3; subst h5
  exact ⟨⟨⟨a, b, c⟩, d, ⟨a1, b1, c1⟩, t, l⟩, rfl⟩
theorem cell_of {xs : List AVal} (h : HasT Try.prog 52 xs) : ∃ (kind base : Int) (am : List AmtD) (w : List WrD) (m : List MeD) (e : List ElD),
    (am.length ≤ 1000000000000000 ∧ w.length ≤ 1000000000000000 ∧ m.length ≤ 1000000000000000 ∧ e.length ≤ 1000000000000000) ∧
    xs = [.sc (.int .i64 kind), .sc (.int .i64 base), .sl (amsc am) am.length .any, .sl (wrsc w) w.length .any, .sl (mesc m) m.length .any, .sl (elsc e) e.length .any] := by
  obtain ⟨_, _, rfl, ⟨kind, _, rfl⟩, _, _, rfl, ⟨base, _, rfl⟩, _, _, rfl, ⟨y1, n1, rfl, a1, b1, c1⟩, _, _, rfl, ⟨y2, n2, rfl, a2, b2, c2⟩, _, _, rfl, ⟨y3, n3, rfl, a3, b3, c3⟩, _, _, rfl, ⟨y4, n4, rfl, a4, b4, c4⟩, rfl⟩ := leaves_spec 4 52 [.int .i64, .int .i64, .sl 55, .sl 95, .sl 98, .sl 100] xs (by kernel_rfl) h
  rw [cof55] at a1 c1
  rw [cof95] at a2 c2
  rw [cof98] at a3 c3
  rw [cof100] at a4 c4
  obtain ⟨l1, h1, _, k1⟩ := items_of amc (fun _ => True) 4 n1 y1 a1 (fun i hi => by
    obtain ⟨o, ho⟩ := am_of (c1 i hi)
    exact ⟨o, trivial, ho⟩)
  obtain ⟨l2, h2, _, k2⟩ := items_of wrc (fun _ => True) 5 n2 y2 a2 (fun i hi => by
    obtain ⟨o, ho⟩ := wr_of (c2 i hi)
    exact ⟨o, trivial, ho⟩)
  obtain ⟨l3, h3, _, k3⟩ := items_of mec (fun _ => True) 3 n3 y3 a3 (fun i hi => by
    obtain ⟨o, ho⟩ := me_of (c3 i hi)
    exact ⟨o, trivial, ho⟩)
  obtain ⟨l4, h4, _, k4⟩ := items_of elc (fun _ => True) 9 n4 y4 a4 (fun i hi => by
    obtain ⟨o, ho⟩ := el_of (c4 i hi)
    exact ⟨o, trivial, ho⟩)
  subst h1 h2 h3 h4
  subst k1 k2 k3 k4
  refine ⟨kind, base, l1, l2, l3, l4, ⟨far b1 ?_, far b2 ?_, far b3 ?_, far b4 ?_⟩, rfl⟩
  all_goals exact of_decide_eq_true (by kernel_rfl)
theorem tys : okTys Try.prog [3, 4, 5, 9, 23, 25, 26, 28, 33, 35, 43, 47, 48, 49, 50, 52, 55, 95, 96, 98, 100] = true := by kernel_rfl
end Go.Cnt
