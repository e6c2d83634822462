/- The law CounterTells: for every input that it lets in it answers true, and leaves its arguments as they were; no condition. -/
import Derived.Test.YtfkilkfaiiijbaaRows
import Derived.Test.YtfkilkfaiiijbaaLibC
import Derived.HandedShaped
import Derived.Test.YtfkilkfaiiijbaaCnt24
import Derived.Test.YtfkilkfaiiijbaaCntG
namespace Go.Proofs.Ytfkilkfaiiijbaa.counterTells
open Go.ChangeShapes Go.WideShapes Go.ChangeAt Go.RowKit Go.Abs
open Go.ChangeMaps (open_string shut_string)
set_option linter.unusedVariables false

theorem own : ownKnob Try.prog.godebug = none := by kernel_rfl
theorem laidOut : laidOutB Try.prog = true := by kernel_rfl

set_option maxRecDepth 100000 in
theorem lifted (os : Os) (started : os.Started) (H : Type) (enc : TypeId × Value → H) :
    ReturnsInHanded {} Try.checked os 8 .any (Rows.counterTellsSpec.pre6 enc Try.prog Try.f8 Rows.counterTellsRow.domain false) (Rows.counterTellsSpec.post enc Try.prog Try.f8 false true false false) := by
  refine returnsInHanded_of_change_shaped (C := Try.checked) own started (by kernel_rfl) Try.func8
    (ChangeSpec.witness6 (enc := enc) (C := Try.checked) false ⟨#[], #[.agg #[.int .i64 0, .int .i64 0, .slice none 0 0, .slice none 0 0, .slice none 0 0, .slice none 0 0], .agg #[.int .i64 0, .int .i64 0, .int .i64 0, .int .i64 0, .int .i64 0, .int .i64 0, .int .i64 0, .int .i64 0, .int .i64 0, .int .i64 0, .int .i64 0, .int .i64 0, .int .i64 0, .int .i64 0, .int .i64 0, .int .i64 0, .slice none 0 0], .int .i64 0, .int .i64 0, .agg #[.int .i64 0, .int .i64 0, .int .i64 0, .int .i64 0, .int .i64 0, .int .i64 0, .int .i64 0, .int .i64 0, .int .i64 0, .int .i64 0, .int .i64 0, .int .i64 0, .int .i64 0]], []⟩ 8 (by kernel_rfl) (by kernel_rfl) (by kernel_rfl) (by kernel_rfl)) ?_
  intro W base args ds gs before hval0 hW hcnd hwt0 hshp _
  have hval : ∀ (j : Nat) t v, Try.f8.params[j]? = some t → args[j]? = some v → Value.okWide Try.prog W .any base t v := hval0
  have hW' := hW
  obtain ⟨p, q, hA0, hV, rfl, hfz, hnd⟩ := hW
  have hA : DataW.TrodAll enc Try.prog W 0 (fun _ => true) true Try.f8.params.toList args.toList ds p := hA0
  rw [Try.params8] at hA hval hwt0
  obtain ⟨v0, vs0, d0, ds0, p0, q0, hargs, rfl, rfl, h0, r0⟩ := trodAll_cons hA
  obtain ⟨v1, vs1, d1, ds1, p1, q1, rfl, rfl, rfl, h1, r1⟩ := trodAll_cons r0
  obtain ⟨v2, vs2, d2, ds2, p2, q2, rfl, rfl, rfl, h2, r2⟩ := trodAll_cons r1
  obtain ⟨v3, vs3, d3, ds3, p3, q3, rfl, rfl, rfl, h3, r3⟩ := trodAll_cons r2
  obtain ⟨v4, vs4, d4, ds4, p4, q4, rfl, rfl, rfl, h4, r4⟩ := trodAll_cons r3
  obtain ⟨rfl, rfl, rfl⟩ := trodAll_nil r4
  obtain rfl : args = #[v0, v1, v2, v3, v4] := by cases args; simp_all
  obtain ⟨rfl, rfl⟩ := trodVars_none hV
  have hwt : ∀ n ∈ DataW.weightsEach Try.prog [52, 28, 3, 3, 25] [d0, d1, d2, d3, d4], n ≤ reachBytes := fun n hn => of_decide_eq_true (List.all_eq_true.1 hwt0 n hn)
  have k0 := h0
  have lt0 : ∀ x ∈ p0, x.block < W.heap.size := by obtain ⟨m, hm⟩ := k0; exact DataW.trod_lt m _ _ _ hm
  obtain ⟨xs0, H0, _, y0⟩ : ∃ xs, HasT Try.prog 52 xs ∧ dataAll xs = true ∧ V (env0 W) (.agg xs) v0 := by
    obtain ⟨fuel, hf⟩ := h0
    exact arg_agg laidOut [3, 4, 5, 9, 23, 25, 26, 28, 33, 35, 43, 47, 48, 49, 50, 52, 55, 95, 96, 98, 100] Go.Cnt.tys (by kernel_rfl) Try.underlying52 (hval 0 52 v0 rfl rfl) hf (fun n hn => hwt n (weightsEach_mem (j := 0) rfl rfl hn))
  obtain ⟨kd0, bs0, am0, wr0, me0, el0, hx0, rfl⟩ := Go.Cnt.cell_of H0
  have k1 := h1
  have lt1 : ∀ x ∈ p1, x.block < W.heap.size := by obtain ⟨m, hm⟩ := k1; exact DataW.trod_lt m _ _ _ hm
  obtain ⟨xs1, H1, _, y1⟩ : ∃ xs, HasT Try.prog 28 xs ∧ dataAll xs = true ∧ V (env0 W) (.agg xs) v1 := by
    obtain ⟨fuel, hf⟩ := h1
    exact arg_agg laidOut [3, 4, 5, 9, 23, 25, 26, 28, 33, 35, 43, 47, 48, 49, 50, 52, 55, 95, 96, 98, 100] Go.Cnt.tys (by kernel_rfl) Try.underlying28 (hval 1 28 v1 rfl rfl) hf (fun n hn => hwt n (weightsEach_mem (j := 1) rfl rfl hn))
  obtain ⟨t1, rfl⟩ := Go.Ops.tx_of H1
  obtain ⟨a2, rfl, rfl, rfl, w2⟩ := open_int Try.underlying3 (hval 2 3 v2 rfl rfl) h2
  obtain ⟨a3, rfl, rfl, rfl, w3⟩ := open_int Try.underlying3 (hval 3 3 v3 rfl rfl) h3
  have k4 := h4
  have lt4 : ∀ x ∈ p4, x.block < W.heap.size := by obtain ⟨m, hm⟩ := k4; exact DataW.trod_lt m _ _ _ hm
  obtain ⟨xs4, H4, _, y4⟩ : ∃ xs, HasT Try.prog 25 xs ∧ dataAll xs = true ∧ V (env0 W) (.agg xs) v4 := by
    obtain ⟨fuel, hf⟩ := h4
    exact arg_arr laidOut [3, 4, 5, 9, 23, 25, 26, 28, 33, 35, 43, 47, 48, 49, 50, 52, 55, 95, 96, 98, 100] Go.Cnt.tys (by kernel_rfl) Try.underlying25 (hval 4 25 v4 rfl rfl) hf (fun n hn => hwt n (weightsEach_mem (j := 4) rfl rfl hn))
  obtain ⟨u4, rfl⟩ := Go.Ops.vec_of H4
  clear hA0 hval0
  refine (law_calls (Go.Cnt.counterTells_true .on .on t1 u4 a2 a3 kd0 bs0 am0 wr0 me0 el0 hx0) (VL.cons' y0 (VL.cons' y1 (VL.cons' (V.sc _ rfl) (VL.cons' (V.sc _ rfl) (VL.cons' y4 VL.nil')))))).mono fun e W' ⟨he, bel⟩ => ?_
  subst he
  exact ⟨_, rfl, _, _, _, [], _, [], hW', trodAll_mk1 (shut_bool Try.underlying4 _), (trodAll_cons_mk (Below.trod laidOut (by kernel_rfl) (of_decide_eq_true (by kernel_rfl)) k0 bel lt0) (trodAll_cons_mk (Below.trod laidOut (by kernel_rfl) (of_decide_eq_true (by kernel_rfl)) k1 bel lt1) (trodAll_cons_mk (shut_int Try.underlying3 w2) (trodAll_cons_mk (shut_int Try.underlying3 w3) (trodAll_cons_mk (Below.trod laidOut (by kernel_rfl) (of_decide_eq_true (by kernel_rfl)) k4 bel lt4) trodAll_mk0))))), rfl, bel.frame _, fun h => by cases h⟩

theorem over : Rows.counterTellsRow.holds Try.pinned (OpenSpec.ofChange Rows.counterTellsSpec) :=
  OpenClaim.holds_of_wide 8 Try.f8 rfl rfl rfl rfl rfl rfl rfl ⟨rfl, rfl, rfl, rfl, rfl⟩ rfl rfl rfl rfl rfl (by kernel_rfl) Try.func8 (by kernel_rfl)
    (of_decide_eq_true (by kernel_rfl)) (by unfold Func.isWrapper; first | (rw [if_pos (by decide +kernel)]; kernel_rfl) | (rw [if_neg (by decide +kernel)]; exact ⟨rfl, rfl⟩))
    (fun os started H enc _ => lifted os started H enc)

theorem proved : Rows.CounterTellsSaid := over
#print axioms proved
end Go.Proofs.Ytfkilkfaiiijbaa.counterTells
