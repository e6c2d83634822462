/- The law OpsTell: for every input that it lets in it answers true, and leaves its arguments as they were; no condition. -/
import Derived.Test.YtfkilkfaiiijbaaRows
import Derived.Test.YtfkilkfaiiijbaaLibB
import Derived.Test.YtfkilkfaiiijbaaOps15
namespace Go.Proofs.Ytfkilkfaiiijbaa.opsTell
open Go.ChangeShapes Go.WideShapes Go.ChangeAt Go.RowKit Go.Abs
open Go.ChangeMaps (open_string shut_string)
set_option linter.unusedVariables false

theorem own : ownKnob Try.prog.godebug = none := by kernel_rfl
theorem laidOut : laidOutB Try.prog = true := by kernel_rfl

set_option maxRecDepth 100000 in
theorem lifted (os : Os) (started : os.Started) (H : Type) (enc : TypeId × Value → H) :
    ReturnsInHanded {} Try.checked os 6 .any (Rows.opsTellSpec.pre6 enc Try.prog Try.f6 Rows.opsTellRow.domain false) (Rows.opsTellSpec.post enc Try.prog Try.f6 false true false false) := by
  refine returnsInHanded_of_change (C := Try.checked) own started (by kernel_rfl) Try.func6
    (ChangeSpec.witness6 (enc := enc) (C := Try.checked) false ⟨#[], #[.agg #[.int .i64 0, .string .empty, .string .empty, .int .i64 0, .int .i64 0, .int .i64 0, .string .empty, .int .i64 0], .agg #[.int .i64 0, .string .empty, .string .empty, .int .i64 0, .int .i64 0, .int .i64 0, .string .empty, .int .i64 0, .int .i64 0, .int .i64 0], .agg #[.int .i64 0, .int .i64 0, .int .i64 0, .int .i64 0, .int .i64 0, .int .i64 0, .int .i64 0, .int .i64 0, .int .i64 0, .int .i64 0, .int .i64 0, .int .i64 0, .int .i64 0, .int .i64 0, .int .i64 0, .int .i64 0, .slice none 0 0], .agg #[.int .i64 0, .int .i64 0, .int .i64 0], .agg #[.int .i64 0, .int .i64 0, .int .i64 0], .int .i64 0, .agg #[.int .i64 0, .int .i64 0]], []⟩ 8 (by kernel_rfl) (by kernel_rfl) (by kernel_rfl) (by kernel_rfl)) ?_
  intro W base args ds gs before hval0 hW hcnd _
  have hval : ∀ (j : Nat) t v, Try.f6.params[j]? = some t → args[j]? = some v → Value.okWide Try.prog W .any base t v := hval0
  have hW' := hW
  obtain ⟨p, q, hA0, hV, rfl, hfz, hnd⟩ := hW
  have hA : DataW.TrodAll enc Try.prog W 0 (fun _ => true) true Try.f6.params.toList args.toList ds p := hA0
  rw [Try.params6] at hA hval
  obtain ⟨v0, vs0, d0, ds0, p0, q0, hargs, rfl, rfl, h0, r0⟩ := trodAll_cons hA
  obtain ⟨v1, vs1, d1, ds1, p1, q1, rfl, rfl, rfl, h1, r1⟩ := trodAll_cons r0
  obtain ⟨v2, vs2, d2, ds2, p2, q2, rfl, rfl, rfl, h2, r2⟩ := trodAll_cons r1
  obtain ⟨v3, vs3, d3, ds3, p3, q3, rfl, rfl, rfl, h3, r3⟩ := trodAll_cons r2
  obtain ⟨v4, vs4, d4, ds4, p4, q4, rfl, rfl, rfl, h4, r4⟩ := trodAll_cons r3
  obtain ⟨v5, vs5, d5, ds5, p5, q5, rfl, rfl, rfl, h5, r5⟩ := trodAll_cons r4
  obtain ⟨v6, vs6, d6, ds6, p6, q6, rfl, rfl, rfl, h6, r6⟩ := trodAll_cons r5
  obtain ⟨rfl, rfl, rfl⟩ := trodAll_nil r6
  obtain rfl : args = #[v0, v1, v2, v3, v4, v5, v6] := by cases args; simp_all
  obtain ⟨rfl, rfl⟩ := trodVars_none hV
  have k0 := h0
  have lt0 : ∀ x ∈ p0, x.block < W.heap.size := by obtain ⟨m, hm⟩ := k0; exact DataW.trod_lt m _ _ _ hm
  obtain ⟨xs0, H0, _, y0⟩ : ∃ xs, HasT Try.prog 43 xs ∧ dataAll xs = true ∧ V (env0 W) (.agg xs) v0 := by
    obtain ⟨fuel, hf⟩ := h0
    exact arg_agg laidOut [3, 4, 5, 9, 23, 25, 26, 28, 33, 35, 43] Go.Ops.tys (by kernel_rfl) Try.underlying43 (hval 0 43 v0 rfl rfl) hf
  obtain ⟨kd0, inr0, act0, num0, pos0, key0, fld0, txt0, rfl⟩ := Go.Ops.upd_of H0
  have k1 := h1
  have lt1 : ∀ x ∈ p1, x.block < W.heap.size := by obtain ⟨m, hm⟩ := k1; exact DataW.trod_lt m _ _ _ hm
  obtain ⟨xs1, H1, _, y1⟩ : ∃ xs, HasT Try.prog 35 xs ∧ dataAll xs = true ∧ V (env0 W) (.agg xs) v1 := by
    obtain ⟨fuel, hf⟩ := h1
    exact arg_agg laidOut [3, 4, 5, 9, 23, 25, 26, 28, 33, 35, 43] Go.Ops.tys (by kernel_rfl) Try.underlying35 (hval 1 35 v1 rfl rfl) hf
  obtain ⟨o1, rfl⟩ := Go.Ops.op_of H1
  have k2 := h2
  have lt2 : ∀ x ∈ p2, x.block < W.heap.size := by obtain ⟨m, hm⟩ := k2; exact DataW.trod_lt m _ _ _ hm
  obtain ⟨xs2, H2, _, y2⟩ : ∃ xs, HasT Try.prog 28 xs ∧ dataAll xs = true ∧ V (env0 W) (.agg xs) v2 := by
    obtain ⟨fuel, hf⟩ := h2
    exact arg_agg laidOut [3, 4, 5, 9, 23, 25, 26, 28, 33, 35, 43] Go.Ops.tys (by kernel_rfl) Try.underlying28 (hval 2 28 v2 rfl rfl) hf
  obtain ⟨t2, rfl⟩ := Go.Ops.tx_of H2
  have k3 := h3
  have lt3 : ∀ x ∈ p3, x.block < W.heap.size := by obtain ⟨m, hm⟩ := k3; exact DataW.trod_lt m _ _ _ hm
  obtain ⟨xs3, H3, _, y3⟩ : ∃ xs, HasT Try.prog 33 xs ∧ dataAll xs = true ∧ V (env0 W) (.agg xs) v3 := by
    obtain ⟨fuel, hf⟩ := h3
    exact arg_agg laidOut [3, 4, 5, 9, 23, 25, 26, 28, 33, 35, 43] Go.Ops.tys (by kernel_rfl) Try.underlying33 (hval 3 33 v3 rfl rfl) hf
  obtain ⟨a3, b3, c3, rfl⟩ := Go.Ops.mark_of H3
  have k4 := h4
  have lt4 : ∀ x ∈ p4, x.block < W.heap.size := by obtain ⟨m, hm⟩ := k4; exact DataW.trod_lt m _ _ _ hm
  obtain ⟨xs4, H4, _, y4⟩ : ∃ xs, HasT Try.prog 33 xs ∧ dataAll xs = true ∧ V (env0 W) (.agg xs) v4 := by
    obtain ⟨fuel, hf⟩ := h4
    exact arg_agg laidOut [3, 4, 5, 9, 23, 25, 26, 28, 33, 35, 43] Go.Ops.tys (by kernel_rfl) Try.underlying33 (hval 4 33 v4 rfl rfl) hf
  obtain ⟨a4, b4, c4, rfl⟩ := Go.Ops.mark_of H4
  obtain ⟨a5, rfl, rfl, rfl, w5⟩ := open_int Try.underlying3 (hval 5 3 v5 rfl rfl) h5
  have k6 := h6
  have lt6 : ∀ x ∈ p6, x.block < W.heap.size := by obtain ⟨m, hm⟩ := k6; exact DataW.trod_lt m _ _ _ hm
  obtain ⟨xs6, H6, _, y6⟩ : ∃ xs, HasT Try.prog 23 xs ∧ dataAll xs = true ∧ V (env0 W) (.agg xs) v6 := by
    obtain ⟨fuel, hf⟩ := h6
    exact arg_agg laidOut [3, 4, 5, 9, 23, 25, 26, 28, 33, 35, 43] Go.Ops.tys (by kernel_rfl) Try.underlying23 (hval 6 23 v6 rfl rfl) hf
  obtain ⟨a6, b6, rfl⟩ := Go.Ops.dot_of H6
  clear hA0 hval0
  refine (law_calls (Go.Ops.opsTell_true .on kd0 inr0 act0 num0 pos0 key0 fld0 txt0 o1 t2 a3 b3 c3 a4 b4 c4 a5 a6 b6) (VL.cons' y0 (VL.cons' y1 (VL.cons' y2 (VL.cons' y3 (VL.cons' y4 (VL.cons' (V.sc _ rfl) (VL.cons' y6 VL.nil')))))))).mono fun e W' ⟨he, bel⟩ => ?_
  subst he
  exact ⟨_, rfl, _, _, _, [], _, [], hW', trodAll_mk1 (shut_bool Try.underlying4 _), (trodAll_cons_mk (Below.trod laidOut (by kernel_rfl) (of_decide_eq_true (by kernel_rfl)) k0 bel lt0) (trodAll_cons_mk (Below.trod laidOut (by kernel_rfl) (of_decide_eq_true (by kernel_rfl)) k1 bel lt1) (trodAll_cons_mk (Below.trod laidOut (by kernel_rfl) (of_decide_eq_true (by kernel_rfl)) k2 bel lt2) (trodAll_cons_mk (Below.trod laidOut (by kernel_rfl) (of_decide_eq_true (by kernel_rfl)) k3 bel lt3) (trodAll_cons_mk (Below.trod laidOut (by kernel_rfl) (of_decide_eq_true (by kernel_rfl)) k4 bel lt4) (trodAll_cons_mk (shut_int Try.underlying3 w5) (trodAll_cons_mk (Below.trod laidOut (by kernel_rfl) (of_decide_eq_true (by kernel_rfl)) k6 bel lt6) trodAll_mk0))))))), rfl, bel.frame _, fun h => by cases h⟩

theorem over : Rows.opsTellRow.holds Try.pinned (OpenSpec.ofChange Rows.opsTellSpec) :=
  OpenClaim.holds_of_wide 6 Try.f6 rfl rfl rfl rfl rfl rfl rfl ⟨rfl, rfl, rfl, rfl, rfl⟩ rfl rfl rfl rfl rfl (by kernel_rfl) Try.func6 (by kernel_rfl)
    (of_decide_eq_true (by kernel_rfl)) (by unfold Func.isWrapper; first | (rw [if_pos (by decide +kernel)]; kernel_rfl) | (rw [if_neg (by decide +kernel)]; exact ⟨rfl, rfl⟩))
    (fun os started H enc _ => lifted os started H enc)

theorem proved : Rows.OpsTellSaid := over
#print axioms proved
end Go.Proofs.Ytfkilkfaiiijbaa.opsTell
