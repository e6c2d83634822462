/- The law ChunkTells: for every input that it lets in it answers true, and leaves its arguments as they were; no condition. -/
import Derived.Test.YtmcjdeiicbgmhabRows
import Derived.Test.YtmcjdeiicbgmhabLibB
import Derived.HandedShaped
import Derived.Test.YtmcjdeiicbgmhabMgG
import Derived.Test.YtmcjdeiicbgmhabChB7
namespace Go.Proofs.Ytmcjdeiicbgmhab.chunkTells
open Go.ChangeShapes Go.WideShapes Go.ChangeAt Go.RowKit Go.Abs
open Go.ChangeMaps (open_string shut_string)
set_option linter.unusedVariables false

theorem own : ownKnob Try.prog.godebug = none := by kernel_rfl
theorem laidOut : laidOutB Try.prog = true := by kernel_rfl

set_option maxRecDepth 100000 in
theorem lifted (os : Os) (started : os.Started) (H : Type) (enc : TypeId × Value → H) :
    ReturnsInHanded {} Try.checked os 3 .any (Rows.chunkTellsSpec.pre6 enc Try.prog Try.f3 Rows.chunkTellsRow.domain false) (Rows.chunkTellsSpec.post enc Try.prog Try.f3 false true false false) := by
  refine returnsInHanded_of_change_shaped (C := Try.checked) own started (by kernel_rfl) Try.func3
    (ChangeSpec.witness6 (enc := enc) (C := Try.checked) false ⟨#[], #[.slice none 0 0, .agg #[.int .i64 0, .int .i64 0, .int .i64 0, .slice none 0 0], .agg #[.int .i64 0, .int .i64 0, .int .i64 0, .int .i64 0, .int .i64 0, .int .i64 0, .int .i64 0, .int .i64 0, .int .i64 0, .int .i64 0, .int .i64 0, .int .i64 0, .int .i64 0, .int .i64 0, .int .i64 0, .int .i64 0, .int .i64 0, .int .i64 0, .int .i64 0, .slice none 0 0, .int .i64 0, .int .i64 0, .int .i64 0, .int .i64 0, .int .i64 0, .int .i64 0, .int .i64 0, .int .i64 0, .int .i64 0, .int .i64 0, .int .i64 0, .int .i64 0, .int .i64 0, .int .i64 0, .int .i64 0, .int .i64 0, .int .i64 0, .int .i64 0, .int .i64 0, .int .i64 0, .int .i64 0, .int .i64 0, .int .i64 0, .int .i64 0, .int .i64 0, .int .i64 0, .bool false, .int .i64 0, .int .i64 0, .int .i64 0, .slice none 0 0, .int .i64 0, .slice none 0 0, .int .i64 0, .slice none 0 0, .slice none 0 0], .int .i64 0, .int .i64 0], []⟩ 8 (by kernel_rfl) (by kernel_rfl) (by kernel_rfl) (by kernel_rfl)) ?_
  intro W base args ds gs before hval0 hW hcnd hwt0 hshp _
  have hval : ∀ (j : Nat) t v, Try.f3.params[j]? = some t → args[j]? = some v → Value.okWide Try.prog W .any base t v := hval0
  have hW' := hW
  obtain ⟨p, q, hA0, hV, rfl, hfz, hnd⟩ := hW
  have hA : DataW.TrodAll enc Try.prog W 0 (fun _ => true) true Try.f3.params.toList args.toList ds p := hA0
  rw [Try.params3] at hA hval hwt0
  obtain ⟨v0, vs0, d0, ds0, p0, q0, hargs, rfl, rfl, h0, r0⟩ := trodAll_cons hA
  obtain ⟨v1, vs1, d1, ds1, p1, q1, rfl, rfl, rfl, h1, r1⟩ := trodAll_cons r0
  obtain ⟨v2, vs2, d2, ds2, p2, q2, rfl, rfl, rfl, h2, r2⟩ := trodAll_cons r1
  obtain ⟨v3, vs3, d3, ds3, p3, q3, rfl, rfl, rfl, h3, r3⟩ := trodAll_cons r2
  obtain ⟨v4, vs4, d4, ds4, p4, q4, rfl, rfl, rfl, h4, r4⟩ := trodAll_cons r3
  obtain ⟨rfl, rfl, rfl⟩ := trodAll_nil r4
  obtain rfl : args = #[v0, v1, v2, v3, v4] := by cases args; simp_all
  obtain ⟨rfl, rfl⟩ := trodVars_none hV
  have hwt : ∀ n ∈ DataW.weightsEach Try.prog [22, 25, 40, 3, 3] [d0, d1, d2, d3, d4], n ≤ reachBytes := fun n hn => of_decide_eq_true (List.all_eq_true.1 hwt0 n hn)
  have k0 := h0
  have lt0 : ∀ x ∈ p0, x.block < W.heap.size := by obtain ⟨m, hm⟩ := k0; exact DataW.trod_lt m _ _ _ hm
  obtain ⟨x0, b0, y0⟩ : ∃ xs : List Int, Bts xs ∧ V (env0 W) (.sl (u8s xs) xs.length .any) v0 := by
    obtain ⟨fuel, hf⟩ := h0
    exact arg_bytes Try.underlying22 Try.underlying5 (by kernel_rfl) (hval 0 22 v0 rfl rfl) hf
  have k1 := h1
  have lt1 : ∀ x ∈ p1, x.block < W.heap.size := by obtain ⟨m, hm⟩ := k1; exact DataW.trod_lt m _ _ _ hm
  obtain ⟨xs1, H1, _, y1⟩ : ∃ xs, HasT Try.prog 25 xs ∧ dataAll xs = true ∧ V (env0 W) (.agg xs) v1 := by
    obtain ⟨fuel, hf⟩ := h1
    exact arg_agg laidOut [3, 4, 5, 9, 22, 23, 25, 27, 29, 30, 32, 33, 35, 37, 38, 40, 87, 89] Go.Chu.tys (by kernel_rfl) Try.underlying25 (hval 1 25 v1 rfl rfl) hf (fun n hn => hwt n (weightsEach_mem (j := 1) rfl rfl hn))
  obtain ⟨f1, m1, o1, l1, hb1, rfl⟩ := Go.Chu.chunks_of H1
  have k2 := h2
  have lt2 : ∀ x ∈ p2, x.block < W.heap.size := by obtain ⟨m, hm⟩ := k2; exact DataW.trod_lt m _ _ _ hm
  obtain ⟨xs2, H2, _, y2⟩ : ∃ xs, HasT Try.prog 40 xs ∧ dataAll xs = true ∧ V (env0 W) (.agg xs) v2 := by
    obtain ⟨fuel, hf⟩ := h2
    exact arg_agg laidOut [3, 4, 5, 9, 22, 23, 25, 27, 29, 30, 32, 33, 35, 37, 38, 40, 87, 89] Go.Chu.tys (by kernel_rfl) Try.underlying40 (hval 2 40 v2 rfl rfl) hf (fun n hn => hwt n (weightsEach_mem (j := 2) rfl rfl hn))
  obtain ⟨z2, hb2, rfl⟩ := Go.Chu.msg_of H2
  obtain ⟨a3, rfl, rfl, rfl, w3⟩ := open_int Try.underlying3 (hval 3 3 v3 rfl rfl) h3
  obtain ⟨a4, rfl, rfl, rfl, w4⟩ := open_int Try.underlying3 (hval 4 3 v4 rfl rfl) h4
  clear hA0 hval0
  refine (law_calls (Go.Chu.chunkTells .on x0 b0 f1 m1 o1 l1 hb1 z2 a3 a4) (VL.cons' y0 (VL.cons' y1 (VL.cons' y2 (VL.cons' (V.sc _ rfl) (VL.cons' (V.sc _ rfl) VL.nil')))))).mono fun e W' ⟨he, bel⟩ => ?_
  subst he
  exact ⟨_, rfl, _, _, _, [], _, [], hW', trodAll_mk1 (shut_bool Try.underlying4 _), (trodAll_cons_mk (Below.trod laidOut (by kernel_rfl) (of_decide_eq_true (by kernel_rfl)) k0 bel lt0) (trodAll_cons_mk (Below.trod laidOut (by kernel_rfl) (of_decide_eq_true (by kernel_rfl)) k1 bel lt1) (trodAll_cons_mk (Below.trod laidOut (by kernel_rfl) (of_decide_eq_true (by kernel_rfl)) k2 bel lt2) (trodAll_cons_mk (shut_int Try.underlying3 w3) (trodAll_cons_mk (shut_int Try.underlying3 w4) trodAll_mk0))))), rfl, bel.frame _, fun h => by cases h⟩

theorem over : Rows.chunkTellsRow.holds Try.pinned (OpenSpec.ofChange Rows.chunkTellsSpec) :=
  OpenClaim.holds_of_wide 3 Try.f3 rfl rfl rfl rfl rfl rfl rfl ⟨rfl, rfl, rfl, rfl, rfl⟩ rfl rfl rfl rfl rfl (by kernel_rfl) Try.func3 (by kernel_rfl)
    (of_decide_eq_true (by kernel_rfl)) (by unfold Func.isWrapper; first | (rw [if_pos (by decide +kernel)]; kernel_rfl) | (rw [if_neg (by decide +kernel)]; exact ⟨rfl, rfl⟩))
    (fun os started H enc _ => lifted os started H enc)

theorem proved : Rows.ChunkTellsSaid := over
#print axioms proved
end Go.Proofs.Ytmcjdeiicbgmhab.chunkTells
