/- Walks and laws. -/
import Derived.Test.YtfkilkfaiiijbaaLibC
import Derived.Test.YtfkilkfaiiijbaaProg
import Derived.Shelf.RegionOpenPlain
import Derived.WalkKit
import Derived.Lib.Walk
import Derived.Lib.SliceRun
set_option maxRecDepth 100000
set_option maxHeartbeats 0
set_option linter.unusedSimpArgs false
set_option linter.unusedVariables false
namespace Go.Ord
open Go Go.Abs Go.Proofs Go.Lib Go.RowKit
set_option maxHeartbeats 4000000 in
/-- there is room: in place -/
theorem ins87_room (b n c i vb vo vc : Nat) (cs vs : List Value) (w : World) (hi : i < n) (hroom : n + 1 ≤ c) (hn9 : n ≤ 1000000000) (hvb : vb ≠ b) (hcl : cs.length = n * 17) (hvl : vs.length = 17)
    (hcs : ∀ j v, cs[j]? = some v → w.cell? ⟨b, j, none⟩ = some v) (hsp : ∀ j, j < (n + 1) * 17 → (w.cell? ⟨b, j, none⟩).isSome = true) (hfz : ∀ j, w.frozen? ⟨b, j, none⟩ = false)
    (hvs : ∀ j v, vs[j]? = some v → w.cell? ⟨vb, vo + j, none⟩ = some v) (h1c : ∀ v ∈ cs, v.oneCell' = true) (h1v : ∀ v ∈ vs, v.oneCell' = true)
    (tA tB : TypeId) (kA kB : Nat) (hsa : w.shape? vb = some (tA, kA)) (hsb : w.shape? b = some (tB, kB)) (hkA : kA ≠ 0) (hkB : kB ≠ 0) :
    Calls Try.prog 87 #[.slice (some ⟨b, 0, none⟩) n c, .int .i64 i, .slice (some ⟨vb, vo, none⟩) 1 vc] w fun e w' =>
      e = .returned (.slice (some ⟨b, 0, none⟩) (n + 1) c) ∧ w' = (w.drew.setCells b ((i + 1) * 17) (cs.drop (i * 17))).setCells b (i * 17) vs := by
  have t0 := Try.underlying70
  have u0 := run_underlying Try.underlying70
  have hz2 : ¬ ((i : Int) = (n : Int)) := by omega
  have hsz : (Try.prog.info? 28).map (·.size) = some 17 := by kernel_rfl
  have hso : ∀ w : World, (sizeOf 28).run Try.prog w = .ok 17 w := run_sizeOf' (by kernel_rfl)
  have hov : ∀ lb cb, (callFunc 107 #[.slice (some ⟨vb, vo, none⟩) 1 vc, .slice (some ⟨b, (i + 1) * 17, none⟩) lb cb]).run Try.prog w = .ok (.value (.bool false)) w := fun lb cb => by
    rw [run_callFunc_extern Try.func107 (by kernel_rfl) (by kernel_rfl) (by kernel_rfl) (e := Extern.SlicesOverlaps.overlaps #[70, 70] #[4]) (by kernel_rfl),
      run_overlaps_target w 70 4 28 Try.underlying70 17 hso ⟨vb, vo, none⟩ ⟨b, (i + 1) * 17, none⟩ 1 vc lb cb hvb tA tB kA kB hsa hsb hkA hkB (hfz _) (hfz _)]
    rfl
  have hdl : (cs.drop (i * 17)).length = (n - i) * 17 := by rw [List.length_drop, hcl]; omega
  have mixed : Try.prog.follows .mixedOrders = true := by kernel_rfl
  have hw1 : IntKind.i64.wrap ((i : Int) + 1) = (i : Int) + 1 := by rw [IntKind.wrap_i64]; omega
  have hw2 : IntKind.i64.wrap ((n : Int) + 1) = (n : Int) + 1 := by rw [IntKind.wrap_i64]; omega
  have hb1 : (0 : Int) ≤ (i : Int) + 1 := by omega
  have hin : i ≤ n := by omega
  have htn : ((i : Int) + 1).toNat = i + 1 := by omega
  have htn2 : ((n : Int) + 1).toNat = n + 1 := by omega
  have hb2 : ¬ (c = i + 1) := by omega
  have hb3 : (i : Int) ≤ (n : Int) + 1 := by omega
  have hb4 : ¬ (c = i) := by omega
  have hcp1 : ∀ ty dc sc, (Builtin.copy_ #[70, 70] ty #[.slice (some ⟨b, (i + 1) * 17, none⟩) (n - i) dc, .slice (some ⟨b, i * 17, none⟩) (n + 1 - i) sc]).run Try.prog w.drew = .ok (goInt ((n - i : Nat) : Int)) (w.drew.setCells b ((i + 1) * 17) (cs.drop (i * 17))) := fun ty dc sc =>
    run_copyK w.drew _ _ ty 28 b ((i + 1) * 17) (n - i) dc ⟨b, i * 17, none⟩ (n + 1 - i) sc 17 (n - i) (cs.drop (i * 17)) Try.underlying70 hsz (by simp only [Nat.min_def]; split <;> omega) hdl
      (fun j v hj => by rw [Addr.add_lit]; exact hcs (i * 17 + j) v (by rwa [List.getElem?_drop] at hj))
      (fun j hj => hsp _ (by rw [hdl] at hj; omega)) (fun j hj => hfz _) (fun v hv => h1c v (List.mem_of_mem_drop hv))
  obtain ⟨W1, hW1⟩ : ∃ W1, W1 = w.drew.setCells b ((i + 1) * 17) (cs.drop (i * 17)) := ⟨_, rfl⟩
  have hsp1 : ∀ k, k < (n + 1) * 17 → (W1.cell? ⟨b, k, none⟩).isSome = true := fun k hk => by
    rw [hW1]
    exact isSome_setCells b (cs.drop (i * 17)) ((i + 1) * 17) w.drew (fun j hj => hsp _ (by rw [hdl] at hj; omega)) _ (hsp k hk)
  have hcp2 : ∀ (W : World), (∀ x, W.cell? x = W1.cell? x) → (∀ x, W.frozen? x = W1.frozen? x) → ∀ ty dc, (Builtin.copy_ #[70, 70] ty #[.slice (some ⟨b, i * 17, none⟩) (n + 1 - i) dc, .slice (some ⟨vb, vo, none⟩) 1 vc]).run Try.prog W = .ok (goInt 1) (W.setCells b (i * 17) vs) := fun W hWc hWf ty dc =>
    run_copyK W _ _ ty 28 b (i * 17) (n + 1 - i) dc ⟨vb, vo, none⟩ 1 vc 17 1 vs Try.underlying70 hsz (by simp only [Nat.min_def]; split <;> omega) (by rw [hvl])
      (fun j v hj => by
        rw [Addr.add_lit, hWc, hW1, World.cell?_setCells_out b _ _ _ _ (fun h _ => absurd h hvb)]
        exact hvs j v hj)
      (fun j hj => by rw [hWc]; exact hsp1 _ (by rw [hvl] at hj; omega)) (fun j hj => by rw [hWf, hW1, World.frozen?_setCells]; exact hfz _) h1v
  rw [← hW1] at hcp1
  go_enter Try.func87, Try.ntmps87
  go_wp2_with (simp only [hov])
  go_region_law_o (refine step_copy_runI rfl _ _ 70 70 rfl _ _ (by simp [Act.eval, Act.put]) (by simp [Act.eval, Act.put]) (hcp1 _ _ _) ?_)
  go_wp2_with (at_builtin; refine wpList_copy_runI _ rfl _ _ 70 70 rfl _ _ rfl rfl (hcp2 _ (fun _ => rfl) (fun _ => rfl) _ _) ?_)
  go_ret
  first | exact ⟨rfl, rfl⟩ | exact ⟨rfl, by rw [hW1]⟩
set_option maxHeartbeats 4000000 in
/-- no room: a new block -/
theorem ins87_grow (b n c i vb vo vc : Nat) (cs vs : List Value) (w : World) (hi : i < n) (hnc : n ≤ c) (hroom : c < n + 1) (hbig : (n + 1) * 152 ≤ 140737488355328) (hvb : vb ≠ b) (hcl : cs.length = n * 17) (hvl : vs.length = 17)
    (hcs : ∀ j v, cs[j]? = some v → w.cell? ⟨b, j, none⟩ = some v)
    (hvs : ∀ j v, vs[j]? = some v → w.cell? ⟨vb, vo + j, none⟩ = some v) (h1c : ∀ v ∈ cs, v.oneCell' = true) (h1v : ∀ v ∈ vs, v.oneCell' = true) :
    Calls Try.prog 87 #[.slice (some ⟨b, 0, none⟩) n c, .int .i64 i, .slice (some ⟨vb, vo, none⟩) 1 vc] w fun e w' =>
      ∃ G, ∃ R : Array Value, n + 1 ≤ G ∧ (n + 1) * 17 ≤ R.size ∧ (∀ (j : Nat) (v : Value), (cs.take (i * 17))[j]? = some v → R[j]? = some v) ∧ e = .returned (.slice (some ⟨w.heap.size, 0, none⟩) (n + 1) G) ∧
      w' = (((w.drew.alloc (.cells R 28)).setCells w.heap.size (i * 17) vs).drew).setCells w.heap.size ((i + 1) * 17) (cs.drop (i * 17)) := by
  have t0 := Try.underlying70
  have u0 := run_underlying Try.underlying70
  obtain ⟨i0, z, hi0, hz0, hzs, hzb, hzc⟩ : ∃ i0 z, Try.prog.info? 28 = some i0 ∧ i0.zero = some z ∧ i0.size = 17 ∧ i0.bytes = 152 ∧ z.cells.size = 17 := by
    have h : (Try.prog.info? 28).bind (fun i => i.zero.map fun z => (i.size, i.bytes, z.cells.size)) = some (17, 152, 17) := by kernel_rfl
    cases hq : Try.prog.info? 28 with
    | none => rw [hq] at h; cases h
    | some i0 =>
      rw [hq] at h
      cases hq2 : i0.zero with
      | none => simp [hq2] at h
      | some z =>
        simp [hq2] at h
        exact ⟨i0, z, rfl, hq2, h.1, h.2.1, h.2.2⟩
  have mixed : Try.prog.follows .mixedOrders = true := by kernel_rfl
  have hz2 : ¬ ((i : Int) = (n : Int)) := by omega
  have hz3 : (c : Int) < (n : Int) + 1 := by omega
  have hsz : (Try.prog.info? 28).map (·.size) = some 17 := by kernel_rfl
  have hso : ∀ w : World, (sizeOf 28).run Try.prog w = .ok 17 w := run_sizeOf' (by kernel_rfl)
  have hbw : b < w.heap.size := block_lt_of_cell (hcs 0 _ (List.getElem?_eq_getElem (by omega)))
  have hvw : vb < w.heap.size := block_lt_of_cell (hvs 0 _ (List.getElem?_eq_getElem (by omega)))
  have hkk : (n : Int) + 1 - (i : Int) = ((n + 1 - i : Nat) : Int) := by omega
  have hik : i + (n + 1 - i) = n + 1 := by omega
  have hold : (Builtin.firstCells i0.size i (.slice (some ⟨b, 0, none⟩) i c)).run Try.prog w.drew = .ok (cs.take (i * 17)).toArray w.drew := by
    rw [hzs]
    exact run_firstCells_some w.drew 17 i ⟨b, 0, none⟩ i c (cs.take (i * 17)) (by rw [List.length_take]; omega) (fun j v hj => by
      rw [Addr.add_lit, Nat.zero_add]
      rw [List.getElem?_take] at hj
      split at hj
      · exact hcs j v hj
      · cases hj)
  have hrz : ∀ ty, (Builtin.append_ #[70, 3] ty #[.slice (some ⟨b, 0, none⟩) i c, .int .i64 ((n : Int) + 1 - (i : Int))]).run Try.prog w =
      .ok (.slice (some ⟨w.heap.size, 0, none⟩) (n + 1) (grownCap w (n + 1) c 28)) (w.drew.alloc (.cells ((cs.take (i * 17)).toArray ++ Builtin.zeroCells z.cells (n + 1 - i) ++ Builtin.zeroCells z.cells (grownCap w (n + 1) c 28 - (n + 1))) 28)) := fun ty => by
    have h := Lib.run_append_grow_zeros w 70 3 ty 28 i0 _ .i64 .i64 Try.underlying70 Try.underlying3 hi0 hz0 (some ⟨b, 0, none⟩) i c (cs.take (i * 17)) hold (n + 1 - i) (by omega) (by omega) (by omega) (by omega) (by rw [hzb]; omega) (by rw [hzb, hik]; exact growslice_fits hroom hbig)
    rw [hik] at h
    rw [hkk]
    exact h
  obtain ⟨G, hG⟩ : ∃ G, G = grownCap w (n + 1) c 28 := ⟨_, rfl⟩
  obtain ⟨ROW, hROW⟩ : ∃ ROW : Array Value, ROW = (cs.take (i * 17)).toArray ++ Builtin.zeroCells z.cells (n + 1 - i) ++ Builtin.zeroCells z.cells (G - (n + 1)) := ⟨_, rfl⟩
  rw [← hG] at hrz
  rw [← hROW] at hrz
  have htl : (cs.take (i * 17)).length = i * 17 := by rw [List.length_take]; omega
  have hRl : (n + 1) * 17 ≤ ROW.size := by
    rw [hROW]
    simp only [Array.size_append, Builtin.zeroCells, Array.size_ofFn, Array.size_map, Array.size_range, hzc, List.size_toArray, htl]
    omega
  have hRt : ∀ (j : Nat) (v : Value), (cs.take (i * 17))[j]? = some v → ROW[j]? = some v := fun j v hj => by
    have hjl : j < (cs.take (i * 17)).length := by
      rcases Nat.lt_or_ge j (cs.take (i * 17)).length with h | h
      · exact h
      · rw [List.getElem?_eq_none h] at hj; cases hj
    rw [hROW, Array.append_assoc, Array.getElem?_append_left (by simpa using hjl)]
    simpa using hj
  obtain ⟨W1, hW1⟩ : ∃ W1, W1 = w.drew.alloc (.cells ROW 28) := ⟨_, rfl⟩
  rw [← hW1] at hrz
  have hN : ∀ j, j < (n + 1) * 17 → (W1.cell? ⟨w.heap.size, j, none⟩).isSome = true := fun j hj => by
    rw [hW1, World.cell?_alloc_at (w := w.drew) ROW _ w.heap.size j rfl, Array.getElem?_eq_getElem (by omega)]; rfl
  have hNf : ∀ j, W1.frozen? ⟨w.heap.size, j, none⟩ = false := fun j => by rw [hW1]; exact World.frozen?_alloc_at (w := w.drew) ROW _ w.heap.size j rfl
  have hOb : ∀ j v, w.cell? ⟨b, j, none⟩ = some v → W1.cell? ⟨b, j, none⟩ = some v := fun j v h => by rw [hW1, World.cell?_alloc_past (w := w.drew) _ b j hbw]; exact h
  have hOv : ∀ j v, w.cell? ⟨vb, j, none⟩ = some v → W1.cell? ⟨vb, j, none⟩ = some v := fun j v h => by rw [hW1, World.cell?_alloc_past (w := w.drew) _ vb j hvw]; exact h
  have hcpA : ∀ (W : World), (∀ x, W.cell? x = W1.cell? x) → (∀ x, W.frozen? x = W1.frozen? x) → ∀ ty dc, (Builtin.copy_ #[70, 70] ty #[.slice (some ⟨w.heap.size, i * 17, none⟩) (n + 1 - i) dc, .slice (some ⟨vb, vo, none⟩) 1 vc]).run Try.prog W = .ok (goInt 1) (W.setCells w.heap.size (i * 17) vs) := fun W hWc hWf ty dc =>
    run_copyK W _ _ ty 28 w.heap.size (i * 17) (n + 1 - i) dc ⟨vb, vo, none⟩ 1 vc 17 1 vs Try.underlying70 hsz (by simp only [Nat.min_def]; split <;> omega) (by rw [hvl])
      (fun j v hj => by rw [Addr.add_lit, hWc]; exact hOv _ v (hvs j v hj))
      (fun j hj => by rw [hWc]; exact hN _ (by rw [hvl] at hj; omega)) (fun j hj => by rw [hWf]; exact hNf _) h1v
  have hGn : n + 1 ≤ G := by rw [hG]; exact grownCap_ge w _ _ _
  have hG63 : G ≤ 9223372036854775807 := by
    have := grownCap_le_maxLen w (n + 1) c 28 (by unfold maxLen; omega)
    rw [← hG] at this
    unfold maxLen at this
    omega
  have hGi : ¬ (G = i) := by omega
  have hGim : ¬ (G = i + 1) := by omega
  have hci : ¬ (c = i) := by omega
  have hbN : b ≠ w.heap.size := by omega
  have hdl : (cs.drop (i * 17)).length = (n - i) * 17 := by rw [List.length_drop, hcl]; omega
  have hcpB : ∀ (W : World), (∀ x, W.cell? x = (W1.setCells w.heap.size (i * 17) vs).cell? x) → (∀ x, W.frozen? x = (W1.setCells w.heap.size (i * 17) vs).frozen? x) → ∀ ty dc sc, (Builtin.copy_ #[70, 70] ty #[.slice (some ⟨w.heap.size, (i + 1) * 17, none⟩) (n - i) dc, .slice (some ⟨b, i * 17, none⟩) (n - i) sc]).run Try.prog W = .ok (goInt ((n - i : Nat) : Int)) (W.setCells w.heap.size ((i + 1) * 17) (cs.drop (i * 17))) := fun W hWc hWf ty dc sc =>
    run_copyK W _ _ ty 28 w.heap.size ((i + 1) * 17) (n - i) dc ⟨b, i * 17, none⟩ (n - i) sc 17 (n - i) (cs.drop (i * 17)) Try.underlying70 hsz (by simp only [Nat.min_def]; split <;> omega) hdl
      (fun j v hj => by
        rw [Addr.add_lit, hWc, World.cell?_setCells_out _ _ _ _ _ (fun h _ => absurd h hbN)]
        exact hOb _ v (hcs (i * 17 + j) v (by rwa [List.getElem?_drop] at hj)))
      (fun j hj => by rw [hWc]; exact isSome_setCells w.heap.size vs (i * 17) W1 (fun t ht => hN _ (by rw [hvl] at ht; omega)) _ (hN _ (by rw [hdl] at hj; omega)))
      (fun j hj => by rw [hWf, World.frozen?_setCells]; exact hNf _) (fun v hv => h1c v (List.mem_of_mem_drop hv))
  subst hW1
  have hE1 : ∀ x, ((w.alloc (.cells ROW 28)).drew).cell? x = (w.drew.alloc (.cells ROW 28)).cell? x := fun x => rfl
  have hE2 : ∀ x, ((w.alloc (.cells ROW 28)).drew).frozen? x = (w.drew.alloc (.cells ROW 28)).frozen? x := fun x => rfl
  have hF1 : ∀ x, (((w.alloc (.cells ROW 28)).drew.setCells w.heap.size (i * 17) vs).drew).cell? x = ((w.drew.alloc (.cells ROW 28)).setCells w.heap.size (i * 17) vs).cell? x := fun x => rfl
  have hF2 : ∀ x, (((w.alloc (.cells ROW 28)).drew.setCells w.heap.size (i * 17) vs).drew).frozen? x = ((w.drew.alloc (.cells ROW 28)).setCells w.heap.size (i * 17) vs).frozen? x := fun x => rfl
  have hw1 : IntKind.i64.wrap ((i : Int) + 1) = (i : Int) + 1 := by rw [IntKind.wrap_i64]; omega
  have hw2 : IntKind.i64.wrap ((n : Int) + 1) = (n : Int) + 1 := by rw [IntKind.wrap_i64]; omega
  have hw3 : IntKind.i64.wrap ((n : Int) + 1 - (i : Int)) = (n : Int) + 1 - (i : Int) := by rw [IntKind.wrap_i64]; omega
  have hb1 : (0 : Int) ≤ (i : Int) + 1 := by omega
  have hin : i ≤ n := by omega
  have htn : ((i : Int) + 1).toNat = i + 1 := by omega
  have hb3 : (i : Int) ≤ (n : Int) := by omega
  clear hkk hik hold hROW hG htl
  go_enter Try.func87, Try.ntmps87
  go_wp2_with (first
    | (at_builtin; refine Lib.wpList_append_run _ rfl _ _ _ _ rfl _ _ rfl rfl _ _ (hrz _) ?_)
    | (at_builtin; refine wpList_copy_runI _ rfl _ _ 70 70 rfl _ _ rfl rfl (hcpA _ hE1 hE2 _ _) ?_)
    | (at_builtin; refine wpList_copy_runI _ rfl _ _ 70 70 rfl _ _ rfl rfl (hcpB _ (fun _ => rfl) (fun _ => rfl) _ _ _) ?_))
  go_region_law_o (refine step_copy_runI rfl _ _ 70 70 rfl (.slice (some ⟨w.heap.size, (i + 1) * 17, none⟩) (n - i) (G - (i + 1))) (.slice (some ⟨b, i * 17, none⟩) (n - i) (c - i)) (by simp [Act.eval, Act.put]) (by simp [Act.eval, Act.put]) (hcpB _ hF1 hF2 3 (G - (i + 1)) (c - i)) ?_)
  go_wp2
  go_ret
  exact ⟨G, ROW, hGn, hRl, hRt, rfl, rfl⟩
set_option maxHeartbeats 4000000 in
/-- at the end: what append does -/
theorem ins87_end (base vbase : Option Addr) (n c vc : Nat) (w w' : World) (q : Value) (hnc : n ≤ c) (hnil : base = none → c = 0)
    (hrun : (Builtin.append_ #[70, 70] 70 #[.slice base n c, .slice vbase 1 vc]).run Try.prog w = .ok q w') :
    Calls Try.prog 87 #[.slice base n c, .int .i64 n, .slice vbase 1 vc] w fun e W => e = .returned q ∧ W = w' := by
  have t0 := Try.underlying70
  have u0 := run_underlying Try.underlying70
  have hso : ∀ w : World, (sizeOf 28).run Try.prog w = .ok 17 w := run_sizeOf' (by kernel_rfl)
  have mixed : Try.prog.follows .mixedOrders = true := by kernel_rfl
  cases base with
  | none =>
    have hc0 := hnil rfl
    subst hc0
    have hn0 : n = 0 := by omega
    subst hn0
    go_enter Try.func87, Try.ntmps87
    go_wp2_with (at_builtin; refine Lib.wpList_append_run _ rfl _ _ _ _ rfl _ _ rfl rfl _ _ hrun ?_)
    all_goals go_ret
    all_goals exact ⟨rfl, rfl⟩
  | some ad =>
    go_enter Try.func87, Try.ntmps87
    go_wp2_with (at_builtin; refine Lib.wpList_append_run _ rfl _ _ _ _ rfl _ _ rfl rfl _ _ hrun ?_)
    all_goals go_ret
    all_goals exact ⟨rfl, rfl⟩
theorem ins87_raw : InsRaw Try.prog 87 70 28 17 152 := ⟨Try.underlying70, by kernel_rfl, ins87_room, ins87_grow, ins87_end⟩
end Go.Ord
