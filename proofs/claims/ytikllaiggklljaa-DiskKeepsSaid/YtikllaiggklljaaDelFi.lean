/- Walks and laws. -/
import Derived.Test.YtikllaiggklljaaLibC
import Derived.Test.YtikllaiggklljaaProg
import Derived.Shelf.RegionOpenPlain
import Derived.WalkKit
import Derived.Lib.Walk
import Derived.Lib.SliceRun
import Derived.Deep.RegionLaw

set_option maxRecDepth 100000
set_option maxHeartbeats 0
set_option linter.unusedSimpArgs false
set_option linter.unusedVariables false
namespace Go.Dk
open Go Go.Abs Go.Proofs Go.Lib Go.RowKit
set_option maxHeartbeats 4000000 in
theorem del84_run (b n c i : Nat) (cs : List Value) (w : World) (hi : i < n) (hnc : n ≤ c) (hn9 : n ≤ 1000000000) (hcl : cs.length = n * 3)
    (hcs : ∀ j v, cs[j]? = some v → w.cell? ⟨b, j, none⟩ = some v) (hfz : ∀ j, w.frozen? ⟨b, j, none⟩ = false) (h1c : ∀ v ∈ cs, v.oneCell' = true) :
    Calls Try.prog 84 #[.slice (some ⟨b, 0, none⟩) n c, .int .i64 i, .int .i64 ((i : Int) + 1)] w fun e w' =>
      e = .returned (.slice (some ⟨b, 0, none⟩) (n - 1) c) ∧ ∃ zs : List Value, zs.length = 3 ∧ w' = (w.drew.setCells b (i * 3) (cs.drop ((i + 1) * 3))).setCells b ((n - 1) * 3) zs := by
  have t0 := Try.underlying71
  have u0 := run_underlying Try.underlying71
  obtain ⟨i0, z, hi0, hz0, hzs, hzc, hz1⟩ : ∃ i0 z, Try.prog.info? 89 = some i0 ∧ i0.zero = some z ∧ i0.size = 3 ∧ z.cells.size = 3 ∧ z.cells.toList.all (·.oneCell') = true := by
    have h : (Try.prog.info? 89).bind (fun i => i.zero.map fun z => (i.size, z.cells.size, z.cells.toList.all (·.oneCell'))) = some (3, 3, true) := by kernel_rfl
    cases hq : Try.prog.info? 89 with
    | none => rw [hq] at h; cases h
    | some i0 =>
      rw [hq] at h
      cases hq2 : i0.zero with
      | none => simp [hq2] at h
      | some z =>
        have h := h
        simp only [Option.bind_some, hq2, Option.map_some, Option.some.injEq, Prod.mk.injEq] at h
        exact ⟨i0, z, rfl, hq2, h.1, h.2.1, h.2.2⟩
  have mixed : Try.prog.follows .mixedOrders = true := by kernel_rfl
  have hso : ∀ w : World, (sizeOf 89).run Try.prog w = .ok 3 w := run_sizeOf' (by kernel_rfl)
  have hdl : (cs.drop ((i + 1) * 3)).length = (n - (i + 1)) * 3 := by rw [List.length_drop, hcl]; omega
  have h63 : ((i : Int) + 1).toNat = i + 1 := by omega
  obtain ⟨A, hA, hsrc⟩ : ∃ A : Addr, (if c = i + 1 then some (⟨b, 0, none⟩ : Addr) else some ⟨b, (i + 1) * 3, none⟩) = some A ∧ Hid (∀ t u, (cs.drop ((i + 1) * 3))[t]? = some u → w.drew.cell? (A.add t) = some u) := by
    by_cases h : c = i + 1
    · refine ⟨⟨b, 0, none⟩, by simp [h], fun t u hu => ?_⟩
      have h0 : (cs.drop ((i + 1) * 3)).length = 0 := by rw [hdl]; omega
      rw [List.length_eq_zero_iff.1 h0] at hu
      simp at hu
    · refine ⟨⟨b, (i + 1) * 3, none⟩, by simp [h], fun t u hu => ?_⟩
      rw [Addr.add_lit]
      rw [List.getElem?_drop] at hu
      exact hcs _ _ hu
  have s1 : Hid ((cs.drop ((i + 1) * 3)).length = (n - (i + 1)) * 3) := hdl
  have s2 : Hid (∀ u ∈ cs.drop ((i + 1) * 3), u.oneCell' = true) := fun u hu => h1c u (List.mem_of_mem_drop hu)
  have hcell : ∀ j, j < n * 3 → (w.cell? ⟨b, j, none⟩).isSome = true := fun j hj => by
    rw [hcs j _ (List.getElem?_eq_getElem (by omega))]; rfl
  have s3 : Hid (∀ t, t < (cs.drop ((i + 1) * 3)).length → (w.drew.cell? ⟨b, 0 + i * 3 + t, none⟩).isSome = true ∧ w.drew.frozen? ⟨b, 0 + i * 3 + t, none⟩ = false) := by
    intro t ht
    rw [hdl] at ht
    exact ⟨hcell _ (by omega), hfz _⟩
  obtain ⟨W1, hW1⟩ : ∃ W1, W1 = w.drew.setCells b (0 + i * 3) (cs.drop ((i + 1) * 3)) := ⟨_, rfl⟩
  have hzl : (Builtin.zeroCells z.cells 1).size = 3 := by simp [Builtin.zeroCells, hzc]
  have hz1' : ∀ v ∈ (Builtin.zeroCells z.cells 1).toList, v.oneCell' = true := by
    intro v hv
    have hv : v ∈ z.cells.toList := by
      obtain ⟨q, hq⟩ := List.mem_iff_getElem?.1 hv
      have hql : q < 3 := by
        rcases Nat.lt_or_ge q 3 with h | h
        · exact h
        · rw [List.getElem?_eq_none (by rw [Array.length_toList, hzl]; exact h)] at hq; cases hq
      have : (Builtin.zeroCells z.cells 1)[q]? = z.cells[q]? := by
        simp only [Builtin.zeroCells, Array.getElem?_map]
        rw [Array.getElem?_eq_getElem (by simp [hzc]; omega)]
        simp only [Option.map_some, Array.getElem_range, hzc, Nat.mod_eq_of_lt hql]
        rw [Array.getElem?_eq_getElem (by omega), getElem!_pos z.cells q (by omega)]
      rw [Array.getElem?_toList, this, ← Array.getElem?_toList] at hq
      exact List.mem_of_getElem? hq
    exact List.all_eq_true.1 hz1 v hv
  have hcl2 : ∀ ty cp, (Builtin.clear_ #[71] ty #[.slice (some ⟨b, (i + (n - (i + 1))) * 3, none⟩) (n - (i + (n - (i + 1)))) cp]).run Try.prog W1 = .ok (.tuple #[]) (W1.setCells b ((i + (n - (i + 1))) * 3) (Builtin.zeroCells z.cells 1).toList) := fun ty cp => by
    have e1 : n - (i + (n - (i + 1))) = 1 := by omega
    rw [e1]
    exact run_clearK W1 _ ty _ i0 z t0 hi0 hz0 b _ 1 cp (by omega) (fun j hj => by
      rw [hzl] at hj
      rw [hW1]
      exact isSome_setCells b _ _ _ (fun t ht => by rw [hdl] at ht; exact hcell _ (by omega)) _ (hcell _ (by omega)))
      (fun j => by rw [hW1, World.frozen?_setCells]; exact hfz _) hz1'
  have hW : Hid (W1 = w.drew.setCells b (i * 3) (cs.drop ((i + 1) * 3))) := by rw [Nat.zero_add] at hW1; exact hW1
  have hlen0 : (Builtin.zeroCells z.cells 1).toList.length = 3 := by rw [Array.length_toList]; exact hzl
  generalize (Builtin.zeroCells z.cells 1).toList = ZS at hcl2 hlen0 hz1'
  have hic : i ≤ c := by omega
  have hjc : i + 1 ≤ c := by omega
  have hne : ¬ ((i : Int) = (i : Int) + 1) := by omega
  have hb5 : (i : Int) + 1 ≤ (n : Int) := by omega
  have hb6 : (0 : Int) ≤ (i : Int) + 1 := by omega
  have hw1 : IntKind.i64.wrap ((i : Int) + 1) = (i : Int) + 1 := by rw [IntKind.wrap_i64]; omega
  clear hcl hcell hdl hW1 hzl hz1 hzc
  go_enter Try.func84, Try.ntmps84
  go_wp2_with fail
  go_region_law_o (refine step_append_room rfl (.tmp 22) (.tmp 25) 71 rfl 89 i0 3 t0 hi0 hzs b 0 i c (by simp [Act.eval, Act.put]) A (n - (i + 1)) (c - (i + 1)) (cs.drop ((i + 1) * 3)) (by simp [Act.eval, Act.put]) s1.out hsrc.out s2.out (by omega) s3.out ?_; (try rw [Nat.zero_add]); rw [← hW.out])
  go_wp2
  go_ret
  refine ⟨by rw [show n - 1 = i + (n - (i + 1)) by omega]; rfl, ZS, hlen0, ?_⟩
  rw [hW.out, show n - 1 = i + (n - (i + 1)) by omega]
theorem del84_raw : DelRaw Try.prog 84 71 89 3 := ⟨del84_run⟩
end Go.Dk
