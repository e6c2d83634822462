/- Walks and laws. -/
import Derived.Test.YtmcjdeiicbgmhabChB6
import Derived.Test.YtmcjdeiicbgmhabLibB
import Derived.HandedShaped
set_option maxRecDepth 100000
set_option maxHeartbeats 0
set_option linter.unusedSimpArgs false
set_option linter.unusedVariables false
namespace Go.Tr
open Go Go.Abs Go.Proofs
theorem cof35 : Try.prog.cellsOf 35 = 2 := by kernel_rfl
theorem tree_has : ∀ (t : TypeId) (cs : List AVal), HasT Try.prog t cs → (t = 35 → ∃ x : T, cs = tc x) ∧ (t = 33 → ∃ ks : List T, cs = [.sl (tcs ks) ks.length .any]) := by
  intro t cs h
  induction h with
  | bool t b h => exact ⟨fun e => by subst e; rw [Try.underlying35] at h; simp at h, fun e => by subst e; rw [Try.underlying33] at h; simp at h⟩
  | int t k n h hw => exact ⟨fun e => by subst e; rw [Try.underlying35] at h; simp at h, fun e => by subst e; rw [Try.underlying33] at h; simp at h⟩
  | string t s h => exact ⟨fun e => by subst e; rw [Try.underlying35] at h; simp at h, fun e => by subst e; rw [Try.underlying33] at h; simp at h⟩
  | slice t e cs n h hl hb hi ih =>
    refine ⟨fun e => by subst e; rw [Try.underlying35] at h; simp at h, fun e => ?_⟩
    subst e
    rw [Try.underlying33] at h
    simp only [Option.some.injEq, TypeDesc.slice.injEq] at h
    subst h
    rw [cof35] at hl ih
    obtain ⟨l, h3, _, h5⟩ := items_of tc (fun _ => True) 2 n cs hl (fun i hi => by
      obtain ⟨o, ho⟩ := (ih i hi).1 rfl
      exact ⟨o, trivial, ho⟩)
    exact ⟨l, by rw [tcs_flat, h5, h3]⟩
  | struct t fs cs h hl hi ih =>
    refine ⟨fun e => ?_, fun e => by subst e; rw [Try.underlying33] at h; simp at h⟩
    subst e
    rw [Try.underlying35] at h
    simp only [Option.some.injEq, TypeDesc.struct.injEq] at h
    subst h
    have hl2 : cs.length = 2 := hl.trans cof35
    have h0 := hi 0 _ rfl
    obtain ⟨ks, hk⟩ := (ih 1 _ rfl).2 rfl
    obtain ⟨n, _, hn⟩ := HasT.int_inv Try.underlying3 h0
    match cs, hl2 with
    | [a, b], _ =>
      have e1 : [a] = [AVal.sc (.int .i64 n)] := hn
      have e2 : [b] = [AVal.sl (tcs ks) ks.length .any] := hk
      injection e1 with e1
      injection e2 with e2
      exact ⟨.mk n ks, by rw [tc, e1, e2]⟩
  | array t e n cs h hl hi ih => exact ⟨fun e => by subst e; rw [Try.underlying35] at h; simp at h, fun e => by subst e; rw [Try.underlying33] at h; simp at h⟩
theorem tree_of {xs : List AVal} (h : HasT Try.prog 35 xs) : ∃ (n : Int) (ks : List T), xs = [.sc (.int .i64 n), .sl (tcs ks) ks.length .any] := by
  obtain ⟨x, hx⟩ := (tree_has 35 xs h).1 rfl
  exact ⟨x.n, x.ks, by rw [hx, tc_eta]⟩
end Go.Tr
namespace Go.Ops
open Go Go.Abs Go.Proofs
theorem op_of {xs : List AVal} (h : HasT Try.prog 89 xs) : ∃ o : OpD, xs = opc o := by
  obtain ⟨_, _, rfl, ⟨k, _, rfl⟩, _, _, rfl, ⟨key, rfl⟩, _, _, rfl, ⟨f, rfl⟩, _, _, rfl, ⟨inner, _, rfl⟩, _, _, rfl, ⟨a, _, rfl⟩, _, _, rfl, ⟨n, _, rfl⟩, _, _, rfl, ⟨t, rfl⟩, _, _, rfl, ⟨p, _, rfl⟩, _, _, rfl, ⟨s, _, rfl⟩, _, _, rfl, ⟨i, _, rfl⟩, rfl⟩ := leaves_spec 4 89 [.int .i64, .str, .str, .int .i64, .int .i64, .int .i64, .str, .int .i64, .int .i64, .int .i64] xs (by kernel_rfl) h
  exact ⟨⟨k, key, f, inner, a, n, t, p, s, i⟩, rfl⟩
theorem vec_of {xs : List AVal} (h : HasT Try.prog 29 xs) : ∃ v : Nat → Int, xs = vecc .on v := by
  obtain ⟨_, _, rfl, ⟨n0, _, rfl⟩, _, _, rfl, ⟨n1, _, rfl⟩, _, _, rfl, ⟨n2, _, rfl⟩, _, _, rfl, ⟨n3, _, rfl⟩, _, _, rfl, ⟨n4, _, rfl⟩, _, _, rfl, ⟨n5, _, rfl⟩, _, _, rfl, ⟨n6, _, rfl⟩, _, _, rfl, ⟨n7, _, rfl⟩, _, _, rfl, ⟨n8, _, rfl⟩, _, _, rfl, ⟨n9, _, rfl⟩, _, _, rfl, ⟨n10, _, rfl⟩, _, _, rfl, ⟨n11, _, rfl⟩, _, _, rfl, ⟨n12, _, rfl⟩, rfl⟩ := leaves_spec 4 29 (List.replicate 13 (.int .i64)) xs (by kernel_rfl) h
  exact ⟨fun i => ([n0, n1, n2, n3, n4, n5, n6, n7, n8, n9, n10, n11, n12] : List Int).getD i 0, rfl⟩
theorem tx_of {xs : List AVal} (h : HasT Try.prog 32 xs) : ∃ t : TxD, xs = txc .on t := by
  obtain ⟨_, _, rfl, ⟨p, _, rfl⟩, _, _, rfl, ⟨s, _, rfl⟩, _, _, rfl, ⟨n0, _, rfl⟩, _, _, rfl, ⟨n1, _, rfl⟩, _, _, rfl, ⟨n2, _, rfl⟩, _, _, rfl, ⟨n3, _, rfl⟩, _, _, rfl, ⟨n4, _, rfl⟩, _, _, rfl, ⟨n5, _, rfl⟩, _, _, rfl, ⟨n6, _, rfl⟩, _, _, rfl, ⟨n7, _, rfl⟩, _, _, rfl, ⟨n8, _, rfl⟩, _, _, rfl, ⟨n9, _, rfl⟩, _, _, rfl, ⟨n10, _, rfl⟩, _, _, rfl, ⟨n11, _, rfl⟩, _, _, rfl, ⟨n12, _, rfl⟩, _, _, rfl, ⟨time, _, rfl⟩, _, _, rfl, ⟨ys, n, rfl, h1, _, h2⟩, rfl⟩ := leaves_spec 4 32 ([.int .i64, .int .i64] ++ List.replicate 13 (.int .i64) ++ [.int .i64, .sl 89]) xs (by kernel_rfl) h
  have hc : Try.prog.cellsOf 89 = 10 := by kernel_rfl
  rw [hc] at h1 h2
  obtain ⟨l, h3, _, h5⟩ := items_of opc (fun _ => True) 10 n ys h1 (fun i hi => by
    obtain ⟨o, ho⟩ := op_of (h2 i hi)
    exact ⟨o, trivial, ho⟩)
  subst h3
  subst h5
  exact ⟨⟨p, s, fun i => ([n0, n1, n2, n3, n4, n5, n6, n7, n8, n9, n10, n11, n12] : List Int).getD i 0, time, l⟩, rfl⟩
end Go.Ops
namespace Go.Chu
open Go Go.Abs Go.Proofs
theorem flat1 {α : Type} (f : α → AVal) (l : List α) : l.flatMap (fun x => [f x]) = l.map f := by
  induction l with
  | nil => rfl
  | cons a l ih => rw [List.flatMap_cons, ih]; rfl
theorem bytes_of {xs : List AVal} (h : HasT Try.prog 22 xs) : ∃ l : List Int, Bts l ∧ xs = [.sl (u8s l) l.length .any] := by
  obtain ⟨ys, n, rfl, h1, _, h2⟩ := HasT.slice_inv Try.underlying22 h
  have hc : Try.prog.cellsOf 5 = 1 := by kernel_rfl
  rw [hc] at h1 h2
  obtain ⟨l, h3, h4, h5⟩ := items_of (fun x : Int => [AVal.sc (.int .u8 x)]) (fun x => 0 ≤ x ∧ x < 256) 1 n ys h1 (fun i hi => by
    obtain ⟨a, hw, ha⟩ := HasT.int_inv Try.underlying5 (h2 i hi)
    exact ⟨a, wf_u8 hw, ha⟩)
  subst h3
  refine ⟨l, fun x hx => h4 x hx, ?_⟩
  rw [h5, flat1]
theorem ints_of {xs : List AVal} (h : HasT Try.prog 38 xs) : ∃ l : List Int, xs = [.sl (ints l) l.length .any] := by
  obtain ⟨ys, n, rfl, h1, _, h2⟩ := HasT.slice_inv Try.underlying38 h
  have hc : Try.prog.cellsOf 3 = 1 := by kernel_rfl
  rw [hc] at h1 h2
  obtain ⟨l, h3, h4, h5⟩ := items_of (fun x : Int => [AVal.sc (.int .i64 x)]) (fun x => True) 1 n ys h1 (fun i hi => by
    obtain ⟨a, hw, ha⟩ := HasT.int_inv Try.underlying3 (h2 i hi)
    exact ⟨a, trivial, ha⟩)
  subst h3
  refine ⟨l, ?_⟩
  rw [h5, flat1]; rfl
theorem cut_at (xs : List AVal) (a b : Nat) (h : a ≤ b) : xs.drop a = (xs.drop a).take (b - a) ++ xs.drop b := by
  have : xs.drop b = (xs.drop a).drop (b - a) := by rw [List.drop_drop]; congr 1; omega
  rw [this, List.take_append_drop]
theorem msg_of {xs : List AVal} (h : HasT Try.prog 40 xs) : ∃ x : MT, Bts x.data ∧ xs = msgc .on (x.toM .on) := by
  obtain ⟨hl, hi⟩ := HasT.struct_inv Try.underlying40 h
  have hc : Try.prog.cellsOf 40 = 56 := by kernel_rfl
  rw [hc] at hl
  obtain ⟨k, _, h0⟩ := HasT.int_inv Try.underlying3 (hi 0 _ rfl)
  obtain ⟨f, _, h1⟩ := HasT.int_inv Try.underlying3 (hi 1 _ rfl)
  obtain ⟨d, _, h2⟩ := HasT.int_inv Try.underlying3 (hi 2 _ rfl)
  obtain ⟨t, h3⟩ := Go.Ops.tx_of (hi 3 _ rfl)
  obtain ⟨v, h4⟩ := Go.Ops.vec_of (hi 4 _ rfl)
  obtain ⟨r, h5⟩ := Go.Ops.vec_of (hi 5 _ rfl)
  obtain ⟨fl, h6⟩ := HasT.bool_inv Try.underlying4 (hi 6 _ rfl)
  obtain ⟨nu, _, h7⟩ := HasT.int_inv Try.underlying3 (hi 7 _ rfl)
  obtain ⟨n, _, h8⟩ := HasT.int_inv Try.underlying3 (hi 8 _ rfl)
  obtain ⟨c, _, h9⟩ := HasT.int_inv Try.underlying3 (hi 9 _ rfl)
  obtain ⟨data, hb, h10⟩ := bytes_of (hi 10 _ rfl)
  obtain ⟨hl2, hi2⟩ := HasT.struct_inv Try.underlying37 (hi 11 _ rfl)
  obtain ⟨n1, k1, h11⟩ := Go.Tr.tree_of (hi2 0 _ rfl)
  obtain ⟨n2, k2, h12⟩ := Go.Tr.tree_of (hi2 1 _ rfl)
  obtain ⟨ps, h13⟩ := ints_of (hi 12 _ rfl)
  have c3 : Try.prog.cellsOf 3 = 1 := by kernel_rfl
  have c4 : Try.prog.cellsOf 4 = 1 := by kernel_rfl
  have c32 : Try.prog.cellsOf 32 = 17 := by kernel_rfl
  have c29 : Try.prog.cellsOf 29 = 13 := by kernel_rfl
  have c22 : Try.prog.cellsOf 22 = 1 := by kernel_rfl
  have c35 : Try.prog.cellsOf 35 = 2 := by kernel_rfl
  have c37 : Try.prog.cellsOf 37 = 4 := by kernel_rfl
  have c38 : Try.prog.cellsOf 38 = 1 := by kernel_rfl
  refine ⟨⟨k, f, d, t, v, r, fl, nu, n, c, data, .mk n1 k1, .mk n2 k2, ps⟩, hb, ?_⟩
  have g0 : (xs.drop 0).take (1 - 0) = [.sc (.int .i64 k)] := h0
  have g1 : (xs.drop 1).take (2 - 1) = [.sc (.int .i64 f)] := h1
  have g2 : (xs.drop 2).take (3 - 2) = [.sc (.int .i64 d)] := h2
  have g3 : (xs.drop 3).take (20 - 3) = Go.Ops.txc .on t := h3
  have g4 : (xs.drop 20).take (33 - 20) = vecc .on v := h4
  have g5 : (xs.drop 33).take (46 - 33) = vecc .on r := h5
  have g6 : (xs.drop 46).take (47 - 46) = [.sc (.bool fl)] := h6
  have g7 : (xs.drop 47).take (48 - 47) = [.sc (.int .i64 nu)] := h7
  have g8 : (xs.drop 48).take (49 - 48) = [.sc (.int .i64 n)] := h8
  have g9 : (xs.drop 49).take (50 - 49) = [.sc (.int .i64 c)] := h9
  have g10 : (xs.drop 50).take (51 - 50) = [.sl (u8s data) data.length .any] := h10
  have g13 : (xs.drop 55).take (56 - 55) = [.sl (ints ps) ps.length .any] := h13
  have g11 : (((xs.drop 51).take 4).drop 0).take (2 - 0) = [.sc (.int .i64 n1), .sl (Go.Tr.tcs k1) k1.length .any] := h11
  have g12 : (((xs.drop 51).take 4).drop 2).take (4 - 2) = [.sc (.int .i64 n2), .sl (Go.Tr.tcs k2) k2.length .any] := h12
  have gs : (xs.drop 51).take (55 - 51) = [.sc (.int .i64 n1), .sl (Go.Tr.tcs k1) k1.length .any, .sc (.int .i64 n2), .sl (Go.Tr.tcs k2) k2.length .any] := by
    have e := cut_at ((xs.drop 51).take 4) 0 2 (by omega)
    have e2 := cut_at ((xs.drop 51).take 4) 2 4 (by omega)
    rw [e2, g11, g12, List.drop_of_length_le (l := (xs.drop 51).take 4) (i := 4) (by rw [List.length_take]; exact Nat.min_le_left _ _)] at e
    rw [List.drop_zero] at e
    exact e
  have e : xs = xs.drop 0 := rfl
  rw [e, cut_at xs 0 1 (by omega), cut_at xs 1 2 (by omega), cut_at xs 2 3 (by omega), cut_at xs 3 20 (by omega), cut_at xs 20 33 (by omega), cut_at xs 33 46 (by omega), cut_at xs 46 47 (by omega), cut_at xs 47 48 (by omega), cut_at xs 48 49 (by omega), cut_at xs 49 50 (by omega), cut_at xs 50 51 (by omega), cut_at xs 51 55 (by omega), cut_at xs 55 56 (by omega), List.drop_of_length_le (show xs.length ≤ 56 by omega)]
  rw [g0, g1, g2, g3, g4, g5, g6, g7, g8, g9, g10, gs, g13]
  rfl
end Go.Chu
