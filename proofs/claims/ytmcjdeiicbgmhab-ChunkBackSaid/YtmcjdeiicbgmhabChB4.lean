/- Walks and laws. -/
import Derived.Test.YtmcjdeiicbgmhabChB3
import Derived.Test.YtmcjdeiicbgmhabLibB
set_option maxRecDepth 100000
set_option maxHeartbeats 0
set_option linter.unusedSimpArgs false
set_option linter.unusedVariables false
namespace Go.Chu
open Go Go.Abs Go.Proofs
def HB : List Int := (List.replicate 513 0).set 512 7
theorem HB_length : HB.length = 513 := by simp [HB]
theorem HB_bts : Bts HB := by
  intro y hy
  rcases List.mem_or_eq_of_mem_set hy with h | h
  · have := List.eq_of_mem_replicate h; omega
  · omega
def PA : List Int := piece HB 0
def PB : List Int := piece HB 1
theorem HB_np : np HB = 2 := by unfold np; rw [HB_length]; rfl
theorem HB_pieces : pieces HB = [PA, PB] := by unfold pieces; rw [HB_np]; rfl
theorem PA_length : PA.length = 512 := by rw [PA, piece_length, HB_length]; rfl
theorem PB_length : PB.length = 1 := by rw [PB, piece_length, HB_length]; rfl
theorem PAB : PA ++ PB = HB := by
  unfold PA PB piece
  rw [Nat.mul_zero, List.drop_zero, Nat.mul_one, List.take_of_length_le (l := HB.drop 512) (by simp [HB_length]), List.take_append_drop]
theorem heads : EvD Try.prog 11 [] (.sc (.bool true)) := by
  have s1 : EvD Try.prog 17 [.sl (u8s HB) 513 .any] (.sl (bss [PA, PB]) 2 .any) := by
    have h := split HB (by rw [HB_length]; omega)
    rw [HB_pieces, HB_np, HB_length] at h; exact h
  have s0 : EvD Try.prog 17 [.sl [] 0 .any] (.sl (bss (pieces [])) 1 .any) := split [] (by simp)
  have b1 : EvD Try.prog 20 [.sl (u8s HB) 513 .any, .sc (.int .i64 1), .sc (.int .i64 5)] (.agg [.sc (.int .i64 1), .sc (.int .i64 5), .sc (.int .i64 2), .sl (bss [PA, PB]) 2 .any]) := by
    have h := begins HB (by rw [HB_length]; omega) 1 5
    rw [HB_pieces, HB_np, HB_length] at h; exact h
  have hx : ∀ i, i < [PA, PB].length → ([PA, PB].getD i []).length ≤ 1000000 := by
    intro i hi
    match i, hi with
    | 0, _ => show PA.length ≤ _; rw [PA_length]; omega
    | 1, _ => show PB.length ≤ _; rw [PB_length]; omega
  have p0 : EvD Try.prog 12 [.agg [.sc (.int .i64 1), .sc (.int .i64 5), .sc (.int .i64 2), .sl (bss [PA, PB]) 2 .any], .sc (.int .i64 0), .sc (.int .i64 2)] (.tup [.agg (msgl (pieceM 4 1 2 5 0 2 PA)), .sc (.bool true)]) := by rw [← msgc_eq .on]; exact piece_yes .on 1 5 2 0 2 [PA, PB] hx (by simp)
  have p1 : EvD Try.prog 12 [.agg [.sc (.int .i64 1), .sc (.int .i64 5), .sc (.int .i64 2), .sl (bss [PA, PB]) 2 .any], .sc (.int .i64 1), .sc (.int .i64 2)] (.tup [.agg (msgl (pieceM 4 1 2 5 1 2 PB)), .sc (.bool true)]) := by rw [← msgc_eq .on]; exact piece_yes .on 1 5 2 1 2 [PA, PB] hx (by simp)
  have p2 : EvD Try.prog 12 [.agg [.sc (.int .i64 1), .sc (.int .i64 5), .sc (.int .i64 2), .sl (bss [PA, PB]) 2 .any], .sc (.int .i64 2), .sc (.int .i64 2)] (.tup [.agg (msgl (pieceM 0 0 0 0 0 0 [])), .sc (.bool false)]) := by rw [← msgc_eq .on]; exact piece_no .on 1 5 2 2 2 [PA, PB] (by simp)
  have t0 : EvD Try.prog 14 [.agg [.sc (.int .i64 0), .sc (.int .i64 0), .sc (.int .i64 0), .sl [] 0 .any], .agg (msgl (pieceM 4 1 2 5 0 2 PA))] (.tup [.agg [.sc (.int .i64 1), .sc (.int .i64 5), .sc (.int .i64 2), .sl (bss [PA]) 1 .any], .sc (.bool true)]) := by rw [← msgc_eq .on]; exact take_first .on (pieceM 4 1 2 5 0 2 PA) 0 0 0 [] (by show PA.length ≤ _; rw [PA_length]; omega) (by simp [pieceM])
  have t1 : EvD Try.prog 14 [.agg [.sc (.int .i64 1), .sc (.int .i64 5), .sc (.int .i64 2), .sl (bss [PA]) 1 .any], .agg (msgl (pieceM 4 1 2 5 1 2 PB))] (.tup [.agg [.sc (.int .i64 1), .sc (.int .i64 5), .sc (.int .i64 2), .sl (bss [PA, PB]) 2 .any], .sc (.bool true)]) := by rw [← msgc_eq .on]; exact take_next .on (pieceM 4 1 2 5 1 2 PB) [PA] (by simp) (by show PB.length ≤ _; rw [PB_length]; omega) (by simp [pieceM])
  have t2 : EvD Try.prog 14 [.agg [.sc (.int .i64 1), .sc (.int .i64 5), .sc (.int .i64 2), .sl (bss [PA, PB]) 2 .any], .agg (msgl (pieceM 4 1 2 5 1 2 PB))] (.tup [.agg [.sc (.int .i64 1), .sc (.int .i64 5), .sc (.int .i64 2), .sl (bss [PA, PB]) 2 .any], .sc (.bool false)]) := by rw [← msgc_eq .on]; exact take_no .on (pieceM 4 1 2 5 1 2 PB) 1 5 2 [PA, PB] (by simp [pieceM])
  have d1 : EvD Try.prog 23 [.agg [.sc (.int .i64 1), .sc (.int .i64 5), .sc (.int .i64 2), .sl (bss [PA]) 1 .any]] (.sc (.bool false)) := done 1 5 2 [PA]
  have d2 : EvD Try.prog 23 [.agg [.sc (.int .i64 1), .sc (.int .i64 5), .sc (.int .i64 2), .sl (bss [PA, PB]) 2 .any]] (.sc (.bool true)) := done 1 5 2 [PA, PB]
  have j1 : EvD Try.prog 26 [.agg [.sc (.int .i64 1), .sc (.int .i64 5), .sc (.int .i64 2), .sl (bss [PA, PB]) 2 .any]] (.sl (u8s (PA ++ PB)) 513 .any) := by
    have e : [PA, PB].flatten = PA ++ PB := by simp
    have h := join 1 5 2 [PA, PB] (by simp) (by rw [e, PAB, HB_length]; omega)
    rw [e] at h
    rw [show (PA ++ PB).length = 513 by rw [PAB, HB_length]] at h; exact h
  have y1 : EvD Try.prog 25 [.sl (u8s (PA ++ PB)) 513 .any, .sl (u8s HB) 513 .any] (.sc (.bool true)) := by
    rw [PAB]
    have h := Go.Num.n_bytes HB HB 513 513 HB_bts HB_bts HB_length.symm HB_length.symm
    rw [beq_self_eq_true] at h; exact h
  have lh := HB_length
  have la := PA_length
  have lb := PB_length
  clear hx
  generalize PA = A at *
  generalize PB = B at *
  refine EvD.body Try.func11 rfl rfl rfl ?_
  refine AWP.seq ?_
  refine TO ⟨[.undef] ++ UU 111, []⟩ ?_
  refine AWP.reg (RT 1 ?_)
  refine AWP.seq ?_
  refine TO ⟨[(B6 false)] ++ UU 111, []⟩ ?_
  refine AWP.reg (RI (((((0 : Int) ≤ (513 : Int)) ∧ ((513 : Int) ≤ (1073741824 : Int))) ∧ ((513 : Int) = (513 : Int))) ∧ True ∧ True) ⟨⟨⟨(by omega), (by omega)⟩, (by omega)⟩, trivial, trivial⟩ ?_)
  refine SQ (RI (True ∧ ((((0 : Int) ≤ (512 : Int)) ∧ ((512 : Int) < (513 : Int))) ∧ ((1 : Nat) = (1 : Nat))) ∧ 513 ≤ 513 ∧ True) ⟨trivial, ⟨⟨(by omega), (by omega)⟩, (by omega)⟩, (by omega), trivial⟩ ?_)
  refine AWP.seq (KL [15, 16, 17] ⟨[(B6 false), .row 0 0 513] ++ UU 110, [⟨u8s HB, 1, .fresh⟩]⟩ ?_)
  generalize HB = H at *
  refine AWP.fro [0] ((dataAll (u8s H) = true) ∧ (True)) ⟨[(B6 false), .sl (List.take (513 * 1) (List.drop 0 (u8s H))) 513 .any] ++ UU 110, [⟨u8s H, 1, .frozen⟩]⟩ (by kernel_rfl) ⟨dataAll_u8s _, trivial⟩ ?_
  rw [show List.take (513 * 1) (List.drop 0 (u8s H)) = u8s H from by rw [List.drop_zero, List.take_of_length_le (by rw [u8s_length, lh]; decide)]]
  refine AWP.reg (PT 1 1 ?_)
  refine CD (b1) ?_
  refine RI (True ∧ 4 ≤ 4 ∧ True) ⟨trivial, (by omega), trivial⟩ ?_
  refine AWP.seq (KL [18, 19] ⟨[(B6 false), .sl (u8s H) 513 .any, .ptr 1 0] ++ UU 109, [⟨u8s H, 1, .frozen⟩, ⟨[(I6 1), (I6 5), (I6 2), .sl [.sl (u8s A) (List.length A) .any, .sl (u8s B) (List.length B) .any] 2 .any], 4, .fresh⟩]⟩ ?_)
  refine AWP.reg (PI 1 (4 ≤ 4 ∧ True) ⟨(by omega), trivial⟩ ?_)
  refine CD (p0) ?_
  refine RI (True ∧ True ∧ True ∧ True ∧ 56 ≤ 56 ∧ True ∧ True) ⟨trivial, trivial, trivial, trivial, (by omega), trivial, trivial⟩ ?_
  refine AWP.seq (KL (NN 20 5) ⟨[(B6 false), .sl (u8s H) 513 .any, .ptr 1 0, .ptr 2 0, (B6 true)] ++ UU 107, [⟨u8s H, 1, .frozen⟩, ⟨[(I6 1), (I6 5), (I6 2), .sl [.sl (u8s A) (List.length A) .any, .sl (u8s B) (List.length B) .any] 2 .any], 4, .fresh⟩, ⟨[(I6 4), (I6 1), (I6 2), (I6 0), (I6 0), (I6 0), (I6 0), (I6 0), (I6 0), (I6 0), (I6 0), (I6 0), (I6 0), (I6 0), (I6 0), (I6 0), (I6 0), (I6 0), (I6 0), .sl [] 0 .any, (I6 0), (I6 0), (I6 0), (I6 0), (I6 0), (I6 0), (I6 0), (I6 0), (I6 0), (I6 0), (I6 0), (I6 0), (I6 0), (I6 0), (I6 0), (I6 0), (I6 0), (I6 0), (I6 0), (I6 0), (I6 0), (I6 0), (I6 0), (I6 0), (I6 0), (I6 0), (B6 false), (I6 5), (I6 0), (I6 2), .sl (u8s A) (List.length A) .any, (I6 0), .sl [] 0 .any, (I6 0), .sl [] 0 .any, .sl [] 0 .any], 56, .fresh⟩]⟩ ?_)
  refine AWP.reg (PI 1 (4 ≤ 4 ∧ True) ⟨(by omega), trivial⟩ ?_)
  refine CD (p1) ?_
  refine RI (True ∧ True ∧ True ∧ True ∧ 56 ≤ 56 ∧ True ∧ True) ⟨trivial, trivial, trivial, trivial, (by omega), trivial, trivial⟩ ?_
  refine AWP.seq (KL (NN 25 5) ⟨[(B6 false), .sl (u8s H) 513 .any, .ptr 1 0, .ptr 2 0, (B6 true), .ptr 3 0, (B6 true)] ++ UU 105, [⟨u8s H, 1, .frozen⟩, ⟨[(I6 1), (I6 5), (I6 2), .sl [.sl (u8s A) (List.length A) .any, .sl (u8s B) (List.length B) .any] 2 .any], 4, .fresh⟩, ⟨[(I6 4), (I6 1), (I6 2), (I6 0), (I6 0), (I6 0), (I6 0), (I6 0), (I6 0), (I6 0), (I6 0), (I6 0), (I6 0), (I6 0), (I6 0), (I6 0), (I6 0), (I6 0), (I6 0), .sl [] 0 .any, (I6 0), (I6 0), (I6 0), (I6 0), (I6 0), (I6 0), (I6 0), (I6 0), (I6 0), (I6 0), (I6 0), (I6 0), (I6 0), (I6 0), (I6 0), (I6 0), (I6 0), (I6 0), (I6 0), (I6 0), (I6 0), (I6 0), (I6 0), (I6 0), (I6 0), (I6 0), (B6 false), (I6 5), (I6 0), (I6 2), .sl (u8s A) (List.length A) .any, (I6 0), .sl [] 0 .any, (I6 0), .sl [] 0 .any, .sl [] 0 .any], 56, .fresh⟩, ⟨[(I6 4), (I6 1), (I6 2), (I6 0), (I6 0), (I6 0), (I6 0), (I6 0), (I6 0), (I6 0), (I6 0), (I6 0), (I6 0), (I6 0), (I6 0), (I6 0), (I6 0), (I6 0), (I6 0), .sl [] 0 .any, (I6 0), (I6 0), (I6 0), (I6 0), (I6 0), (I6 0), (I6 0), (I6 0), (I6 0), (I6 0), (I6 0), (I6 0), (I6 0), (I6 0), (I6 0), (I6 0), (I6 0), (I6 0), (I6 0), (I6 0), (I6 0), (I6 0), (I6 0), (I6 0), (I6 0), (I6 0), (B6 false), (I6 5), (I6 1), (I6 2), .sl (u8s B) (List.length B) .any, (I6 0), .sl [] 0 .any, (I6 0), .sl [] 0 .any, .sl [] 0 .any], 56, .fresh⟩]⟩ ?_)
  refine AWP.reg (PI 1 (4 ≤ 4 ∧ True) ⟨(by omega), trivial⟩ ?_)
  refine CD (p2) ?_
  refine RI (True ∧ True ∧ True ∧ True ∧ 56 ≤ 56 ∧ True ∧ True) ⟨trivial, trivial, trivial, trivial, (by omega), trivial, trivial⟩ ?_
  refine AWP.seq (KL ([7] ++ NN 30 5) ⟨[(B6 false), .sl (u8s H) 513 .any, .ptr 1 0, .ptr 2 0, (B6 true), .ptr 3 0, (B6 true), U6, (B6 false)] ++ UU 103, [⟨u8s H, 1, .frozen⟩, ⟨[(I6 1), (I6 5), (I6 2), .sl [.sl (u8s A) (List.length A) .any, .sl (u8s B) (List.length B) .any] 2 .any], 4, .fresh⟩, ⟨[(I6 4), (I6 1), (I6 2), (I6 0), (I6 0), (I6 0), (I6 0), (I6 0), (I6 0), (I6 0), (I6 0), (I6 0), (I6 0), (I6 0), (I6 0), (I6 0), (I6 0), (I6 0), (I6 0), .sl [] 0 .any, (I6 0), (I6 0), (I6 0), (I6 0), (I6 0), (I6 0), (I6 0), (I6 0), (I6 0), (I6 0), (I6 0), (I6 0), (I6 0), (I6 0), (I6 0), (I6 0), (I6 0), (I6 0), (I6 0), (I6 0), (I6 0), (I6 0), (I6 0), (I6 0), (I6 0), (I6 0), (B6 false), (I6 5), (I6 0), (I6 2), .sl (u8s A) (List.length A) .any, (I6 0), .sl [] 0 .any, (I6 0), .sl [] 0 .any, .sl [] 0 .any], 56, .fresh⟩, ⟨[(I6 4), (I6 1), (I6 2), (I6 0), (I6 0), (I6 0), (I6 0), (I6 0), (I6 0), (I6 0), (I6 0), (I6 0), (I6 0), (I6 0), (I6 0), (I6 0), (I6 0), (I6 0), (I6 0), .sl [] 0 .any, (I6 0), (I6 0), (I6 0), (I6 0), (I6 0), (I6 0), (I6 0), (I6 0), (I6 0), (I6 0), (I6 0), (I6 0), (I6 0), (I6 0), (I6 0), (I6 0), (I6 0), (I6 0), (I6 0), (I6 0), (I6 0), (I6 0), (I6 0), (I6 0), (I6 0), (I6 0), (B6 false), (I6 5), (I6 1), (I6 2), .sl (u8s B) (List.length B) .any, (I6 0), .sl [] 0 .any, (I6 0), .sl [] 0 .any, .sl [] 0 .any], 56, .fresh⟩, ⟨[(I6 0), (I6 0), (I6 0), (I6 0), (I6 0), (I6 0), (I6 0), (I6 0), (I6 0), (I6 0), (I6 0), (I6 0), (I6 0), (I6 0), (I6 0), (I6 0), (I6 0), (I6 0), (I6 0), .sl [] 0 .any, (I6 0), (I6 0), (I6 0), (I6 0), (I6 0), (I6 0), (I6 0), (I6 0), (I6 0), (I6 0), (I6 0), (I6 0), (I6 0), (I6 0), (I6 0), (I6 0), (I6 0), (I6 0), (I6 0), (I6 0), (I6 0), (I6 0), (I6 0), (I6 0), (I6 0), (I6 0), (B6 false), (I6 0), (I6 0), (I6 0), .sl [] 0 .any, (I6 0), .sl [] 0 .any, (I6 0), .sl [] 0 .any, .sl [] 0 .any], 56, .fresh⟩]⟩ ?_)
  refine AWP.reg (PI 2 (True ∧ 56 ≤ 56 ∧ True) ⟨trivial, (by omega), trivial⟩ ?_)
  refine DerQ.callEI (t0) ⟨by kernel_rfl, by kernel_rfl⟩ ?_
  refine RI (True ∧ True ∧ True ∧ True ∧ 4 ≤ 4 ∧ True ∧ True) ⟨trivial, trivial, trivial, trivial, (by omega), trivial, trivial⟩ ?_
  refine AWP.seq (KL (NN 35 6) ⟨[(B6 false), .sl (u8s H) 513 .any, .ptr 1 0, .ptr 2 0, (B6 true), .ptr 3 0, (B6 true), U6, (B6 false), .ptr 5 0, (B6 true)] ++ UU 101, [⟨u8s H, 1, .frozen⟩, ⟨[(I6 1), (I6 5), (I6 2), .sl [.sl (u8s A) (List.length A) .any, .sl (u8s B) (List.length B) .any] 2 .any], 4, .fresh⟩, ⟨[(I6 4), (I6 1), (I6 2), (I6 0), (I6 0), (I6 0), (I6 0), (I6 0), (I6 0), (I6 0), (I6 0), (I6 0), (I6 0), (I6 0), (I6 0), (I6 0), (I6 0), (I6 0), (I6 0), .sl [] 0 .any, (I6 0), (I6 0), (I6 0), (I6 0), (I6 0), (I6 0), (I6 0), (I6 0), (I6 0), (I6 0), (I6 0), (I6 0), (I6 0), (I6 0), (I6 0), (I6 0), (I6 0), (I6 0), (I6 0), (I6 0), (I6 0), (I6 0), (I6 0), (I6 0), (I6 0), (I6 0), (B6 false), (I6 5), (I6 0), (I6 2), .sl (u8s A) (List.length A) .any, (I6 0), .sl [] 0 .any, (I6 0), .sl [] 0 .any, .sl [] 0 .any], 56, .fresh⟩, ⟨[(I6 4), (I6 1), (I6 2), (I6 0), (I6 0), (I6 0), (I6 0), (I6 0), (I6 0), (I6 0), (I6 0), (I6 0), (I6 0), (I6 0), (I6 0), (I6 0), (I6 0), (I6 0), (I6 0), .sl [] 0 .any, (I6 0), (I6 0), (I6 0), (I6 0), (I6 0), (I6 0), (I6 0), (I6 0), (I6 0), (I6 0), (I6 0), (I6 0), (I6 0), (I6 0), (I6 0), (I6 0), (I6 0), (I6 0), (I6 0), (I6 0), (I6 0), (I6 0), (I6 0), (I6 0), (I6 0), (I6 0), (B6 false), (I6 5), (I6 1), (I6 2), .sl (u8s B) (List.length B) .any, (I6 0), .sl [] 0 .any, (I6 0), .sl [] 0 .any, .sl [] 0 .any], 56, .fresh⟩, ⟨[(I6 0), (I6 0), (I6 0), (I6 0), (I6 0), (I6 0), (I6 0), (I6 0), (I6 0), (I6 0), (I6 0), (I6 0), (I6 0), (I6 0), (I6 0), (I6 0), (I6 0), (I6 0), (I6 0), .sl [] 0 .any, (I6 0), (I6 0), (I6 0), (I6 0), (I6 0), (I6 0), (I6 0), (I6 0), (I6 0), (I6 0), (I6 0), (I6 0), (I6 0), (I6 0), (I6 0), (I6 0), (I6 0), (I6 0), (I6 0), (I6 0), (I6 0), (I6 0), (I6 0), (I6 0), (I6 0), (I6 0), (B6 false), (I6 0), (I6 0), (I6 0), .sl [] 0 .any, (I6 0), .sl [] 0 .any, (I6 0), .sl [] 0 .any, .sl [] 0 .any], 56, .fresh⟩, ⟨[(I6 1), (I6 5), (I6 2), .sl [.sl (u8s A) (List.length A) .any] 1 .any], 4, .fresh⟩]⟩ ?_)
  refine AWP.reg (PI 2 (4 ≤ 4 ∧ 56 ≤ 56 ∧ True) ⟨(by omega), (by omega), trivial⟩ ?_)
  refine CD (t1) ?_
  refine RI (True ∧ True ∧ True ∧ True ∧ 4 ≤ 4 ∧ True ∧ True) ⟨trivial, trivial, trivial, trivial, (by omega), trivial, trivial⟩ ?_
  refine AWP.seq (KL (NN 41 6) ⟨[(B6 false), .sl (u8s H) 513 .any, .ptr 1 0, .ptr 2 0, (B6 true), .ptr 3 0, (B6 true), U6, (B6 false), .ptr 5 0, (B6 true), .ptr 6 0, (B6 true)] ++ UU 99, [⟨u8s H, 1, .frozen⟩, ⟨[(I6 1), (I6 5), (I6 2), .sl [.sl (u8s A) (List.length A) .any, .sl (u8s B) (List.length B) .any] 2 .any], 4, .fresh⟩, ⟨[(I6 4), (I6 1), (I6 2), (I6 0), (I6 0), (I6 0), (I6 0), (I6 0), (I6 0), (I6 0), (I6 0), (I6 0), (I6 0), (I6 0), (I6 0), (I6 0), (I6 0), (I6 0), (I6 0), .sl [] 0 .any, (I6 0), (I6 0), (I6 0), (I6 0), (I6 0), (I6 0), (I6 0), (I6 0), (I6 0), (I6 0), (I6 0), (I6 0), (I6 0), (I6 0), (I6 0), (I6 0), (I6 0), (I6 0), (I6 0), (I6 0), (I6 0), (I6 0), (I6 0), (I6 0), (I6 0), (I6 0), (B6 false), (I6 5), (I6 0), (I6 2), .sl (u8s A) (List.length A) .any, (I6 0), .sl [] 0 .any, (I6 0), .sl [] 0 .any, .sl [] 0 .any], 56, .fresh⟩, ⟨[(I6 4), (I6 1), (I6 2), (I6 0), (I6 0), (I6 0), (I6 0), (I6 0), (I6 0), (I6 0), (I6 0), (I6 0), (I6 0), (I6 0), (I6 0), (I6 0), (I6 0), (I6 0), (I6 0), .sl [] 0 .any, (I6 0), (I6 0), (I6 0), (I6 0), (I6 0), (I6 0), (I6 0), (I6 0), (I6 0), (I6 0), (I6 0), (I6 0), (I6 0), (I6 0), (I6 0), (I6 0), (I6 0), (I6 0), (I6 0), (I6 0), (I6 0), (I6 0), (I6 0), (I6 0), (I6 0), (I6 0), (B6 false), (I6 5), (I6 1), (I6 2), .sl (u8s B) (List.length B) .any, (I6 0), .sl [] 0 .any, (I6 0), .sl [] 0 .any, .sl [] 0 .any], 56, .fresh⟩, ⟨[(I6 0), (I6 0), (I6 0), (I6 0), (I6 0), (I6 0), (I6 0), (I6 0), (I6 0), (I6 0), (I6 0), (I6 0), (I6 0), (I6 0), (I6 0), (I6 0), (I6 0), (I6 0), (I6 0), .sl [] 0 .any, (I6 0), (I6 0), (I6 0), (I6 0), (I6 0), (I6 0), (I6 0), (I6 0), (I6 0), (I6 0), (I6 0), (I6 0), (I6 0), (I6 0), (I6 0), (I6 0), (I6 0), (I6 0), (I6 0), (I6 0), (I6 0), (I6 0), (I6 0), (I6 0), (I6 0), (I6 0), (B6 false), (I6 0), (I6 0), (I6 0), .sl [] 0 .any, (I6 0), .sl [] 0 .any, (I6 0), .sl [] 0 .any, .sl [] 0 .any], 56, .fresh⟩, ⟨[(I6 1), (I6 5), (I6 2), .sl [.sl (u8s A) (List.length A) .any] 1 .any], 4, .fresh⟩, ⟨[(I6 1), (I6 5), (I6 2), .sl [.sl (u8s A) (List.length A) .any, .sl (u8s B) (List.length B) .any] 2 .any], 4, .fresh⟩]⟩ ?_)
  refine AWP.reg (PI 2 (4 ≤ 4 ∧ 56 ≤ 56 ∧ True) ⟨(by omega), (by omega), trivial⟩ ?_)
  refine CD (t2) ?_
  refine RI (True ∧ True ∧ True ∧ True ∧ 4 ≤ 4 ∧ True ∧ True) ⟨trivial, trivial, trivial, trivial, (by omega), trivial, trivial⟩ ?_
  refine AWP.seq (KL ([5, 13] ++ NN 47 6) ⟨[(B6 false), .sl (u8s H) 513 .any, .ptr 1 0, .ptr 2 0, (B6 true), U6, (B6 true), U6, (B6 false), .ptr 5 0, (B6 true), .ptr 6 0, (B6 true), U6, (B6 false)] ++ UU 97, [⟨u8s H, 1, .frozen⟩, ⟨[(I6 1), (I6 5), (I6 2), .sl [.sl (u8s A) (List.length A) .any, .sl (u8s B) (List.length B) .any] 2 .any], 4, .fresh⟩, ⟨[(I6 4), (I6 1), (I6 2), (I6 0), (I6 0), (I6 0), (I6 0), (I6 0), (I6 0), (I6 0), (I6 0), (I6 0), (I6 0), (I6 0), (I6 0), (I6 0), (I6 0), (I6 0), (I6 0), .sl [] 0 .any, (I6 0), (I6 0), (I6 0), (I6 0), (I6 0), (I6 0), (I6 0), (I6 0), (I6 0), (I6 0), (I6 0), (I6 0), (I6 0), (I6 0), (I6 0), (I6 0), (I6 0), (I6 0), (I6 0), (I6 0), (I6 0), (I6 0), (I6 0), (I6 0), (I6 0), (I6 0), (B6 false), (I6 5), (I6 0), (I6 2), .sl (u8s A) (List.length A) .any, (I6 0), .sl [] 0 .any, (I6 0), .sl [] 0 .any, .sl [] 0 .any], 56, .fresh⟩, ⟨[(I6 4), (I6 1), (I6 2), (I6 0), (I6 0), (I6 0), (I6 0), (I6 0), (I6 0), (I6 0), (I6 0), (I6 0), (I6 0), (I6 0), (I6 0), (I6 0), (I6 0), (I6 0), (I6 0), .sl [] 0 .any, (I6 0), (I6 0), (I6 0), (I6 0), (I6 0), (I6 0), (I6 0), (I6 0), (I6 0), (I6 0), (I6 0), (I6 0), (I6 0), (I6 0), (I6 0), (I6 0), (I6 0), (I6 0), (I6 0), (I6 0), (I6 0), (I6 0), (I6 0), (I6 0), (I6 0), (I6 0), (B6 false), (I6 5), (I6 1), (I6 2), .sl (u8s B) (List.length B) .any, (I6 0), .sl [] 0 .any, (I6 0), .sl [] 0 .any, .sl [] 0 .any], 56, .fresh⟩, ⟨[(I6 0), (I6 0), (I6 0), (I6 0), (I6 0), (I6 0), (I6 0), (I6 0), (I6 0), (I6 0), (I6 0), (I6 0), (I6 0), (I6 0), (I6 0), (I6 0), (I6 0), (I6 0), (I6 0), .sl [] 0 .any, (I6 0), (I6 0), (I6 0), (I6 0), (I6 0), (I6 0), (I6 0), (I6 0), (I6 0), (I6 0), (I6 0), (I6 0), (I6 0), (I6 0), (I6 0), (I6 0), (I6 0), (I6 0), (I6 0), (I6 0), (I6 0), (I6 0), (I6 0), (I6 0), (I6 0), (I6 0), (B6 false), (I6 0), (I6 0), (I6 0), .sl [] 0 .any, (I6 0), .sl [] 0 .any, (I6 0), .sl [] 0 .any, .sl [] 0 .any], 56, .fresh⟩, ⟨[(I6 1), (I6 5), (I6 2), .sl [.sl (u8s A) (List.length A) .any] 1 .any], 4, .fresh⟩, ⟨[(I6 1), (I6 5), (I6 2), .sl [.sl (u8s A) (List.length A) .any, .sl (u8s B) (List.length B) .any] 2 .any], 4, .fresh⟩, ⟨[(I6 1), (I6 5), (I6 2), .sl [.sl (u8s A) (List.length A) .any, .sl (u8s B) (List.length B) .any] 2 .any], 4, .fresh⟩]⟩ ?_)
  refine AWP.reg (PT 1 1 ?_)
  refine CD (s1) ?_
  refine PT 3 3 ?_
  refine DerQ.callEI (s0) ⟨by kernel_rfl, by kernel_rfl⟩ ?_
  refine PI 40 (True ∧ True ∧ True ∧ True ∧ True ∧ 2 < 4 ∧ True ∧ True ∧ True ∧ True ∧ True ∧ True ∧ True ∧ True ∧ True ∧ True ∧ True ∧ True ∧ True ∧ True ∧ 0 < 56 ∧ True ∧ True ∧ True ∧ True ∧ 2 < 56 ∧ True ∧ True ∧ True ∧ True ∧ True ∧ True ∧ True ∧ True ∧ True ∧ True ∧ True ∧ True ∧ True ∧ 4 ≤ 4 ∧ True) ⟨trivial, trivial, trivial, trivial, trivial, (by omega), trivial, trivial, trivial, trivial, trivial, trivial, trivial, trivial, trivial, trivial, trivial, trivial, trivial, trivial, (by omega), trivial, trivial, trivial, trivial, (by omega), trivial, trivial, trivial, trivial, trivial, trivial, trivial, trivial, trivial, trivial, trivial, trivial, trivial, (by omega), trivial⟩ ?_
  refine CD (d1) ?_
  refine PI 4 (True ∧ True ∧ True ∧ 4 ≤ 4 ∧ True) ⟨trivial, trivial, trivial, (by omega), trivial⟩ ?_
  refine CD (d2) ?_
  refine PI 3 (True ∧ True ∧ 4 ≤ 4 ∧ True) ⟨trivial, trivial, (by omega), trivial⟩ ?_
  refine CD (j1) ?_
  refine PT 1 1 ?_
  refine CD (y1) ?_
  refine RT 2 ?_
  refine AWP.ret FA
end Go.Chu
