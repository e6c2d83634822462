/- Walks and laws. -/
import Derived.Test.YtfkilkfaiiijbaaOr5
import Derived.Test.YtfkilkfaiiijbaaOps9
import Derived.Test.YtfkilkfaiiijbaaLibC
set_option maxRecDepth 100000
set_option maxHeartbeats 0
set_option linter.unusedSimpArgs false
set_option linter.unusedVariables false
namespace Go.Ord
open Go Go.Abs Go.Proofs Go.Ops
theorem tx_g0 (l : List TxD) (i : Nat) (h : i < l.length) : List.getD (txsc l) (i * 17) .undef = AVal.sc (.int .i64 (l.getD i tx0).p) := recs_get txe 17 (fun _ => rfl) tx0 l i 0 h (by omega)
theorem tx_g1 (l : List TxD) (i : Nat) (h : i < l.length) : List.getD (txsc l) (i * 17 + 1) .undef = AVal.sc (.int .i64 (l.getD i tx0).s) := recs_get txe 17 (fun _ => rfl) tx0 l i 1 h (by omega)
theorem tx_g16 (l : List TxD) (i : Nat) (h : i < l.length) : List.getD (txsc l) (i * 17 + 16) .undef = .sl (opsc (l.getD i tx0).ops) (l.getD i tx0).ops.length .any := recs_get txe 17 (fun _ => rfl) tx0 l i 16 h (by omega)
def vR (l : List TxD) : Nat → Vv
  | 0 => Vz
  | i + 1 => updV (vR l i) (l.getD i tx0).p (l.getD i tx0).s
theorem vR_eq (l : List TxD) (i : Nat) (h : i ≤ l.length) : vR l i = vAft Vz (l.take i) := by
  induction i with
  | zero => rfl
  | succ i ih =>
    rw [vR, ih (by omega), List.take_add_one, List.getElem?_eq_getElem (show i < l.length by omega), List.getD_eq_getElem?_getD, List.getElem?_eq_getElem (show i < l.length by omega)]
    exact (vAft_snoc _ _ _).symm
theorem vR_all (l : List TxD) : vR l l.length = vAft Vz l := by rw [vR_eq l _ (Nat.le_refl _), List.take_length]
def chnR (l : List TxD) : Prop := ∀ i, i < l.length → rdyP (vR l i) (l.getD i tx0)
instance (l : List TxD) : Decidable (chnR l) := by unfold chnR; infer_instance
theorem chn_app (l : List TxD) : ∀ i, i ≤ l.length → (chain Vz (l.take i) ↔ ∀ j, j < i → rdyP (vR l j) (l.getD j tx0))
  | 0, _ => ⟨fun _ j h => absurd h (by omega), fun _ => trivial⟩
  | i + 1, h => by
    have ih := chn_app l i (by omega)
    have e : l.take (i + 1) = l.take i ++ [l.getD i tx0] := by
      rw [List.take_add_one, List.getElem?_eq_getElem (show i < l.length by omega), List.getD_eq_getElem?_getD, List.getElem?_eq_getElem (show i < l.length by omega)]; rfl
    rw [e, chain_app, ih, ← vR_eq l i (by omega)]
    constructor
    · rintro ⟨a, b⟩; exact succ_all a b.1
    · intro h; exact ⟨fun j hj => h j (by omega), h i (by omega), trivial⟩
theorem chn_iff (l : List TxD) : chain Vz l ↔ chnR l := by
  have := chn_app l l.length (Nat.le_refl _)
  rwa [List.take_length] at this
theorem vR_lo {l : List TxD} : ∀ {i : Nat}, (∀ j, j < i → rdyP (vR l j) (l.getD j tx0)) → ∀ j, (0 : Int) ≤ vR l i j
  | 0, _, j => Int.le_refl _
  | i + 1, h, j => Int.le_trans (vR_lo (i := i) (fun k hk => h k (by omega)) j) (upd_ge (h i (by omega)) j)
theorem upd_inc {v : Vv} {t : TxD} (h : rdyP v t) (hv : ∀ j, 0 ≤ v j) (hs : t.s ≤ 9223372036854775807) : updV v t.p (IntKind.wrap IntKind.i64 (v t.p.toNat + 1)) = updV v t.p t.s := by
  have h1 := h.1.2.2
  have h2 := hv t.p.toNat
  rw [h1, IntWalk.i64_in _ (by omega)]
theorem closed (l : List TxD) (hl : l.length ≤ 100000) (hts : ∀ i, i < l.length → (l.getD i tx0).s ≤ 9223372036854775807) : EvD Try.prog 52 [.sl (txsc l) l.length .any] (.sc (.bool (decide (chnR l)))) := by
  refine EvD.body Try.func52 rfl (by simp [vce, txe, dataAll, AVal.data]) (by simp [vce, txe, dataAll, AVal.data]) ?_
  refine AWP.seq ?_
  refine TO ⟨[.sl (txsc l) (l.length) .any] ++ UU 23, []⟩ ?_
  refine AWP.reg (RT 1 ?_)
  refine AWP.seq ?_
  refine TO ⟨[.sl (txsc l) (l.length) .any, U6, (B6 false)] ++ UU 21, []⟩ ?_
  refine AWP.reg (RT 1 ?_)
  refine AWP.seq (AWP.seq ?_)
  refine TO ⟨[.sl (txsc l) (l.length) .any, U6, (B6 false), .ptr 0 0] ++ UU 20, [⟨[(I6 0), (I6 0), (I6 0), (I6 0), (I6 0), (I6 0), (I6 0), (I6 0), (I6 0), (I6 0), (I6 0), (I6 0), (I6 0)], 1, .fresh⟩]⟩ ?_
  refine AWP.reg (RT 3 ?_)
  refine AWP.block (KL [0] ⟨[U6, U6, (B6 false), .ptr 0 0, U6, U6, .sl (txsc l) (l.length) .any, (I6 (↑(l.length) : Int)), (I6 0)] ++ UU 15, [⟨[(I6 0), (I6 0), (I6 0), (I6 0), (I6 0), (I6 0), (I6 0), (I6 0), (I6 0), (I6 0), (I6 0), (I6 0), (I6 0)], 1, .fresh⟩]⟩ ?_)
  refine AWP.loopW [false, false, true, true, false, false, true, true, true, false, false, false, false, false, false, false, false, false, false, false, false, false, false, false] (fun kk st => ∃ (i : Nat), kk = l.length - i ∧ i ≤ l.length ∧ (∀ j, j < i → rdyP (vR l j) (l.getD j tx0)) ∧ st = ⟨[U6, U6, (B6 false), .ptr 0 0, U6, U6, .sl (txsc l) (l.length) .any, (I6 (↑(l.length) : Int)), AVal.sc (.int .i64 (i : Int)), U6, U6, U6, U6, U6, U6, U6, U6, U6, U6, U6, U6, U6, U6, .undef], [⟨vce (vR l i), 1, .fresh⟩]⟩) _ ⟨0, rfl, by omega, fun j h => absurd h (by omega), by kernel_rfl⟩ ?_
  rintro kk s ⟨i, rfl, hi, hd, rfl⟩
  have hbv := vR_lo hd
  refine SQ (RT 1 ?_)
  refine AWP.seq ?_
  refine TO ⟨[U6, U6, (B6 false), .ptr 0 0, U6, U6, .sl (txsc l) (l.length) .any, (I6 (↑(l.length) : Int)), (I6 i), (B6 (decide ((↑i : Int) < (↑(l.length) : Int))))] ++ UU 14, [⟨[(I6 (vR l i 0)), (I6 (vR l i 1)), (I6 (vR l i 2)), (I6 (vR l i 3)), (I6 (vR l i 4)), (I6 (vR l i 5)), (I6 (vR l i 6)), (I6 (vR l i 7)), (I6 (vR l i 8)), (I6 (vR l i 9)), (I6 (vR l i 10)), (I6 (vR l i 11)), (I6 (vR l i 12))], 1, .fresh⟩]⟩ ?_
  refine CN (decide ((↑i : Int) < (↑(l.length) : Int))) (fun h1 => ?_) (fun h1 => ?_)
  · have h1' := of_decide_eq_true h1
    refine AWP.skip (AWP.seq (AWP.block (SQ ?_)))
    refine DerQ.pre 3 ((((0 ≤ (↑i : Int)) ∧ ((↑i : Int) < (↑(l.length) : Int))) ∧ (Int.toNat i * 17 + 17 ≤ (txsc l).length)) ∧ 17 ≤ 17 ∧ True ∧ True) ⟨[U6, U6, (B6 false), .ptr 0 0, U6, .ptr 1 0, .sl (txsc l) (l.length) .any, (I6 (↑(l.length) : Int)), (I6 i), (B6 (decide ((↑i : Int) < (↑(l.length) : Int)))), .dptr [(txsc l).getD (Int.toNat i * 17 + 0) U6, (txsc l).getD (Int.toNat i * 17 + 1) U6, (txsc l).getD (Int.toNat i * 17 + 2) U6, (txsc l).getD (Int.toNat i * 17 + 3) U6, (txsc l).getD (Int.toNat i * 17 + 4) U6, (txsc l).getD (Int.toNat i * 17 + 5) U6, (txsc l).getD (Int.toNat i * 17 + 6) U6, (txsc l).getD (Int.toNat i * 17 + 7) U6, (txsc l).getD (Int.toNat i * 17 + 8) U6, (txsc l).getD (Int.toNat i * 17 + 9) U6, (txsc l).getD (Int.toNat i * 17 + 10) U6, (txsc l).getD (Int.toNat i * 17 + 11) U6, (txsc l).getD (Int.toNat i * 17 + 12) U6, (txsc l).getD (Int.toNat i * 17 + 13) U6, (txsc l).getD (Int.toNat i * 17 + 14) U6, (txsc l).getD (Int.toNat i * 17 + 15) U6, (txsc l).getD (Int.toNat i * 17 + 16) AVal.undef], .agg [(txsc l).getD (Int.toNat i * 17 + 0) U6, (txsc l).getD (Int.toNat i * 17 + 1) U6, (txsc l).getD (Int.toNat i * 17 + 2) U6, (txsc l).getD (Int.toNat i * 17 + 3) U6, (txsc l).getD (Int.toNat i * 17 + 4) U6, (txsc l).getD (Int.toNat i * 17 + 5) U6, (txsc l).getD (Int.toNat i * 17 + 6) U6, (txsc l).getD (Int.toNat i * 17 + 7) U6, (txsc l).getD (Int.toNat i * 17 + 8) U6, (txsc l).getD (Int.toNat i * 17 + 9) U6, (txsc l).getD (Int.toNat i * 17 + 10) U6, (txsc l).getD (Int.toNat i * 17 + 11) U6, (txsc l).getD (Int.toNat i * 17 + 12) U6, (txsc l).getD (Int.toNat i * 17 + 13) U6, (txsc l).getD (Int.toNat i * 17 + 14) U6, (txsc l).getD (Int.toNat i * 17 + 15) U6, (txsc l).getD (Int.toNat i * 17 + 16) AVal.undef]] ++ UU 12, [⟨[(I6 (vR l i 0)), (I6 (vR l i 1)), (I6 (vR l i 2)), (I6 (vR l i 3)), (I6 (vR l i 4)), (I6 (vR l i 5)), (I6 (vR l i 6)), (I6 (vR l i 7)), (I6 (vR l i 8)), (I6 (vR l i 9)), (I6 (vR l i 10)), (I6 (vR l i 11)), (I6 (vR l i 12))], 1, .fresh⟩, ⟨[(I6 0), (I6 0), (I6 0), (I6 0), (I6 0), (I6 0), (I6 0), (I6 0), (I6 0), (I6 0), (I6 0), (I6 0), (I6 0), (I6 0), (I6 0), (I6 0), .sl [] 0 .nil], 17, .fresh⟩]⟩ (by kernel_rfl) ⟨⟨⟨(by omega), (by omega)⟩, (by (simp [spliceA_length] <;> omega))⟩, (by omega), trivial, trivial⟩ ?_
    rw [Int.toNat_natCast (i)]
    rw [Nat.add_zero (i * 17)]
    rw [Go.Ord.txs_cells (l) (i) (by omega)]
    refine RI (17 ≤ 17 ∧ True) ⟨(by omega), trivial⟩ ?_
    refine AWP.seq (AWP.seq (KL [9, 10, 11] ⟨[U6, U6, (B6 false), .ptr 0 0, U6, .ptr 1 0, .sl (txsc l) (l.length) .any, (I6 (↑(l.length) : Int)), (I6 i)] ++ UU 15, [⟨[(I6 (vR l i 0)), (I6 (vR l i 1)), (I6 (vR l i 2)), (I6 (vR l i 3)), (I6 (vR l i 4)), (I6 (vR l i 5)), (I6 (vR l i 6)), (I6 (vR l i 7)), (I6 (vR l i 8)), (I6 (vR l i 9)), (I6 (vR l i 10)), (I6 (vR l i 11)), (I6 (vR l i 12))], 1, .fresh⟩, ⟨[(I6 ((l.getD i tx0).p)), (I6 ((l.getD i tx0).s)), (I6 ((l.getD i tx0).v 0)), (I6 ((l.getD i tx0).v 1)), (I6 ((l.getD i tx0).v 2)), (I6 ((l.getD i tx0).v 3)), (I6 ((l.getD i tx0).v 4)), (I6 ((l.getD i tx0).v 5)), (I6 ((l.getD i tx0).v 6)), (I6 ((l.getD i tx0).v 7)), (I6 ((l.getD i tx0).v 8)), (I6 ((l.getD i tx0).v 9)), (I6 ((l.getD i tx0).v 10)), (I6 ((l.getD i tx0).v 11)), (I6 ((l.getD i tx0).v 12)), (I6 ((l.getD i tx0).time)), .sl (opsc (l.getD i tx0).ops) ((l.getD i tx0).ops.length) .any], 17, .fresh⟩]⟩ ?_))
    refine AWP.reg (PI 2 (13 ≤ 13 ∧ 17 ≤ 17 ∧ True) ⟨(by omega), (by omega), trivial⟩ ?_)
    refine DerQ.callDI ((fun (i : Nat) (h : i < l.length) (hd : ∀ j, j < i → rdyP (vR l j) (l.getD j tx0)) =>
    ready (vR l i) (fun j => by have := vR_lo hd j; omega) (l.getD i tx0) (hts i h)) i (by omega) (by omega)) ⟨by kernel_rfl, by kernel_rfl⟩ ?_
    refine RT 1 ?_
    refine KL [12, 13, 14] ⟨[U6, U6, (B6 false), .ptr 0 0, U6, .ptr 1 0, .sl (txsc l) (l.length) .any, (I6 (↑(l.length) : Int)), (I6 i)] ++ UU 6 ++ [(B6 (!decide (rdyP (vR l i) (l.getD i tx0))))] ++ UU 8, [⟨[(I6 (vR l i 0)), (I6 (vR l i 1)), (I6 (vR l i 2)), (I6 (vR l i 3)), (I6 (vR l i 4)), (I6 (vR l i 5)), (I6 (vR l i 6)), (I6 (vR l i 7)), (I6 (vR l i 8)), (I6 (vR l i 9)), (I6 (vR l i 10)), (I6 (vR l i 11)), (I6 (vR l i 12))], 1, .fresh⟩, ⟨[(I6 ((l.getD i tx0).p)), (I6 ((l.getD i tx0).s)), (I6 ((l.getD i tx0).v 0)), (I6 ((l.getD i tx0).v 1)), (I6 ((l.getD i tx0).v 2)), (I6 ((l.getD i tx0).v 3)), (I6 ((l.getD i tx0).v 4)), (I6 ((l.getD i tx0).v 5)), (I6 ((l.getD i tx0).v 6)), (I6 ((l.getD i tx0).v 7)), (I6 ((l.getD i tx0).v 8)), (I6 ((l.getD i tx0).v 9)), (I6 ((l.getD i tx0).v 10)), (I6 ((l.getD i tx0).v 11)), (I6 ((l.getD i tx0).v 12)), (I6 ((l.getD i tx0).time)), .sl (opsc (l.getD i tx0).ops) ((l.getD i tx0).ops.length) .any], 17, .fresh⟩]⟩ ?_
    refine CN (!decide (rdyP (vR l i) (l.getD i tx0))) (fun h2 => ?_) (fun h2 => ?_)
    · have h2' := h2
      simp only [Bool.and_eq_true, Bool.and_eq_false_iff, Bool.or_eq_true, Bool.or_eq_false_iff, Bool.not_eq_true', Bool.not_eq_false', beq_iff_eq, beq_eq_false_iff_ne, decide_eq_true_eq, decide_eq_false_iff_not, ne_eq] at h2'
      refine SQ (RT 1 ?_)
      refine AWP.ret ?_
      refine FI (B6 false) ?_
      refine Shrink.all ?_ rfl
      (exact dec_no (fun h => absurd (h i (by omega)) (by assumption)); done)
    · have h2' := h2
      simp only [Bool.and_eq_true, Bool.and_eq_false_iff, Bool.or_eq_true, Bool.or_eq_false_iff, Bool.not_eq_true', Bool.not_eq_false', beq_iff_eq, beq_eq_false_iff_ne, decide_eq_true_eq, decide_eq_false_iff_not, ne_eq] at h2'
      refine AWP.skip (AWP.reg ?_)
      refine DerQ.pre 5 (True ∧ True ∧ 0 < 17 ∧ ((0 ≤ (l.getD i tx0).p) ∧ ((l.getD i tx0).p < 13)) ∧ (0 + Int.toNat (l.getD i tx0).p * 1 < 13) ∧ True) ⟨[U6, U6, (B6 false), .ptr 0 0, U6, .ptr 1 0, .sl (txsc l) (l.length) .any, (I6 (↑(l.length) : Int)), (I6 i)] ++ UU 6 ++ [(B6 (!decide (rdyP (vR l i) (l.getD i tx0)))), .ptr 1 0, .ptr 1 0, (I6 ((l.getD i tx0).p)), .ptr 0 (0 + Int.toNat (l.getD i tx0).p * 1), List.getD [(I6 (vR l i 0)), (I6 (vR l i 1)), (I6 (vR l i 2)), (I6 (vR l i 3)), (I6 (vR l i 4)), (I6 (vR l i 5)), (I6 (vR l i 6)), (I6 (vR l i 7)), (I6 (vR l i 8)), (I6 (vR l i 9)), (I6 (vR l i 10)), (I6 (vR l i 11)), (I6 (vR l i 12))] (0 + Int.toNat (l.getD i tx0).p * 1) U6, U6, U6, .undef], [⟨[(I6 (vR l i 0)), (I6 (vR l i 1)), (I6 (vR l i 2)), (I6 (vR l i 3)), (I6 (vR l i 4)), (I6 (vR l i 5)), (I6 (vR l i 6)), (I6 (vR l i 7)), (I6 (vR l i 8)), (I6 (vR l i 9)), (I6 (vR l i 10)), (I6 (vR l i 11)), (I6 (vR l i 12))], 1, .fresh⟩, ⟨[(I6 ((l.getD i tx0).p)), (I6 ((l.getD i tx0).s)), (I6 ((l.getD i tx0).v 0)), (I6 ((l.getD i tx0).v 1)), (I6 ((l.getD i tx0).v 2)), (I6 ((l.getD i tx0).v 3)), (I6 ((l.getD i tx0).v 4)), (I6 ((l.getD i tx0).v 5)), (I6 ((l.getD i tx0).v 6)), (I6 ((l.getD i tx0).v 7)), (I6 ((l.getD i tx0).v 8)), (I6 ((l.getD i tx0).v 9)), (I6 ((l.getD i tx0).v 10)), (I6 ((l.getD i tx0).v 11)), (I6 ((l.getD i tx0).v 12)), (I6 ((l.getD i tx0).time)), .sl (opsc (l.getD i tx0).ops) ((l.getD i tx0).ops.length) .any], 17, .fresh⟩]⟩ (by kernel_rfl) ⟨trivial, trivial, (by omega), ⟨(by (((have g1 : rdyP (vR l i) (l.getD i tx0) := by assumption); (have g2 := g1.1.1); omega))), (by (((have g1 : rdyP (vR l i) (l.getD i tx0) := by assumption); (have g2 := g1.1.1); omega)))⟩, (by (((have g1 : rdyP (vR l i) (l.getD i tx0) := by assumption); (have g2 := g1.1.1); omega))), trivial⟩ ?_
      rw [Nat.mul_one (Int.toNat (l.getD i tx0).p)]
      rw [Nat.zero_add (Int.toNat (l.getD i tx0).p)]
      rw [Go.Ord.vce_get (vR l i) (Int.toNat (l.getD i tx0).p) (by (((have g1 : rdyP (vR l i) (l.getD i tx0) := by assumption); (have g2 := g1.1.1); omega)))]
      refine DerQ.run (True ∧ ((0 ≤ (l.getD i tx0).p) ∧ ((l.getD i tx0).p < 13)) ∧ (0 + Int.toNat (l.getD i tx0).p * 1 + 1 ≤ 13) ∧ True) ⟨[U6, U6, (B6 false), .ptr 0 0, U6, .ptr 1 0, .sl (txsc l) (l.length) .any, (I6 (↑(l.length) : Int)), (I6 i)] ++ UU 6 ++ [(B6 (!decide (rdyP (vR l i) (l.getD i tx0)))), .ptr 1 0, .ptr 1 0, (I6 ((l.getD i tx0).p)), .ptr 0 (Int.toNat (l.getD i tx0).p), (I6 (vR l i (Int.toNat (l.getD i tx0).p))), (I6 (IntKind.wrap IntKind.i64 (vR l i (Int.toNat (l.getD i tx0).p) + 1))), .ptr 0 (0 + Int.toNat (l.getD i tx0).p * 1), .undef], [⟨spliceA [(I6 (vR l i 0)), (I6 (vR l i 1)), (I6 (vR l i 2)), (I6 (vR l i 3)), (I6 (vR l i 4)), (I6 (vR l i 5)), (I6 (vR l i 6)), (I6 (vR l i 7)), (I6 (vR l i 8)), (I6 (vR l i 9)), (I6 (vR l i 10)), (I6 (vR l i 11)), (I6 (vR l i 12))] (0 + Int.toNat (l.getD i tx0).p * 1) [(I6 (IntKind.wrap IntKind.i64 (vR l i (Int.toNat (l.getD i tx0).p) + 1)))], 1, .fresh⟩, ⟨[(I6 ((l.getD i tx0).p)), (I6 ((l.getD i tx0).s)), (I6 ((l.getD i tx0).v 0)), (I6 ((l.getD i tx0).v 1)), (I6 ((l.getD i tx0).v 2)), (I6 ((l.getD i tx0).v 3)), (I6 ((l.getD i tx0).v 4)), (I6 ((l.getD i tx0).v 5)), (I6 ((l.getD i tx0).v 6)), (I6 ((l.getD i tx0).v 7)), (I6 ((l.getD i tx0).v 8)), (I6 ((l.getD i tx0).v 9)), (I6 ((l.getD i tx0).v 10)), (I6 ((l.getD i tx0).v 11)), (I6 ((l.getD i tx0).v 12)), (I6 ((l.getD i tx0).time)), .sl (opsc (l.getD i tx0).ops) ((l.getD i tx0).ops.length) .any], 17, .fresh⟩]⟩ (by kernel_rfl) ⟨trivial, ⟨(by (((have g1 : rdyP (vR l i) (l.getD i tx0) := by assumption); (have g2 := g1.1.1); omega))), (by (((have g1 : rdyP (vR l i) (l.getD i tx0) := by assumption); (have g2 := g1.1.1); omega)))⟩, (by (((have g1 : rdyP (vR l i) (l.getD i tx0) := by assumption); (have g2 := g1.1.1); omega))), trivial⟩ ?_
      rw [Nat.mul_one (Int.toNat (l.getD i tx0).p)]
      rw [Nat.zero_add (Int.toNat (l.getD i tx0).p)]
      rw [Go.Ord.vce_store (vR l i) ((l.getD i tx0).p) (IntKind.wrap IntKind.i64 (vR l i (Int.toNat (l.getD i tx0).p) + 1)) ⟨(by (((have g1 : rdyP (vR l i) (l.getD i tx0) := by assumption); (have g2 := g1.1.1); omega))), (by (((have g1 : rdyP (vR l i) (l.getD i tx0) := by assumption); (have g2 := g1.1.1); omega)))⟩]
      refine KL ([5] ++ NN 15 8) ⟨[U6, U6, (B6 false), .ptr 0 0, U6, U6, .sl (txsc l) (l.length) .any, (I6 (↑(l.length) : Int)), (I6 i)] ++ UU 15, [⟨[(I6 (updV (vR l i) (l.getD i tx0).p (IntKind.wrap IntKind.i64 (vR l i (Int.toNat (l.getD i tx0).p) + 1)) 0)), (I6 (updV (vR l i) (l.getD i tx0).p (IntKind.wrap IntKind.i64 (vR l i (Int.toNat (l.getD i tx0).p) + 1)) 1)), (I6 (updV (vR l i) (l.getD i tx0).p (IntKind.wrap IntKind.i64 (vR l i (Int.toNat (l.getD i tx0).p) + 1)) 2)), (I6 (updV (vR l i) (l.getD i tx0).p (IntKind.wrap IntKind.i64 (vR l i (Int.toNat (l.getD i tx0).p) + 1)) 3)), (I6 (updV (vR l i) (l.getD i tx0).p (IntKind.wrap IntKind.i64 (vR l i (Int.toNat (l.getD i tx0).p) + 1)) 4)), (I6 (updV (vR l i) (l.getD i tx0).p (IntKind.wrap IntKind.i64 (vR l i (Int.toNat (l.getD i tx0).p) + 1)) 5)), (I6 (updV (vR l i) (l.getD i tx0).p (IntKind.wrap IntKind.i64 (vR l i (Int.toNat (l.getD i tx0).p) + 1)) 6)), (I6 (updV (vR l i) (l.getD i tx0).p (IntKind.wrap IntKind.i64 (vR l i (Int.toNat (l.getD i tx0).p) + 1)) 7)), (I6 (updV (vR l i) (l.getD i tx0).p (IntKind.wrap IntKind.i64 (vR l i (Int.toNat (l.getD i tx0).p) + 1)) 8)), (I6 (updV (vR l i) (l.getD i tx0).p (IntKind.wrap IntKind.i64 (vR l i (Int.toNat (l.getD i tx0).p) + 1)) 9)), (I6 (updV (vR l i) (l.getD i tx0).p (IntKind.wrap IntKind.i64 (vR l i (Int.toNat (l.getD i tx0).p) + 1)) 10)), (I6 (updV (vR l i) (l.getD i tx0).p (IntKind.wrap IntKind.i64 (vR l i (Int.toNat (l.getD i tx0).p) + 1)) 11)), (I6 (updV (vR l i) (l.getD i tx0).p (IntKind.wrap IntKind.i64 (vR l i (Int.toNat (l.getD i tx0).p) + 1)) 12))], 1, .fresh⟩, ⟨[(I6 ((l.getD i tx0).p)), (I6 ((l.getD i tx0).s)), (I6 ((l.getD i tx0).v 0)), (I6 ((l.getD i tx0).v 1)), (I6 ((l.getD i tx0).v 2)), (I6 ((l.getD i tx0).v 3)), (I6 ((l.getD i tx0).v 4)), (I6 ((l.getD i tx0).v 5)), (I6 ((l.getD i tx0).v 6)), (I6 ((l.getD i tx0).v 7)), (I6 ((l.getD i tx0).v 8)), (I6 ((l.getD i tx0).v 9)), (I6 ((l.getD i tx0).v 10)), (I6 ((l.getD i tx0).v 11)), (I6 ((l.getD i tx0).v 12)), (I6 ((l.getD i tx0).time)), .sl (opsc (l.getD i tx0).ops) ((l.getD i tx0).ops.length) .any], 17, .fresh⟩]⟩ ?_
      refine AWP.reg ?_
      refine DerQ.run (TT 2) ⟨[U6, U6, (B6 false), .ptr 0 0, U6, U6, .sl (txsc l) (l.length) .any, (I6 (↑(l.length) : Int)), (I6 (IntKind.wrap IntKind.i64 ((↑i : Int) + 1)))] ++ UU 14 ++ [(I6 (IntKind.wrap IntKind.i64 ((↑i : Int) + 1)))], [⟨[(I6 (updV (vR l i) (l.getD i tx0).p (IntKind.wrap IntKind.i64 (vR l i (Int.toNat (l.getD i tx0).p) + 1)) 0)), (I6 (updV (vR l i) (l.getD i tx0).p (IntKind.wrap IntKind.i64 (vR l i (Int.toNat (l.getD i tx0).p) + 1)) 1)), (I6 (updV (vR l i) (l.getD i tx0).p (IntKind.wrap IntKind.i64 (vR l i (Int.toNat (l.getD i tx0).p) + 1)) 2)), (I6 (updV (vR l i) (l.getD i tx0).p (IntKind.wrap IntKind.i64 (vR l i (Int.toNat (l.getD i tx0).p) + 1)) 3)), (I6 (updV (vR l i) (l.getD i tx0).p (IntKind.wrap IntKind.i64 (vR l i (Int.toNat (l.getD i tx0).p) + 1)) 4)), (I6 (updV (vR l i) (l.getD i tx0).p (IntKind.wrap IntKind.i64 (vR l i (Int.toNat (l.getD i tx0).p) + 1)) 5)), (I6 (updV (vR l i) (l.getD i tx0).p (IntKind.wrap IntKind.i64 (vR l i (Int.toNat (l.getD i tx0).p) + 1)) 6)), (I6 (updV (vR l i) (l.getD i tx0).p (IntKind.wrap IntKind.i64 (vR l i (Int.toNat (l.getD i tx0).p) + 1)) 7)), (I6 (updV (vR l i) (l.getD i tx0).p (IntKind.wrap IntKind.i64 (vR l i (Int.toNat (l.getD i tx0).p) + 1)) 8)), (I6 (updV (vR l i) (l.getD i tx0).p (IntKind.wrap IntKind.i64 (vR l i (Int.toNat (l.getD i tx0).p) + 1)) 9)), (I6 (updV (vR l i) (l.getD i tx0).p (IntKind.wrap IntKind.i64 (vR l i (Int.toNat (l.getD i tx0).p) + 1)) 10)), (I6 (updV (vR l i) (l.getD i tx0).p (IntKind.wrap IntKind.i64 (vR l i (Int.toNat (l.getD i tx0).p) + 1)) 11)), (I6 (updV (vR l i) (l.getD i tx0).p (IntKind.wrap IntKind.i64 (vR l i (Int.toNat (l.getD i tx0).p) + 1)) 12))], 1, .fresh⟩, ⟨[(I6 ((l.getD i tx0).p)), (I6 ((l.getD i tx0).s)), (I6 ((l.getD i tx0).v 0)), (I6 ((l.getD i tx0).v 1)), (I6 ((l.getD i tx0).v 2)), (I6 ((l.getD i tx0).v 3)), (I6 ((l.getD i tx0).v 4)), (I6 ((l.getD i tx0).v 5)), (I6 ((l.getD i tx0).v 6)), (I6 ((l.getD i tx0).v 7)), (I6 ((l.getD i tx0).v 8)), (I6 ((l.getD i tx0).v 9)), (I6 ((l.getD i tx0).v 10)), (I6 ((l.getD i tx0).v 11)), (I6 ((l.getD i tx0).v 12)), (I6 ((l.getD i tx0).time)), .sl (opsc (l.getD i tx0).ops) ((l.getD i tx0).ops.length) .any], 17, .fresh⟩]⟩ (by kernel_rfl) (tt 2) ?_
      rw [IntWalk.i64_in ((↑i : Int) + 1) (by omega)]
      ((have g1 : rdyP (vR l i) (l.getD i tx0) := by assumption); exact ⟨_, by omega, _, Weak.cutW (rows2 := [⟨vce (vR l (i + 1)), 1, .fresh⟩]) 1 (by rw [show vR l (i + 1) = updV (vR l i) _ _ from (upd_inc g1 hbv (hts i (by omega))).symm]; rfl) (by simp) (by kernel_rfl) (WfRows.of (by intro r hr; rw [List.mem_singleton] at hr; subst hr; simp [vce, ltAll, AVal.refLt])), i + 1, rfl, by omega, succ_all hd g1, rfl⟩; done)
  · have h1' := of_decide_eq_false h1
    refine AWP.exit ?_
    refine AWP.seq (KL [3, 6, 7, 8, 9] ⟨[U6, U6, (B6 false)] ++ UU 21, [⟨[(I6 (vR l i 0)), (I6 (vR l i 1)), (I6 (vR l i 2)), (I6 (vR l i 3)), (I6 (vR l i 4)), (I6 (vR l i 5)), (I6 (vR l i 6)), (I6 (vR l i 7)), (I6 (vR l i 8)), (I6 (vR l i 9)), (I6 (vR l i 10)), (I6 (vR l i 11)), (I6 (vR l i 12))], 1, .fresh⟩]⟩ ?_)
    refine AWP.reg (RT 1 ?_)
    refine AWP.ret ?_
    refine FI (B6 true) ?_
    refine Shrink.all ?_ rfl
    (exact dec_yes (fun j hj => hd j (by omega)); done)
theorem same_refl (t : TxD) (hx : t.ops.length ≤ 100) : EvD Try.prog 105 [.agg (txe t), .agg (txe t)] (.sc (.bool true)) := by
  have c1 := dec_t (r_ops t.ops t.ops hx) rfl
  refine EvD.body Try.func105 rfl (by simp [vce, txe, dataAll, AVal.data]) (by simp [vce, txe, dataAll, AVal.data]) ?_
  refine AWP.seq ?_
  refine TO ⟨[.agg [(I6 (t.p)), (I6 (t.s)), (I6 (t.v 0)), (I6 (t.v 1)), (I6 (t.v 2)), (I6 (t.v 3)), (I6 (t.v 4)), (I6 (t.v 5)), (I6 (t.v 6)), (I6 (t.v 7)), (I6 (t.v 8)), (I6 (t.v 9)), (I6 (t.v 10)), (I6 (t.v 11)), (I6 (t.v 12)), (I6 (t.time)), .sl (opsc t.ops) (t.ops.length) .any], .agg [(I6 (t.p)), (I6 (t.s)), (I6 (t.v 0)), (I6 (t.v 1)), (I6 (t.v 2)), (I6 (t.v 3)), (I6 (t.v 4)), (I6 (t.v 5)), (I6 (t.v 6)), (I6 (t.v 7)), (I6 (t.v 8)), (I6 (t.v 9)), (I6 (t.v 10)), (I6 (t.v 11)), (I6 (t.v 12)), (I6 (t.time)), .sl (opsc t.ops) (t.ops.length) .any]] ++ UU 29, []⟩ ?_
  refine AWP.reg (RT 3 ?_)
  refine AWP.seq (KL [0, 1] ⟨[U6, U6, .ptr 0 0, .ptr 1 0, (B6 false)] ++ UU 26, [⟨[(I6 (t.p)), (I6 (t.s)), (I6 (t.v 0)), (I6 (t.v 1)), (I6 (t.v 2)), (I6 (t.v 3)), (I6 (t.v 4)), (I6 (t.v 5)), (I6 (t.v 6)), (I6 (t.v 7)), (I6 (t.v 8)), (I6 (t.v 9)), (I6 (t.v 10)), (I6 (t.v 11)), (I6 (t.v 12)), (I6 (t.time)), .sl (opsc t.ops) (t.ops.length) .any], 17, .fresh⟩, ⟨[(I6 (t.p)), (I6 (t.s)), (I6 (t.v 0)), (I6 (t.v 1)), (I6 (t.v 2)), (I6 (t.v 3)), (I6 (t.v 4)), (I6 (t.v 5)), (I6 (t.v 6)), (I6 (t.v 7)), (I6 (t.v 8)), (I6 (t.v 9)), (I6 (t.v 10)), (I6 (t.v 11)), (I6 (t.v 12)), (I6 (t.time)), .sl (opsc t.ops) (t.ops.length) .any], 17, .fresh⟩]⟩ ?_)
  refine AWP.reg (PI 6 (True ∧ 2 ≤ 17 ∧ True ∧ 2 ≤ 17 ∧ ((((0 : Nat) < (2 : Nat)) ∧ (((0 : Nat) < (2 : Nat)) ∧ (True))) ∧ (((1 : Nat) < (2 : Nat)) ∧ (((1 : Nat) < (2 : Nat)) ∧ (True)))) ∧ True ∧ True) ⟨trivial, (by omega), trivial, (by omega), ⟨⟨(by omega), ⟨(by omega), trivial⟩⟩, ⟨(by omega), ⟨(by omega), trivial⟩⟩⟩, trivial, trivial⟩ ?_)
  refine DerQ.to ⟨[U6, U6, .ptr 0 0, .ptr 1 0, (B6 false), .ptr 0 0, .agg [(I6 (t.p)), (I6 (t.s))], .ptr 1 0, .agg [(I6 (t.p)), (I6 (t.s))], (B6 (t.p == t.p && t.s == t.s)), (B6 (t.p == t.p && t.s == t.s))] ++ UU 20, [⟨[(I6 (t.p)), (I6 (t.s)), (I6 (t.v 0)), (I6 (t.v 1)), (I6 (t.v 2)), (I6 (t.v 3)), (I6 (t.v 4)), (I6 (t.v 5)), (I6 (t.v 6)), (I6 (t.v 7)), (I6 (t.v 8)), (I6 (t.v 9)), (I6 (t.v 10)), (I6 (t.v 11)), (I6 (t.v 12)), (I6 (t.time)), .sl (opsc t.ops) (t.ops.length) .any], 17, .fresh⟩, ⟨[(I6 (t.p)), (I6 (t.s)), (I6 (t.v 0)), (I6 (t.v 1)), (I6 (t.v 2)), (I6 (t.v 3)), (I6 (t.v 4)), (I6 (t.v 5)), (I6 (t.v 6)), (I6 (t.v 7)), (I6 (t.v 8)), (I6 (t.v 9)), (I6 (t.v 10)), (I6 (t.v 11)), (I6 (t.v 12)), (I6 (t.time)), .sl (opsc t.ops) (t.ops.length) .any], 17, .fresh⟩]⟩ (by kernel_rfl) ?_
  cases h1 : (t.p == t.p && t.s == t.s)
  · have h1' := h1
    simp only [Bool.and_eq_true, Bool.and_eq_false_iff, Bool.or_eq_true, Bool.or_eq_false_iff, Bool.not_eq_true', Bool.not_eq_false', beq_iff_eq, beq_eq_false_iff_ne, decide_eq_true_eq, decide_eq_false_iff_not, ne_eq] at h1'
    (exfalso; (exfalso; simp_all; done); done)
  · have h1' := h1
    simp only [Bool.and_eq_true, Bool.and_eq_false_iff, Bool.or_eq_true, Bool.or_eq_false_iff, Bool.not_eq_true', Bool.not_eq_false', beq_iff_eq, beq_eq_false_iff_ne, decide_eq_true_eq, decide_eq_false_iff_not, ne_eq] at h1'
    refine PI 7 (True ∧ 15 ≤ 17 ∧ True ∧ 15 ≤ 17 ∧ ((((0 : Nat) < (13 : Nat)) ∧ (((0 : Nat) < (13 : Nat)) ∧ (True))) ∧ ((((1 : Nat) < (13 : Nat)) ∧ (((1 : Nat) < (13 : Nat)) ∧ (True))) ∧ ((((2 : Nat) < (13 : Nat)) ∧ (((2 : Nat) < (13 : Nat)) ∧ (True))) ∧ ((((3 : Nat) < (13 : Nat)) ∧ (((3 : Nat) < (13 : Nat)) ∧ (True))) ∧ ((((4 : Nat) < (13 : Nat)) ∧ (((4 : Nat) < (13 : Nat)) ∧ (True))) ∧ ((((5 : Nat) < (13 : Nat)) ∧ (((5 : Nat) < (13 : Nat)) ∧ (True))) ∧ ((((6 : Nat) < (13 : Nat)) ∧ (((6 : Nat) < (13 : Nat)) ∧ (True))) ∧ ((((7 : Nat) < (13 : Nat)) ∧ (((7 : Nat) < (13 : Nat)) ∧ (True))) ∧ ((((8 : Nat) < (13 : Nat)) ∧ (((8 : Nat) < (13 : Nat)) ∧ (True))) ∧ ((((9 : Nat) < (13 : Nat)) ∧ (((9 : Nat) < (13 : Nat)) ∧ (True))) ∧ ((((10 : Nat) < (13 : Nat)) ∧ (((10 : Nat) < (13 : Nat)) ∧ (True))) ∧ ((((11 : Nat) < (13 : Nat)) ∧ (((11 : Nat) < (13 : Nat)) ∧ (True))) ∧ (((12 : Nat) < (13 : Nat)) ∧ (((12 : Nat) < (13 : Nat)) ∧ (True))))))))))))))) ∧ True ∧ True ∧ True) ⟨trivial, (by omega), trivial, (by omega), ⟨⟨(by omega), ⟨(by omega), trivial⟩⟩, ⟨⟨(by omega), ⟨(by omega), trivial⟩⟩, ⟨⟨(by omega), ⟨(by omega), trivial⟩⟩, ⟨⟨(by omega), ⟨(by omega), trivial⟩⟩, ⟨⟨(by omega), ⟨(by omega), trivial⟩⟩, ⟨⟨(by omega), ⟨(by omega), trivial⟩⟩, ⟨⟨(by omega), ⟨(by omega), trivial⟩⟩, ⟨⟨(by omega), ⟨(by omega), trivial⟩⟩, ⟨⟨(by omega), ⟨(by omega), trivial⟩⟩, ⟨⟨(by omega), ⟨(by omega), trivial⟩⟩, ⟨⟨(by omega), ⟨(by omega), trivial⟩⟩, ⟨⟨(by omega), ⟨(by omega), trivial⟩⟩, ⟨(by omega), ⟨(by omega), trivial⟩⟩⟩⟩⟩⟩⟩⟩⟩⟩⟩⟩⟩⟩, trivial, trivial, trivial⟩ ?_
    refine DerQ.to ⟨[U6, U6, .ptr 0 0, .ptr 1 0, (B6 false), .ptr 0 0, .agg [(I6 (t.p)), (I6 (t.s))], .ptr 1 0, .agg [(I6 (t.p)), (I6 (t.s))], (B6 true), (B6 true), .ptr 0 2, .agg [(I6 (t.v 0)), (I6 (t.v 1)), (I6 (t.v 2)), (I6 (t.v 3)), (I6 (t.v 4)), (I6 (t.v 5)), (I6 (t.v 6)), (I6 (t.v 7)), (I6 (t.v 8)), (I6 (t.v 9)), (I6 (t.v 10)), (I6 (t.v 11)), (I6 (t.v 12))], .ptr 1 2, .agg [(I6 (t.v 0)), (I6 (t.v 1)), (I6 (t.v 2)), (I6 (t.v 3)), (I6 (t.v 4)), (I6 (t.v 5)), (I6 (t.v 6)), (I6 (t.v 7)), (I6 (t.v 8)), (I6 (t.v 9)), (I6 (t.v 10)), (I6 (t.v 11)), (I6 (t.v 12))], (B6 (t.v 0 == t.v 0 && (t.v 1 == t.v 1 && (t.v 2 == t.v 2 && (t.v 3 == t.v 3 && (t.v 4 == t.v 4 && (t.v 5 == t.v 5 && (t.v 6 == t.v 6 && (t.v 7 == t.v 7 && (t.v 8 == t.v 8 && (t.v 9 == t.v 9 && (t.v 10 == t.v 10 && (t.v 11 == t.v 11 && t.v 12 == t.v 12))))))))))))), (B6 (t.v 0 == t.v 0 && (t.v 1 == t.v 1 && (t.v 2 == t.v 2 && (t.v 3 == t.v 3 && (t.v 4 == t.v 4 && (t.v 5 == t.v 5 && (t.v 6 == t.v 6 && (t.v 7 == t.v 7 && (t.v 8 == t.v 8 && (t.v 9 == t.v 9 && (t.v 10 == t.v 10 && (t.v 11 == t.v 11 && t.v 12 == t.v 12))))))))))))), (B6 (t.v 0 == t.v 0 && (t.v 1 == t.v 1 && (t.v 2 == t.v 2 && (t.v 3 == t.v 3 && (t.v 4 == t.v 4 && (t.v 5 == t.v 5 && (t.v 6 == t.v 6 && (t.v 7 == t.v 7 && (t.v 8 == t.v 8 && (t.v 9 == t.v 9 && (t.v 10 == t.v 10 && (t.v 11 == t.v 11 && t.v 12 == t.v 12)))))))))))))] ++ UU 13, [⟨[(I6 (t.p)), (I6 (t.s)), (I6 (t.v 0)), (I6 (t.v 1)), (I6 (t.v 2)), (I6 (t.v 3)), (I6 (t.v 4)), (I6 (t.v 5)), (I6 (t.v 6)), (I6 (t.v 7)), (I6 (t.v 8)), (I6 (t.v 9)), (I6 (t.v 10)), (I6 (t.v 11)), (I6 (t.v 12)), (I6 (t.time)), .sl (opsc t.ops) (t.ops.length) .any], 17, .fresh⟩, ⟨[(I6 (t.p)), (I6 (t.s)), (I6 (t.v 0)), (I6 (t.v 1)), (I6 (t.v 2)), (I6 (t.v 3)), (I6 (t.v 4)), (I6 (t.v 5)), (I6 (t.v 6)), (I6 (t.v 7)), (I6 (t.v 8)), (I6 (t.v 9)), (I6 (t.v 10)), (I6 (t.v 11)), (I6 (t.v 12)), (I6 (t.time)), .sl (opsc t.ops) (t.ops.length) .any], 17, .fresh⟩]⟩ (by kernel_rfl) ?_
    cases h2 : (t.v 0 == t.v 0 && (t.v 1 == t.v 1 && (t.v 2 == t.v 2 && (t.v 3 == t.v 3 && (t.v 4 == t.v 4 && (t.v 5 == t.v 5 && (t.v 6 == t.v 6 && (t.v 7 == t.v 7 && (t.v 8 == t.v 8 && (t.v 9 == t.v 9 && (t.v 10 == t.v 10 && (t.v 11 == t.v 11 && t.v 12 == t.v 12))))))))))))
    · have h2' := h2
      simp only [Bool.and_eq_true, Bool.and_eq_false_iff, Bool.or_eq_true, Bool.or_eq_false_iff, Bool.not_eq_true', Bool.not_eq_false', beq_iff_eq, beq_eq_false_iff_ne, decide_eq_true_eq, decide_eq_false_iff_not, ne_eq] at h2'
      (exfalso; (exfalso; simp_all; done); done)
    · have h2' := h2
      simp only [Bool.and_eq_true, Bool.and_eq_false_iff, Bool.or_eq_true, Bool.or_eq_false_iff, Bool.not_eq_true', Bool.not_eq_false', beq_iff_eq, beq_eq_false_iff_ne, decide_eq_true_eq, decide_eq_false_iff_not, ne_eq] at h2'
      refine PI 7 (True ∧ 15 < 17 ∧ True ∧ 15 < 17 ∧ True ∧ True ∧ True ∧ True) ⟨trivial, (by omega), trivial, (by omega), trivial, trivial, trivial, trivial⟩ ?_
      refine DerQ.to ⟨[U6, U6, .ptr 0 0, .ptr 1 0, (B6 false), .ptr 0 0, .agg [(I6 (t.p)), (I6 (t.s))], .ptr 1 0, .agg [(I6 (t.p)), (I6 (t.s))], (B6 true), (B6 true), .ptr 0 2, .agg [(I6 (t.v 0)), (I6 (t.v 1)), (I6 (t.v 2)), (I6 (t.v 3)), (I6 (t.v 4)), (I6 (t.v 5)), (I6 (t.v 6)), (I6 (t.v 7)), (I6 (t.v 8)), (I6 (t.v 9)), (I6 (t.v 10)), (I6 (t.v 11)), (I6 (t.v 12))], .ptr 1 2, .agg [(I6 (t.v 0)), (I6 (t.v 1)), (I6 (t.v 2)), (I6 (t.v 3)), (I6 (t.v 4)), (I6 (t.v 5)), (I6 (t.v 6)), (I6 (t.v 7)), (I6 (t.v 8)), (I6 (t.v 9)), (I6 (t.v 10)), (I6 (t.v 11)), (I6 (t.v 12))], (B6 true), (B6 true), (B6 true), .ptr 0 15, (I6 (t.time)), .ptr 1 15, (I6 (t.time)), (B6 (t.time == t.time)), (B6 (t.time == t.time)), (B6 (t.time == t.time))] ++ UU 6, [⟨[(I6 (t.p)), (I6 (t.s)), (I6 (t.v 0)), (I6 (t.v 1)), (I6 (t.v 2)), (I6 (t.v 3)), (I6 (t.v 4)), (I6 (t.v 5)), (I6 (t.v 6)), (I6 (t.v 7)), (I6 (t.v 8)), (I6 (t.v 9)), (I6 (t.v 10)), (I6 (t.v 11)), (I6 (t.v 12)), (I6 (t.time)), .sl (opsc t.ops) (t.ops.length) .any], 17, .fresh⟩, ⟨[(I6 (t.p)), (I6 (t.s)), (I6 (t.v 0)), (I6 (t.v 1)), (I6 (t.v 2)), (I6 (t.v 3)), (I6 (t.v 4)), (I6 (t.v 5)), (I6 (t.v 6)), (I6 (t.v 7)), (I6 (t.v 8)), (I6 (t.v 9)), (I6 (t.v 10)), (I6 (t.v 11)), (I6 (t.v 12)), (I6 (t.time)), .sl (opsc t.ops) (t.ops.length) .any], 17, .fresh⟩]⟩ (by kernel_rfl) ?_
      cases h3 : (t.time == t.time)
      · have h3' := ne_of_beq_false h3
        exfalso; omega
      · have h3' := eq_of_beq h3
        refine PI 4 (True ∧ 16 < 17 ∧ True ∧ 16 < 17 ∧ True) ⟨trivial, (by omega), trivial, (by omega), trivial⟩ ?_
        refine CD (c1) ?_
        refine RT 2 ?_
        refine AWP.ret FA
theorem rows_refl (l : List TxD) (hl : l.length ≤ 100) (hx : ∀ i, i < l.length → (l.getD i tx0).ops.length ≤ 100) : EvD Try.prog 83 [.sl (txsc l) l.length .any, .sl (txsc l) l.length .any] (.sc (.bool true)) := by
  refine EvD.body Try.func83 rfl (by simp [vce, txe, dataAll, AVal.data]) (by simp [vce, txe, dataAll, AVal.data]) ?_
  refine AWP.seq ?_
  refine TO ⟨[.sl (txsc l) (l.length) .any, .sl (txsc l) (l.length) .any] ++ UU 25, []⟩ ?_
  refine AWP.reg (RT 1 ?_)
  refine AWP.seq (AWP.seq ?_)
  refine TO ⟨[.sl (txsc l) (l.length) .any, .sl (txsc l) (l.length) .any, U6, U6, (B6 false)] ++ UU 22, []⟩ ?_
  refine AWP.reg (RT 5 ?_)
  refine KL [6, 7, 8, 9] ⟨[.sl (txsc l) (l.length) .any, .sl (txsc l) (l.length) .any, U6, U6, (B6 false)] ++ UU 5 ++ [(B6 ((↑(l.length) : Int) != (↑(l.length) : Int)))] ++ UU 16, []⟩ ?_
  refine CN ((↑(l.length) : Int) != (↑(l.length) : Int)) (fun h1 => ?_) (fun h1 => ?_)
  · have h1' := bne_iff_ne.1 h1
    exfalso; omega
  · have h1' := bne_eq_false_iff_eq.1 h1
    refine AWP.skip (AWP.seq (SQ (RT 1 ?_)))
    refine AWP.block (KL [10] ⟨[.sl (txsc l) (l.length) .any, .sl (txsc l) (l.length) .any, U6, U6, (B6 false), (I6 0)] ++ UU 21, []⟩ ?_)
    refine AWP.loopM [true, true, false, false, true, true, false, false, false, false, false, false, false, false, false, false, false, false, false, false, false, false, false, false, false, false, false] (fun kk st => ∃ (i : Nat), kk = l.length - i ∧ i ≤ l.length ∧ st = ⟨[.sl (txsc l) (l.length) .any, .sl (txsc l) (l.length) .any, U6, U6, (B6 false), AVal.sc (.int .i64 (i : Int)), U6, U6, U6, U6, U6, U6, U6, U6, U6, U6, U6, U6, U6, U6, U6, U6, U6, U6, U6, U6, .undef], []⟩) _ ⟨0, rfl, by omega, by kernel_rfl⟩ ?_
    rintro kk s ⟨i, rfl, hi, rfl⟩
    refine AWP.seq (SQ (RT 4 ?_))
    refine KL [11, 12, 13] ⟨[.sl (txsc l) (l.length) .any, .sl (txsc l) (l.length) .any, U6, U6, (B6 false), (I6 i)] ++ UU 8 ++ [(B6 (decide ((↑i : Int) < (↑(l.length) : Int))))] ++ UU 12, []⟩ ?_
    refine CN (decide ((↑i : Int) < (↑(l.length) : Int))) (fun h2 => ?_) (fun h2 => ?_)
    · have h2' := of_decide_eq_true h2
      refine AWP.skip (AWP.seq (AWP.block (AWP.seq ?_)))
      refine AWP.drawX mixed (fun o => [25].contains (o.dst.getD 0)) (by kernel_rfl) ?_
      refine DerX.pre 8 ((True) ∧ ((True) ∧ ((((0 ≤ (↑i : Int)) ∧ ((↑i : Int) < (↑(l.length) : Int))) ∧ (Int.toNat i * 17 + 17 ≤ (txsc l).length)) ∧ (((17 : Nat) ≤ (17 : Nat)) ∧ ((True) ∧ ((True) ∧ ((((0 ≤ (↑i : Int)) ∧ ((↑i : Int) < (↑(l.length) : Int))) ∧ (Int.toNat i * 17 + 17 ≤ (txsc l).length)) ∧ (((17 : Nat) ≤ (17 : Nat)) ∧ (True))))))))) [.sl (txsc l) (l.length) .any, (I6 i), .dptr [(txsc l).getD (Int.toNat i * 17 + 0) U6, (txsc l).getD (Int.toNat i * 17 + 1) U6, (txsc l).getD (Int.toNat i * 17 + 2) U6, (txsc l).getD (Int.toNat i * 17 + 3) U6, (txsc l).getD (Int.toNat i * 17 + 4) U6, (txsc l).getD (Int.toNat i * 17 + 5) U6, (txsc l).getD (Int.toNat i * 17 + 6) U6, (txsc l).getD (Int.toNat i * 17 + 7) U6, (txsc l).getD (Int.toNat i * 17 + 8) U6, (txsc l).getD (Int.toNat i * 17 + 9) U6, (txsc l).getD (Int.toNat i * 17 + 10) U6, (txsc l).getD (Int.toNat i * 17 + 11) U6, (txsc l).getD (Int.toNat i * 17 + 12) U6, (txsc l).getD (Int.toNat i * 17 + 13) U6, (txsc l).getD (Int.toNat i * 17 + 14) U6, (txsc l).getD (Int.toNat i * 17 + 15) U6, (txsc l).getD (Int.toNat i * 17 + 16) AVal.undef], .agg [(txsc l).getD (Int.toNat i * 17 + 0) U6, (txsc l).getD (Int.toNat i * 17 + 1) U6, (txsc l).getD (Int.toNat i * 17 + 2) U6, (txsc l).getD (Int.toNat i * 17 + 3) U6, (txsc l).getD (Int.toNat i * 17 + 4) U6, (txsc l).getD (Int.toNat i * 17 + 5) U6, (txsc l).getD (Int.toNat i * 17 + 6) U6, (txsc l).getD (Int.toNat i * 17 + 7) U6, (txsc l).getD (Int.toNat i * 17 + 8) U6, (txsc l).getD (Int.toNat i * 17 + 9) U6, (txsc l).getD (Int.toNat i * 17 + 10) U6, (txsc l).getD (Int.toNat i * 17 + 11) U6, (txsc l).getD (Int.toNat i * 17 + 12) U6, (txsc l).getD (Int.toNat i * 17 + 13) U6, (txsc l).getD (Int.toNat i * 17 + 14) U6, (txsc l).getD (Int.toNat i * 17 + 15) U6, (txsc l).getD (Int.toNat i * 17 + 16) AVal.undef], .sl (txsc l) (l.length) .any, (I6 i), .dptr [(txsc l).getD (Int.toNat i * 17 + 0) U6, (txsc l).getD (Int.toNat i * 17 + 1) U6, (txsc l).getD (Int.toNat i * 17 + 2) U6, (txsc l).getD (Int.toNat i * 17 + 3) U6, (txsc l).getD (Int.toNat i * 17 + 4) U6, (txsc l).getD (Int.toNat i * 17 + 5) U6, (txsc l).getD (Int.toNat i * 17 + 6) U6, (txsc l).getD (Int.toNat i * 17 + 7) U6, (txsc l).getD (Int.toNat i * 17 + 8) U6, (txsc l).getD (Int.toNat i * 17 + 9) U6, (txsc l).getD (Int.toNat i * 17 + 10) U6, (txsc l).getD (Int.toNat i * 17 + 11) U6, (txsc l).getD (Int.toNat i * 17 + 12) U6, (txsc l).getD (Int.toNat i * 17 + 13) U6, (txsc l).getD (Int.toNat i * 17 + 14) U6, (txsc l).getD (Int.toNat i * 17 + 15) U6, (txsc l).getD (Int.toNat i * 17 + 16) AVal.undef], .agg [(txsc l).getD (Int.toNat i * 17 + 0) U6, (txsc l).getD (Int.toNat i * 17 + 1) U6, (txsc l).getD (Int.toNat i * 17 + 2) U6, (txsc l).getD (Int.toNat i * 17 + 3) U6, (txsc l).getD (Int.toNat i * 17 + 4) U6, (txsc l).getD (Int.toNat i * 17 + 5) U6, (txsc l).getD (Int.toNat i * 17 + 6) U6, (txsc l).getD (Int.toNat i * 17 + 7) U6, (txsc l).getD (Int.toNat i * 17 + 8) U6, (txsc l).getD (Int.toNat i * 17 + 9) U6, (txsc l).getD (Int.toNat i * 17 + 10) U6, (txsc l).getD (Int.toNat i * 17 + 11) U6, (txsc l).getD (Int.toNat i * 17 + 12) U6, (txsc l).getD (Int.toNat i * 17 + 13) U6, (txsc l).getD (Int.toNat i * 17 + 14) U6, (txsc l).getD (Int.toNat i * 17 + 15) U6, (txsc l).getD (Int.toNat i * 17 + 16) AVal.undef]] ⟨[.sl (txsc l) (l.length) .any, .sl (txsc l) (l.length) .any, U6, U6, (B6 false), (I6 i)] ++ UU 8 ++ [(B6 (decide ((↑i : Int) < (↑(l.length) : Int)))), U6, U6, .sl (txsc l) (l.length) .any, (I6 i), .dptr [(txsc l).getD (Int.toNat i * 17 + 0) U6, (txsc l).getD (Int.toNat i * 17 + 1) U6, (txsc l).getD (Int.toNat i * 17 + 2) U6, (txsc l).getD (Int.toNat i * 17 + 3) U6, (txsc l).getD (Int.toNat i * 17 + 4) U6, (txsc l).getD (Int.toNat i * 17 + 5) U6, (txsc l).getD (Int.toNat i * 17 + 6) U6, (txsc l).getD (Int.toNat i * 17 + 7) U6, (txsc l).getD (Int.toNat i * 17 + 8) U6, (txsc l).getD (Int.toNat i * 17 + 9) U6, (txsc l).getD (Int.toNat i * 17 + 10) U6, (txsc l).getD (Int.toNat i * 17 + 11) U6, (txsc l).getD (Int.toNat i * 17 + 12) U6, (txsc l).getD (Int.toNat i * 17 + 13) U6, (txsc l).getD (Int.toNat i * 17 + 14) U6, (txsc l).getD (Int.toNat i * 17 + 15) U6, (txsc l).getD (Int.toNat i * 17 + 16) AVal.undef], .agg [(txsc l).getD (Int.toNat i * 17 + 0) U6, (txsc l).getD (Int.toNat i * 17 + 1) U6, (txsc l).getD (Int.toNat i * 17 + 2) U6, (txsc l).getD (Int.toNat i * 17 + 3) U6, (txsc l).getD (Int.toNat i * 17 + 4) U6, (txsc l).getD (Int.toNat i * 17 + 5) U6, (txsc l).getD (Int.toNat i * 17 + 6) U6, (txsc l).getD (Int.toNat i * 17 + 7) U6, (txsc l).getD (Int.toNat i * 17 + 8) U6, (txsc l).getD (Int.toNat i * 17 + 9) U6, (txsc l).getD (Int.toNat i * 17 + 10) U6, (txsc l).getD (Int.toNat i * 17 + 11) U6, (txsc l).getD (Int.toNat i * 17 + 12) U6, (txsc l).getD (Int.toNat i * 17 + 13) U6, (txsc l).getD (Int.toNat i * 17 + 14) U6, (txsc l).getD (Int.toNat i * 17 + 15) U6, (txsc l).getD (Int.toNat i * 17 + 16) AVal.undef], .sl (txsc l) (l.length) .any, (I6 i), .dptr [(txsc l).getD (Int.toNat i * 17 + 0) U6, (txsc l).getD (Int.toNat i * 17 + 1) U6, (txsc l).getD (Int.toNat i * 17 + 2) U6, (txsc l).getD (Int.toNat i * 17 + 3) U6, (txsc l).getD (Int.toNat i * 17 + 4) U6, (txsc l).getD (Int.toNat i * 17 + 5) U6, (txsc l).getD (Int.toNat i * 17 + 6) U6, (txsc l).getD (Int.toNat i * 17 + 7) U6, (txsc l).getD (Int.toNat i * 17 + 8) U6, (txsc l).getD (Int.toNat i * 17 + 9) U6, (txsc l).getD (Int.toNat i * 17 + 10) U6, (txsc l).getD (Int.toNat i * 17 + 11) U6, (txsc l).getD (Int.toNat i * 17 + 12) U6, (txsc l).getD (Int.toNat i * 17 + 13) U6, (txsc l).getD (Int.toNat i * 17 + 14) U6, (txsc l).getD (Int.toNat i * 17 + 15) U6, (txsc l).getD (Int.toNat i * 17 + 16) AVal.undef], .agg [(txsc l).getD (Int.toNat i * 17 + 0) U6, (txsc l).getD (Int.toNat i * 17 + 1) U6, (txsc l).getD (Int.toNat i * 17 + 2) U6, (txsc l).getD (Int.toNat i * 17 + 3) U6, (txsc l).getD (Int.toNat i * 17 + 4) U6, (txsc l).getD (Int.toNat i * 17 + 5) U6, (txsc l).getD (Int.toNat i * 17 + 6) U6, (txsc l).getD (Int.toNat i * 17 + 7) U6, (txsc l).getD (Int.toNat i * 17 + 8) U6, (txsc l).getD (Int.toNat i * 17 + 9) U6, (txsc l).getD (Int.toNat i * 17 + 10) U6, (txsc l).getD (Int.toNat i * 17 + 11) U6, (txsc l).getD (Int.toNat i * 17 + 12) U6, (txsc l).getD (Int.toNat i * 17 + 13) U6, (txsc l).getD (Int.toNat i * 17 + 14) U6, (txsc l).getD (Int.toNat i * 17 + 15) U6, (txsc l).getD (Int.toNat i * 17 + 16) AVal.undef], U6, .undef], []⟩ (by intro ext; kernel_rfl) (by kernel_rfl) ⟨trivial, ⟨trivial, ⟨⟨⟨(by omega), (by omega)⟩, (by (simp [spliceA_length] <;> omega))⟩, ⟨(by omega), ⟨trivial, ⟨trivial, ⟨⟨⟨(by omega), (by omega)⟩, (by (simp [spliceA_length] <;> omega))⟩, ⟨(by omega), trivial⟩⟩⟩⟩⟩⟩⟩⟩ ?_
      rw [Int.toNat_natCast (i)]
      rw [Nat.add_zero (i * 17)]
      rw [Go.Ord.txs_cells (l) (i) (by omega)]
      refine DerX.callDI ((fun (i : Nat) (h : i < l.length) => same_refl (l.getD i tx0) (hx i h)) i (by omega)) ⟨by kernel_rfl, by kernel_rfl⟩ ?_
      refine DerX.quietI (True) (by intro ext; kernel_rfl) (by kernel_rfl) trivial ?_
      refine DerX.nil ?_
      refine KL ([14] ++ NN 17 9) ⟨[.sl (txsc l) (l.length) .any, .sl (txsc l) (l.length) .any, U6, U6, (B6 false), (I6 i)] ++ UU 20 ++ [(B6 false)], []⟩ ?_
      refine CN false (fun h => nomatch h) (fun _ => ?_)
      refine AWP.skip (AWP.reg ?_)
      refine DerQ.run (TT 3) ⟨[.sl (txsc l) (l.length) .any, .sl (txsc l) (l.length) .any, U6, U6, (B6 false), (I6 (IntKind.wrap IntKind.i64 ((↑i : Int) + 1)))] ++ UU 9 ++ [(I6 i), (I6 (IntKind.wrap IntKind.i64 ((↑i : Int) + 1)))] ++ UU 9 ++ [(B6 false)], []⟩ (by kernel_rfl) (tt 3) ?_
      rw [IntWalk.i64_in ((↑i : Int) + 1) (by omega)]
      (exact ⟨_, by omega, i + 1, rfl, by omega, by kernel_rfl⟩; done)
    · have h2' := of_decide_eq_false h2
      refine AWP.exit ?_
      refine AWP.seq (KL [0, 1, 5, 14] ⟨[U6, U6, U6, U6, (B6 false)] ++ UU 22, []⟩ ?_)
      refine AWP.reg (RT 1 ?_)
      refine AWP.ret FA
theorem r_small1 (t : TxD) : EvD Try.prog 13 [.agg (txe t)] (.sc (.bool (decide (smallP t)))) := (r_small .on t).cast (by kernel_rfl) rfl
def sumO (l : List TxD) : Nat → Int
  | 0 => 0
  | i + 1 => sumO l i + ((l.getD i tx0).ops.length : Int)
def fewF (l : List TxD) (i : Nat) : Prop := smallP (l.getD i tx0) ∧ sumO l (i + 1) ≤ 160
instance (l : List TxD) (i : Nat) : Decidable (fewF l i) := by unfold fewF; infer_instance
def fewT (l : List TxD) : Prop := l.length ≤ 40 ∧ ∀ i, i < l.length → fewF l i
instance (l : List TxD) : Decidable (fewT l) := by unfold fewT; infer_instance
theorem few_no {l : List TxD} {i : Nat} (hi : i < l.length) (h : smallP (l.getD i tx0) → ¬ (sumO l i + ((l.getD i tx0).ops.length : Int) ≤ 160)) : AVal.sc (.bool false) = .sc (.bool (decide (fewT l))) := dec_no (fun h2 => h (h2.2 i hi).1 (h2.2 i hi).2)
theorem few (l : List TxD) (hl : l.length ≤ 1000000000000000) (hx : ∀ i, i < l.length → (l.getD i tx0).ops.length ≤ 1000000000000000) : EvD Try.prog 44 [.sl (txsc l) l.length .any] (.sc (.bool (decide (fewT l)))) := by
  refine EvD.body Try.func44 rfl (by simp [vce, txe, dataAll, AVal.data]) (by simp [vce, txe, dataAll, AVal.data]) ?_
  refine AWP.seq ?_
  refine TO ⟨[.sl (txsc l) (l.length) .any] ++ UU 36, []⟩ ?_
  refine AWP.reg (RT 1 ?_)
  refine AWP.seq ?_
  refine TO ⟨[.sl (txsc l) (l.length) .any, U6, (B6 false)] ++ UU 34, []⟩ ?_
  refine AWP.reg (RT 1 ?_)
  refine AWP.seq (AWP.seq ?_)
  refine TO ⟨[.sl (txsc l) (l.length) .any, U6, (B6 false), (I6 0)] ++ UU 33, []⟩ ?_
  refine AWP.reg (RT 1 ?_)
  refine AWP.block ?_
  refine TO ⟨[.sl (txsc l) (l.length) .any, U6, (B6 false), (I6 0), (I6 0)] ++ UU 32, []⟩ ?_
  refine AWP.loopM [true, false, true, true, true, false, false, false, false, false, false, false, false, false, false, false, false, false, false, false, false, false, false, false, false, false, false, false, false, false, false, false, false, false, false, false, false] (fun kk st => ∃ (i : Nat), kk = l.length - i ∧ i ≤ l.length ∧ (0 ≤ sumO l i ∧ sumO l i ≤ 160) ∧ (∀ j, j < i → fewF l j) ∧ st = ⟨[.sl (txsc l) (l.length) .any, U6, (B6 false), AVal.sc (.int .i64 (sumO l i)), AVal.sc (.int .i64 (i : Int)), U6, U6, U6, U6, U6, U6, U6, U6, U6, U6, U6, U6, U6, U6, U6, U6, U6, U6, U6, U6, U6, U6, U6, U6, U6, U6, U6, U6, U6, U6, U6, .undef], []⟩) _ ⟨0, rfl, by omega, by show (0:Int) ≤ 0 ∧ (0:Int) ≤ 160; omega, fun j h => absurd h (by omega), by kernel_rfl⟩ ?_
  rintro kk s ⟨i, rfl, hi, hsm, hd, rfl⟩
  have hxi := hx i
  refine AWP.seq (SQ (PT 5 5 ?_))
  refine DerQ.to ⟨[.sl (txsc l) (l.length) .any, U6, (B6 false), (I6 (sumO l i)), (I6 i), (I6 i), .sl (txsc l) (l.length) .any, (I6 (↑(l.length) : Int)), (B6 (decide ((↑i : Int) < (↑(l.length) : Int)))), (B6 (decide ((↑i : Int) < (↑(l.length) : Int))))] ++ UU 27, []⟩ (by kernel_rfl) ?_
  cases h1 : (decide ((↑i : Int) < (↑(l.length) : Int)))
  · have h1' := of_decide_eq_false h1
    refine RT 1 ?_
    refine KL (NN 5 8) ⟨[.sl (txsc l) (l.length) .any, U6, (B6 false), (I6 (sumO l i)), (I6 i)] ++ UU 8 ++ [(B6 false)] ++ UU 23, []⟩ ?_
    refine CN false (fun h => nomatch h) (fun _ => ?_)
    refine AWP.exit ?_
    refine SQ (RT 4 ?_)
    refine AWP.ret ?_
    refine FI (B6 (decide ((↑(l.length) : Int) ≤ 40))) ?_
    refine Shrink.all ?_ rfl
    ((first | refine congrArg B6 ?_ | refine congrArg I6 ?_ | congr 2); exact decide_eq_decide.2 ⟨fun h1 => ⟨by omega, fun j hj => hd j (by omega)⟩, fun h1 => by have := h1.1; omega⟩; done)
  · have h1' := of_decide_eq_true h1
    refine RT 4 ?_
    refine KL (NN 5 8) ⟨[.sl (txsc l) (l.length) .any, U6, (B6 false), (I6 (sumO l i)), (I6 i)] ++ UU 8 ++ [(B6 (decide ((↑(l.length) : Int) ≤ 40)))] ++ UU 23, []⟩ ?_
    refine CN (decide ((↑(l.length) : Int) ≤ 40)) (fun h2 => ?_) (fun h2 => ?_)
    · have h2' := of_decide_eq_true h2
      refine AWP.skip (AWP.seq (AWP.block (SQ ?_)))
      refine DerQ.pre 6 (True ∧ True ∧ True ∧ (((0 ≤ (↑i : Int)) ∧ ((↑i : Int) < (↑(l.length) : Int))) ∧ (Int.toNat i * 17 + 17 ≤ (txsc l).length)) ∧ 17 ≤ 17 ∧ 0 < 1 ∧ True) ⟨[.sl (txsc l) (l.length) .any, U6, (B6 false), (I6 (sumO l i)), (I6 i)] ++ UU 8 ++ [(B6 (decide ((↑(l.length) : Int) ≤ 40))), U6, U6, (I6 (sumO l i)), .sl (txsc l) (l.length) .any, (I6 i), .dptr [(txsc l).getD (Int.toNat i * 17 + 0) U6, (txsc l).getD (Int.toNat i * 17 + 1) U6, (txsc l).getD (Int.toNat i * 17 + 2) U6, (txsc l).getD (Int.toNat i * 17 + 3) U6, (txsc l).getD (Int.toNat i * 17 + 4) U6, (txsc l).getD (Int.toNat i * 17 + 5) U6, (txsc l).getD (Int.toNat i * 17 + 6) U6, (txsc l).getD (Int.toNat i * 17 + 7) U6, (txsc l).getD (Int.toNat i * 17 + 8) U6, (txsc l).getD (Int.toNat i * 17 + 9) U6, (txsc l).getD (Int.toNat i * 17 + 10) U6, (txsc l).getD (Int.toNat i * 17 + 11) U6, (txsc l).getD (Int.toNat i * 17 + 12) U6, (txsc l).getD (Int.toNat i * 17 + 13) U6, (txsc l).getD (Int.toNat i * 17 + 14) U6, (txsc l).getD (Int.toNat i * 17 + 15) U6, (txsc l).getD (Int.toNat i * 17 + 16) AVal.undef], .dptr [(txsc l).getD (Int.toNat i * 17 + 16) AVal.undef], List.getD [(txsc l).getD (Int.toNat i * 17 + 16) AVal.undef] 0 AVal.undef] ++ UU 15, []⟩ (by kernel_rfl) ⟨trivial, trivial, trivial, ⟨⟨(by omega), (by omega)⟩, (by (simp [spliceA_length] <;> omega))⟩, (by omega), (by omega), trivial⟩ ?_
      rw [Int.toNat_natCast (i)]
      rw [Nat.add_zero (i * 17)]
      rw [Go.Ord.txs_cells (l) (i) (by omega)]
      rw [Go.Ord.tx_g16 (l) (i) (by omega)]
      refine DerQ.run (TT 3) ⟨[.sl (txsc l) (l.length) .any, U6, (B6 false), (I6 (IntKind.wrap IntKind.i64 (sumO l i + (↑((l.getD i tx0).ops.length) : Int)))), (I6 i)] ++ UU 8 ++ [(B6 (decide ((↑(l.length) : Int) ≤ 40))), U6, U6, (I6 (sumO l i)), .sl (txsc l) (l.length) .any, (I6 i), .dptr [(I6 ((l.getD i tx0).p)), (I6 ((l.getD i tx0).s)), (I6 ((l.getD i tx0).v 0)), (I6 ((l.getD i tx0).v 1)), (I6 ((l.getD i tx0).v 2)), (I6 ((l.getD i tx0).v 3)), (I6 ((l.getD i tx0).v 4)), (I6 ((l.getD i tx0).v 5)), (I6 ((l.getD i tx0).v 6)), (I6 ((l.getD i tx0).v 7)), (I6 ((l.getD i tx0).v 8)), (I6 ((l.getD i tx0).v 9)), (I6 ((l.getD i tx0).v 10)), (I6 ((l.getD i tx0).v 11)), (I6 ((l.getD i tx0).v 12)), (I6 ((l.getD i tx0).time)), .sl (opsc (l.getD i tx0).ops) ((l.getD i tx0).ops.length) .any], .dptr [.sl (opsc (l.getD i tx0).ops) ((l.getD i tx0).ops.length) .any], .sl (opsc (l.getD i tx0).ops) ((l.getD i tx0).ops.length) .any, (I6 (↑((l.getD i tx0).ops.length) : Int)), (I6 (IntKind.wrap IntKind.i64 (sumO l i + (↑((l.getD i tx0).ops.length) : Int))))] ++ UU 13, []⟩ (by kernel_rfl) (tt 3) ?_
      rw [IntWalk.i64_in (sumO l i + (↑((l.getD i tx0).ops.length) : Int)) (by omega)]
      refine AWP.seq (KL ([13] ++ NN 16 8) ⟨[.sl (txsc l) (l.length) .any, U6, (B6 false), (I6 (sumO l i + (↑((l.getD i tx0).ops.length) : Int))), (I6 i)] ++ UU 32, []⟩ ?_)
      refine AWP.reg ?_
      refine DerQ.pre 4 (True ∧ True ∧ (((0 ≤ (↑i : Int)) ∧ ((↑i : Int) < (↑(l.length) : Int))) ∧ (Int.toNat i * 17 + 17 ≤ (txsc l).length)) ∧ 17 ≤ 17 ∧ True) ⟨[.sl (txsc l) (l.length) .any, U6, (B6 false), (I6 (sumO l i + (↑((l.getD i tx0).ops.length) : Int))), (I6 i)] ++ UU 19 ++ [.sl (txsc l) (l.length) .any, (I6 i), .dptr [(txsc l).getD (Int.toNat i * 17 + 0) U6, (txsc l).getD (Int.toNat i * 17 + 1) U6, (txsc l).getD (Int.toNat i * 17 + 2) U6, (txsc l).getD (Int.toNat i * 17 + 3) U6, (txsc l).getD (Int.toNat i * 17 + 4) U6, (txsc l).getD (Int.toNat i * 17 + 5) U6, (txsc l).getD (Int.toNat i * 17 + 6) U6, (txsc l).getD (Int.toNat i * 17 + 7) U6, (txsc l).getD (Int.toNat i * 17 + 8) U6, (txsc l).getD (Int.toNat i * 17 + 9) U6, (txsc l).getD (Int.toNat i * 17 + 10) U6, (txsc l).getD (Int.toNat i * 17 + 11) U6, (txsc l).getD (Int.toNat i * 17 + 12) U6, (txsc l).getD (Int.toNat i * 17 + 13) U6, (txsc l).getD (Int.toNat i * 17 + 14) U6, (txsc l).getD (Int.toNat i * 17 + 15) U6, (txsc l).getD (Int.toNat i * 17 + 16) AVal.undef], .agg [(txsc l).getD (Int.toNat i * 17 + 0) U6, (txsc l).getD (Int.toNat i * 17 + 1) U6, (txsc l).getD (Int.toNat i * 17 + 2) U6, (txsc l).getD (Int.toNat i * 17 + 3) U6, (txsc l).getD (Int.toNat i * 17 + 4) U6, (txsc l).getD (Int.toNat i * 17 + 5) U6, (txsc l).getD (Int.toNat i * 17 + 6) U6, (txsc l).getD (Int.toNat i * 17 + 7) U6, (txsc l).getD (Int.toNat i * 17 + 8) U6, (txsc l).getD (Int.toNat i * 17 + 9) U6, (txsc l).getD (Int.toNat i * 17 + 10) U6, (txsc l).getD (Int.toNat i * 17 + 11) U6, (txsc l).getD (Int.toNat i * 17 + 12) U6, (txsc l).getD (Int.toNat i * 17 + 13) U6, (txsc l).getD (Int.toNat i * 17 + 14) U6, (txsc l).getD (Int.toNat i * 17 + 15) U6, (txsc l).getD (Int.toNat i * 17 + 16) AVal.undef]] ++ UU 9, []⟩ (by kernel_rfl) ⟨trivial, trivial, ⟨⟨(by omega), (by omega)⟩, (by (simp [spliceA_length] <;> omega))⟩, (by omega), trivial⟩ ?_
      rw [Int.toNat_natCast (i)]
      rw [Nat.add_zero (i * 17)]
      rw [Go.Ord.txs_cells (l) (i) (by omega)]
      refine CD ((fun (i : Nat) => r_small1 (l.getD i tx0)) i) ?_
      refine PT 2 2 ?_
      refine DerQ.to ⟨[.sl (txsc l) (l.length) .any, U6, (B6 false), (I6 (sumO l i + (↑((l.getD i tx0).ops.length) : Int))), (I6 i)] ++ UU 19 ++ [.sl (txsc l) (l.length) .any, (I6 i), .dptr [(I6 ((l.getD i tx0).p)), (I6 ((l.getD i tx0).s)), (I6 ((l.getD i tx0).v 0)), (I6 ((l.getD i tx0).v 1)), (I6 ((l.getD i tx0).v 2)), (I6 ((l.getD i tx0).v 3)), (I6 ((l.getD i tx0).v 4)), (I6 ((l.getD i tx0).v 5)), (I6 ((l.getD i tx0).v 6)), (I6 ((l.getD i tx0).v 7)), (I6 ((l.getD i tx0).v 8)), (I6 ((l.getD i tx0).v 9)), (I6 ((l.getD i tx0).v 10)), (I6 ((l.getD i tx0).v 11)), (I6 ((l.getD i tx0).v 12)), (I6 ((l.getD i tx0).time)), .sl (opsc (l.getD i tx0).ops) ((l.getD i tx0).ops.length) .any], .agg [(I6 ((l.getD i tx0).p)), (I6 ((l.getD i tx0).s)), (I6 ((l.getD i tx0).v 0)), (I6 ((l.getD i tx0).v 1)), (I6 ((l.getD i tx0).v 2)), (I6 ((l.getD i tx0).v 3)), (I6 ((l.getD i tx0).v 4)), (I6 ((l.getD i tx0).v 5)), (I6 ((l.getD i tx0).v 6)), (I6 ((l.getD i tx0).v 7)), (I6 ((l.getD i tx0).v 8)), (I6 ((l.getD i tx0).v 9)), (I6 ((l.getD i tx0).v 10)), (I6 ((l.getD i tx0).v 11)), (I6 ((l.getD i tx0).v 12)), (I6 ((l.getD i tx0).time)), .sl (opsc (l.getD i tx0).ops) ((l.getD i tx0).ops.length) .any], (B6 (decide (smallP (l.getD i tx0)))), (B6 (!decide (smallP (l.getD i tx0)))), (B6 (!decide (smallP (l.getD i tx0))))] ++ UU 6, []⟩ (by kernel_rfl) ?_
      cases h3 : (!decide (smallP (l.getD i tx0)))
      · have h3' := h3
        simp only [Bool.and_eq_true, Bool.and_eq_false_iff, Bool.or_eq_true, Bool.or_eq_false_iff, Bool.not_eq_true', Bool.not_eq_false', beq_iff_eq, beq_eq_false_iff_ne, decide_eq_true_eq, decide_eq_false_iff_not, ne_eq] at h3'
        refine RT 3 ?_
        refine KL (NN 24 9) ⟨[.sl (txsc l) (l.length) .any, U6, (B6 false), (I6 (sumO l i + (↑((l.getD i tx0).ops.length) : Int))), (I6 i)] ++ UU 28 ++ [(B6 (decide (sumO l i + (↑((l.getD i tx0).ops.length) : Int) > 160))), U6, U6, .undef], []⟩ ?_
        refine CN (decide (sumO l i + (↑((l.getD i tx0).ops.length) : Int) > 160)) (fun h4 => ?_) (fun h4 => ?_)
        · have h4' := of_decide_eq_true h4
          refine SQ (RT 1 ?_)
          refine AWP.ret ?_
          refine FI (B6 false) ?_
          refine Shrink.all ?_ rfl
          (exact few_no (i := i) (by omega) (fun _ => by omega); done)
        · have h4' := of_decide_eq_false h4
          refine AWP.skip (AWP.reg ?_)
          refine DerQ.run (TT 3) ⟨[.sl (txsc l) (l.length) .any, U6, (B6 false), (I6 (sumO l i + (↑((l.getD i tx0).ops.length) : Int))), (I6 (IntKind.wrap IntKind.i64 ((↑i : Int) + 1)))] ++ UU 9 ++ [(I6 i), (I6 (IntKind.wrap IntKind.i64 ((↑i : Int) + 1)))] ++ UU 17 ++ [(B6 (decide (sumO l i + (↑((l.getD i tx0).ops.length) : Int) > 160))), U6, U6, .undef], []⟩ (by kernel_rfl) (tt 3) ?_
          rw [IntWalk.i64_in ((↑i : Int) + 1) (by omega)]
          ((have g1 : smallP (l.getD i tx0) := by assumption); exact ⟨_, by omega, i + 1, rfl, by omega, by show 0 ≤ sumO l i + _ ∧ sumO l i + _ ≤ _; omega, succ_all hd ⟨g1, by show sumO l i + _ ≤ _; omega⟩, by kernel_rfl⟩; done)
      · have h3' := h3
        simp only [Bool.and_eq_true, Bool.and_eq_false_iff, Bool.or_eq_true, Bool.or_eq_false_iff, Bool.not_eq_true', Bool.not_eq_false', beq_iff_eq, beq_eq_false_iff_ne, decide_eq_true_eq, decide_eq_false_iff_not, ne_eq] at h3'
        refine RT 1 ?_
        refine KL (NN 24 9) ⟨[.sl (txsc l) (l.length) .any, U6, (B6 false), (I6 (sumO l i + (↑((l.getD i tx0).ops.length) : Int))), (I6 i)] ++ UU 28 ++ [(B6 true), U6, U6, .undef], []⟩ ?_
        refine CN true (fun _ => ?_) (fun h => nomatch h)
        refine SQ (RT 1 ?_)
        refine AWP.ret ?_
        refine FI (B6 false) ?_
        refine Shrink.all ?_ rfl
        (exact few_no (i := i) (by omega) (fun h => absurd h (by assumption)); done)
    · have h2' := of_decide_eq_false h2
      refine AWP.exit ?_
      refine SQ (RT 4 ?_)
      refine AWP.ret ?_
      refine FI (B6 (decide ((↑(l.length) : Int) ≤ 40))) ?_
      refine Shrink.all ?_ rfl
      ((first | refine congrArg B6 ?_ | refine congrArg I6 ?_ | congr 2); exact decide_eq_decide.2 ⟨fun h1 => ⟨by omega, fun j hj => hd j (by omega)⟩, fun h1 => by have := h1.1; omega⟩; done)
end Go.Ord
