/- Walks and laws. -/
import Derived.Test.YtfkilkfaiiijbaaOr0
import Derived.Test.YtfkilkfaiiijbaaCnt10
import Derived.Test.YtfkilkfaiiijbaaLibC
set_option maxRecDepth 100000
set_option maxHeartbeats 0
set_option linter.unusedSimpArgs false
set_option linter.unusedVariables false
namespace Go.Ord
open Go Go.Abs Go.Proofs Go.Ops
theorem mixed : Try.prog.follows .mixedOrders = true := by kernel_rfl
theorem _root_.Go.Abs.EvD.cast {P : Program} {f : FuncId} {a a' : List AVal} {r r' : AVal} (h : EvD P f a r) (e1 : a = a') (e2 : r = r') : EvD P f a' r' := by subst e1 e2; exact h
theorem dec_no {p : Prop} [Decidable p] (h : ¬ p) : AVal.sc (.bool false) = .sc (.bool (decide p)) := by rw [decide_eq_false h]
theorem dec_yes {p : Prop} [Decidable p] (h : p) : AVal.sc (.bool true) = .sc (.bool (decide p)) := by rw [decide_eq_true h]
theorem dec_t {P : Program} {f : FuncId} {args : List AVal} {p : Prop} [Decidable p] (h : EvD P f args (.sc (.bool (decide p)))) (hp : p) : EvD P f args (.sc (.bool true)) := by
  rwa [decide_eq_true hp] at h
theorem dec_f {P : Program} {f : FuncId} {args : List AVal} {p : Prop} [Decidable p] (h : EvD P f args (.sc (.bool (decide p)))) (hp : ¬ p) : EvD P f args (.sc (.bool false)) := by
  rwa [decide_eq_false hp] at h
theorem succ_all {P : Nat → Prop} {i : Nat} (hd : ∀ j, j < i → P j) (h : P i) : ∀ j, j < i + 1 → P j := by
  intro j hj
  rcases Nat.lt_or_ge j i with h1 | h1
  · exact hd j h1
  · have : j = i := by omega
    subst this; exact h
def vce (v : Vv) : List AVal := [AVal.sc (.int .i64 (v 0)), AVal.sc (.int .i64 (v 1)), AVal.sc (.int .i64 (v 2)), AVal.sc (.int .i64 (v 3)), AVal.sc (.int .i64 (v 4)), AVal.sc (.int .i64 (v 5)), AVal.sc (.int .i64 (v 6)), AVal.sc (.int .i64 (v 7)), AVal.sc (.int .i64 (v 8)), AVal.sc (.int .i64 (v 9)), AVal.sc (.int .i64 (v 10)), AVal.sc (.int .i64 (v 11)), AVal.sc (.int .i64 (v 12))]
def txe (t : TxD) : List AVal := [AVal.sc (.int .i64 t.p), AVal.sc (.int .i64 t.s), AVal.sc (.int .i64 (t.v 0)), AVal.sc (.int .i64 (t.v 1)), AVal.sc (.int .i64 (t.v 2)), AVal.sc (.int .i64 (t.v 3)), AVal.sc (.int .i64 (t.v 4)), AVal.sc (.int .i64 (t.v 5)), AVal.sc (.int .i64 (t.v 6)), AVal.sc (.int .i64 (t.v 7)), AVal.sc (.int .i64 (t.v 8)), AVal.sc (.int .i64 (t.v 9)), AVal.sc (.int .i64 (t.v 10)), AVal.sc (.int .i64 (t.v 11)), AVal.sc (.int .i64 (t.v 12)), AVal.sc (.int .i64 t.time), .sl (opsc t.ops) t.ops.length .any]
def txsc (l : List TxD) : List AVal := l.flatMap txe
theorem recs_length {α : Type} (f : α → List AVal) (k : Nat) (hf : ∀ a, (f a).length = k) (l : List α) : (l.flatMap f).length = l.length * k := by
  induction l with
  | nil => simp
  | cons a l ih => rw [List.flatMap_cons, List.length_append, hf, ih, List.length_cons, Nat.add_mul, Nat.one_mul]; omega
theorem recs_data {α : Type} (f : α → List AVal) (hf : ∀ a, dataAll (f a) = true) (l : List α) : dataAll (l.flatMap f) = true := by
  induction l with
  | nil => rfl
  | cons a l ih => rw [List.flatMap_cons, dataAll_append, hf, ih]; rfl
theorem recs_at {α : Type} (f : α → List AVal) (k : Nat) (hf : ∀ a, (f a).length = k) (d : α) (l : List α) (i : Nat) (h : i < l.length) : List.take k (List.drop (i * k) (l.flatMap f)) = f (l.getD i d) := by
  induction l generalizing i with
  | nil => simp at h
  | cons a l ih =>
    cases i with
    | zero => rw [Nat.zero_mul, List.drop_zero, List.flatMap_cons, List.take_left' (hf a)]; rfl
    | succ i =>
      rw [List.flatMap_cons, show (i + 1) * k = (f a).length + i * k by rw [hf, Nat.add_mul, Nat.one_mul]; omega, List.drop_length_add_append, ih i (by simpa using h)]; rfl
theorem recs_get {α : Type} (f : α → List AVal) (k : Nat) (hf : ∀ a, (f a).length = k) (d : α) (l : List α) (i j : Nat) (h : i < l.length) (hj : j < k) : List.getD (l.flatMap f) (i * k + j) .undef = (f (l.getD i d)).getD j .undef := by
  rw [← recs_at f k hf d l i h]
  simp only [List.getD_eq_getElem?_getD, List.getElem?_take, if_pos hj, List.getElem?_drop]
theorem recs_take {α : Type} (f : α → List AVal) (k : Nat) (hf : ∀ a, (f a).length = k) : ∀ (l : List α) (i : Nat), (l.take i).flatMap f = (l.flatMap f).take (i * k)
  | [], i => by simp
  | a :: l, 0 => by simp
  | a :: l, i + 1 => by
    rw [List.take_succ_cons, List.flatMap_cons, List.flatMap_cons, show (i + 1) * k = (f a).length + i * k by rw [hf, Nat.add_mul, Nat.one_mul]; omega, List.take_length_add_append, recs_take f k hf l i]
theorem recs_drop {α : Type} (f : α → List AVal) (k : Nat) (hf : ∀ a, (f a).length = k) : ∀ (l : List α) (i : Nat), (l.drop i).flatMap f = (l.flatMap f).drop (i * k)
  | [], i => by simp
  | a :: l, 0 => by simp
  | a :: l, i + 1 => by
    rw [List.drop_succ_cons, List.flatMap_cons, show (i + 1) * k = (f a).length + i * k by rw [hf, Nat.add_mul, Nat.one_mul]; omega, List.drop_length_add_append, recs_drop f k hf l i]
@[simp] theorem txsc_length (l : List TxD) : (txsc l).length = l.length * 17 := recs_length txe 17 (fun _ => rfl) l
theorem txe_data (t : TxD) : dataAll (txe t) = true := by simp [txe, dataAll, AVal.data]
@[simp] theorem txsc_data (l : List TxD) : dataAll (txsc l) = true := recs_data txe txe_data l
theorem txs_cells (l : List TxD) (i : Nat) (h : i < l.length) : [List.getD (txsc l) (i * 17) .undef, List.getD (txsc l) (i * 17 + 1) .undef, List.getD (txsc l) (i * 17 + 2) .undef, List.getD (txsc l) (i * 17 + 3) .undef, List.getD (txsc l) (i * 17 + 4) .undef, List.getD (txsc l) (i * 17 + 5) .undef, List.getD (txsc l) (i * 17 + 6) .undef, List.getD (txsc l) (i * 17 + 7) .undef, List.getD (txsc l) (i * 17 + 8) .undef, List.getD (txsc l) (i * 17 + 9) .undef, List.getD (txsc l) (i * 17 + 10) .undef, List.getD (txsc l) (i * 17 + 11) .undef, List.getD (txsc l) (i * 17 + 12) .undef, List.getD (txsc l) (i * 17 + 13) .undef, List.getD (txsc l) (i * 17 + 14) .undef, List.getD (txsc l) (i * 17 + 15) .undef, List.getD (txsc l) (i * 17 + 16) .undef] = txe (l.getD i tx0) := by
  have e : ∀ k, k < 17 → List.getD (txsc l) (i * 17 + k) .undef = (txe (l.getD i tx0)).getD k .undef := fun k hk => recs_get txe 17 (fun _ => rfl) tx0 l i k h hk
  rw [show i * 17 = i * 17 + 0 from rfl, e 0 (by omega), e 1 (by omega), e 2 (by omega), e 3 (by omega), e 4 (by omega), e 5 (by omega), e 6 (by omega), e 7 (by omega), e 8 (by omega), e 9 (by omega), e 10 (by omega), e 11 (by omega), e 12 (by omega), e 13 (by omega), e 14 (by omega), e 15 (by omega), e 16 (by omega)]; rfl
theorem txe_one (x : TxD) : ∀ j, j < (txe x).length → ((txe x).getD j .undef).one = true := by
  intro j hj
  have hj : j < 17 := hj
  rcases j with _ | _ | _ | _ | _ | _ | _ | _ | _ | _ | _ | _ | _ | _ | _ | _ | _ | j <;> first | rfl | (exfalso; omega)
theorem vce_get (v : Vv) (i : Nat) (h : i < 13) : List.getD [AVal.sc (.int .i64 (v 0)), AVal.sc (.int .i64 (v 1)), AVal.sc (.int .i64 (v 2)), AVal.sc (.int .i64 (v 3)), AVal.sc (.int .i64 (v 4)), AVal.sc (.int .i64 (v 5)), AVal.sc (.int .i64 (v 6)), AVal.sc (.int .i64 (v 7)), AVal.sc (.int .i64 (v 8)), AVal.sc (.int .i64 (v 9)), AVal.sc (.int .i64 (v 10)), AVal.sc (.int .i64 (v 11)), AVal.sc (.int .i64 (v 12))] i .undef = AVal.sc (.int .i64 (v i)) := by
  rcases i with _ | _ | _ | _ | _ | _ | _ | _ | _ | _ | _ | _ | _ | i <;> first | rfl | (exfalso; omega)
theorem vce_store (v : Vv) (p s : Int) (h : 0 ≤ p ∧ p < 13) : spliceA [AVal.sc (.int .i64 (v 0)), AVal.sc (.int .i64 (v 1)), AVal.sc (.int .i64 (v 2)), AVal.sc (.int .i64 (v 3)), AVal.sc (.int .i64 (v 4)), AVal.sc (.int .i64 (v 5)), AVal.sc (.int .i64 (v 6)), AVal.sc (.int .i64 (v 7)), AVal.sc (.int .i64 (v 8)), AVal.sc (.int .i64 (v 9)), AVal.sc (.int .i64 (v 10)), AVal.sc (.int .i64 (v 11)), AVal.sc (.int .i64 (v 12))] p.toNat [AVal.sc (.int .i64 s)] = [AVal.sc (.int .i64 ((updV v p s) 0)), AVal.sc (.int .i64 ((updV v p s) 1)), AVal.sc (.int .i64 ((updV v p s) 2)), AVal.sc (.int .i64 ((updV v p s) 3)), AVal.sc (.int .i64 ((updV v p s) 4)), AVal.sc (.int .i64 ((updV v p s) 5)), AVal.sc (.int .i64 ((updV v p s) 6)), AVal.sc (.int .i64 ((updV v p s) 7)), AVal.sc (.int .i64 ((updV v p s) 8)), AVal.sc (.int .i64 ((updV v p s) 9)), AVal.sc (.int .i64 ((updV v p s) 10)), AVal.sc (.int .i64 ((updV v p s) 11)), AVal.sc (.int .i64 ((updV v p s) 12))] := by
  obtain ⟨n, rfl⟩ : ∃ n : Nat, p = n := ⟨p.toNat, by omega⟩
  rw [Int.toNat_natCast]
  have hn : n < 13 := by omega
  rcases n with _ | _ | _ | _ | _ | _ | _ | _ | _ | _ | _ | _ | _ | n <;> first | rfl | (exfalso; omega)
theorem v_next (v : Vv) (hv : ∀ j, -9223372036854775808 ≤ v j) (p s : Int) (hs : s ≤ 9223372036854775807) : EvD Try.prog 90 [.agg (vce v), .agg [AVal.sc (.int .i64 p), AVal.sc (.int .i64 s)]] (.sc (.bool (decide (nextP v p s)))) := by
  have hvp := hv p.toNat
  refine EvD.body Try.func90 rfl (by simp [vce, txe, dataAll, AVal.data]) (by simp [vce, txe, dataAll, AVal.data]) ?_
  refine AWP.seq ?_
  refine TO ⟨[.agg [(I6 (v 0)), (I6 (v 1)), (I6 (v 2)), (I6 (v 3)), (I6 (v 4)), (I6 (v 5)), (I6 (v 6)), (I6 (v 7)), (I6 (v 8)), (I6 (v 9)), (I6 (v 10)), (I6 (v 11)), (I6 (v 12))], .agg [(I6 p), (I6 s)]] ++ UU 25, []⟩ ?_
  refine AWP.reg (RT 3 ?_)
  refine AWP.seq (KL [0, 1] ⟨[U6, U6, .ptr 0 0, .ptr 1 0, (B6 false)] ++ UU 22, [⟨[(I6 (v 0)), (I6 (v 1)), (I6 (v 2)), (I6 (v 3)), (I6 (v 4)), (I6 (v 5)), (I6 (v 6)), (I6 (v 7)), (I6 (v 8)), (I6 (v 9)), (I6 (v 10)), (I6 (v 11)), (I6 (v 12))], 1, .fresh⟩, ⟨[(I6 p), (I6 s)], 2, .fresh⟩]⟩ ?_)
  refine AWP.drawX mixed (fun o => [7].contains (o.dst.getD 0)) (by kernel_rfl) ?_
  refine DerX.preI 2 ((True) ∧ (((0 : Nat) < (2 : Nat)) ∧ (True))) (by intro ext; kernel_rfl) ⟨trivial, ⟨(by omega), trivial⟩⟩ ?_
  refine DerX.callDI (v_peer p) ⟨by kernel_rfl, by kernel_rfl⟩ ?_
  refine DerX.quietI (True) (by intro ext; kernel_rfl) (by kernel_rfl) trivial ?_
  refine AWP.toX ⟨[U6, U6, .ptr 0 0, .ptr 1 0, (B6 false), .ptr 1 0, (I6 p), (B6 (decide (1 ≤ p ∧ p ≤ 12))), (B6 (decide (1 ≤ p ∧ p ≤ 12)))] ++ UU 18, [⟨[(I6 (v 0)), (I6 (v 1)), (I6 (v 2)), (I6 (v 3)), (I6 (v 4)), (I6 (v 5)), (I6 (v 6)), (I6 (v 7)), (I6 (v 8)), (I6 (v 9)), (I6 (v 10)), (I6 (v 11)), (I6 (v 12))], 1, .fresh⟩, ⟨[(I6 p), (I6 s)], 2, .fresh⟩]⟩ (by kernel_rfl) ?_
  cases h1 : (decide (1 ≤ p ∧ p ≤ 12))
  · have h1' := of_decide_eq_false h1
    refine DerX.preI 19 ((True) ∧ ((True) ∧ ((True) ∧ ((True) ∧ (True))))) (by intro ext; kernel_rfl) ⟨trivial, ⟨trivial, ⟨trivial, ⟨trivial, trivial⟩⟩⟩⟩ ?_
    refine DerX.nil ?_
    refine AWP.ret ?_
    refine FI (B6 false) ?_
    refine Shrink.all ?_ rfl
    (exact dec_no (fun h => by unfold nextP at h; omega); done)
  · have h1' := of_decide_eq_true h1
    refine DerX.pre 6 ((True) ∧ (((0 : Nat) < (2 : Nat)) ∧ (((0 ≤ p) ∧ (p < 13)) ∧ ((0 + Int.toNat p * 1 < 13) ∧ ((True) ∧ (((1 : Nat) < (2 : Nat)) ∧ (True))))))) [.ptr 1 0, (I6 p), .ptr 0 (0 + Int.toNat p * 1), List.getD [(I6 (v 0)), (I6 (v 1)), (I6 (v 2)), (I6 (v 3)), (I6 (v 4)), (I6 (v 5)), (I6 (v 6)), (I6 (v 7)), (I6 (v 8)), (I6 (v 9)), (I6 (v 10)), (I6 (v 11)), (I6 (v 12))] (0 + Int.toNat p * 1) U6, .ptr 1 1, (I6 s)] ⟨[U6, U6, .ptr 0 0, .ptr 1 0, (B6 false), .ptr 1 0, (I6 p), (B6 true), (B6 true), .ptr 1 0, (I6 p), .ptr 0 (0 + Int.toNat p * 1), List.getD [(I6 (v 0)), (I6 (v 1)), (I6 (v 2)), (I6 (v 3)), (I6 (v 4)), (I6 (v 5)), (I6 (v 6)), (I6 (v 7)), (I6 (v 8)), (I6 (v 9)), (I6 (v 10)), (I6 (v 11)), (I6 (v 12))] (0 + Int.toNat p * 1) U6, .ptr 1 1, (I6 s)] ++ UU 12, [⟨[(I6 (v 0)), (I6 (v 1)), (I6 (v 2)), (I6 (v 3)), (I6 (v 4)), (I6 (v 5)), (I6 (v 6)), (I6 (v 7)), (I6 (v 8)), (I6 (v 9)), (I6 (v 10)), (I6 (v 11)), (I6 (v 12))], 1, .fresh⟩, ⟨[(I6 p), (I6 s)], 2, .fresh⟩]⟩ (by intro ext; kernel_rfl) (by kernel_rfl) ⟨trivial, ⟨(by omega), ⟨⟨(by omega), (by omega)⟩, ⟨(by omega), ⟨trivial, ⟨(by omega), trivial⟩⟩⟩⟩⟩⟩ ?_
    rw [Nat.mul_one (Int.toNat p)]
    rw [Nat.zero_add (Int.toNat p)]
    rw [Go.Ord.vce_get (v) (Int.toNat p) (by omega)]
    refine DerX.preI 3 ((True) ∧ ((True) ∧ ((True) ∧ (True)))) (by intro ext; kernel_rfl) ⟨trivial, ⟨trivial, ⟨trivial, trivial⟩⟩⟩ ?_
    refine AWP.toX ⟨[U6, U6, .ptr 0 0, .ptr 1 0, (B6 false), .ptr 1 0, (I6 p), (B6 true), (B6 true), .ptr 1 0, (I6 p), .ptr 0 (Int.toNat p), (I6 (v (Int.toNat p))), .ptr 1 1, (I6 s), (B6 (decide (v (Int.toNat p) < s))), (B6 (decide (v (Int.toNat p) < s))), (B6 (decide (v (Int.toNat p) < s)))] ++ UU 9, [⟨[(I6 (v 0)), (I6 (v 1)), (I6 (v 2)), (I6 (v 3)), (I6 (v 4)), (I6 (v 5)), (I6 (v 6)), (I6 (v 7)), (I6 (v 8)), (I6 (v 9)), (I6 (v 10)), (I6 (v 11)), (I6 (v 12))], 1, .fresh⟩, ⟨[(I6 p), (I6 s)], 2, .fresh⟩]⟩ (by kernel_rfl) ?_
    cases h2 : (decide (v (Int.toNat p) < s))
    · have h2' := of_decide_eq_false h2
      refine DerX.preI 10 ((True) ∧ ((True) ∧ (True))) (by intro ext; kernel_rfl) ⟨trivial, ⟨trivial, trivial⟩⟩ ?_
      refine DerX.nil ?_
      refine AWP.ret ?_
      refine FI (B6 false) ?_
      refine Shrink.all ?_ rfl
      (exact dec_no (fun h => by unfold nextP at h; omega); done)
    · have h2' := of_decide_eq_true h2
      refine DerX.pre 4 ((True) ∧ (((0 : Nat) < (2 : Nat)) ∧ (((0 ≤ p) ∧ (p < 13)) ∧ ((0 + Int.toNat p * 1 < 13) ∧ (True))))) [.ptr 1 0, (I6 p), .ptr 0 (0 + Int.toNat p * 1), List.getD [(I6 (v 0)), (I6 (v 1)), (I6 (v 2)), (I6 (v 3)), (I6 (v 4)), (I6 (v 5)), (I6 (v 6)), (I6 (v 7)), (I6 (v 8)), (I6 (v 9)), (I6 (v 10)), (I6 (v 11)), (I6 (v 12))] (0 + Int.toNat p * 1) AVal.undef] ⟨[U6, U6, .ptr 0 0, .ptr 1 0, (B6 false), .ptr 1 0, (I6 p), (B6 true), (B6 true), .ptr 1 0, (I6 p), .ptr 0 (Int.toNat p), (I6 (v (Int.toNat p))), .ptr 1 1, (I6 s), (B6 true), (B6 true), (B6 true), .ptr 1 0, (I6 p), .ptr 0 (0 + Int.toNat p * 1), List.getD [(I6 (v 0)), (I6 (v 1)), (I6 (v 2)), (I6 (v 3)), (I6 (v 4)), (I6 (v 5)), (I6 (v 6)), (I6 (v 7)), (I6 (v 8)), (I6 (v 9)), (I6 (v 10)), (I6 (v 11)), (I6 (v 12))] (0 + Int.toNat p * 1) AVal.undef] ++ UU 5, [⟨[(I6 (v 0)), (I6 (v 1)), (I6 (v 2)), (I6 (v 3)), (I6 (v 4)), (I6 (v 5)), (I6 (v 6)), (I6 (v 7)), (I6 (v 8)), (I6 (v 9)), (I6 (v 10)), (I6 (v 11)), (I6 (v 12))], 1, .fresh⟩, ⟨[(I6 p), (I6 s)], 2, .fresh⟩]⟩ (by intro ext; kernel_rfl) (by kernel_rfl) ⟨trivial, ⟨(by omega), ⟨⟨(by omega), (by omega)⟩, ⟨(by omega), trivial⟩⟩⟩⟩ ?_
      rw [Nat.mul_one (Int.toNat p)]
      rw [Nat.zero_add (Int.toNat p)]
      rw [Go.Ord.vce_get (v) (Int.toNat p) (by omega)]
      refine DerX.pre 6 ((True) ∧ ((True) ∧ (((1 : Nat) < (2 : Nat)) ∧ ((True) ∧ ((True) ∧ ((True) ∧ (True))))))) [(I6 (IntKind.wrap IntKind.i64 (v (Int.toNat p) + 1))), .ptr 1 1, (I6 s), (B6 (IntKind.wrap IntKind.i64 (v (Int.toNat p) + 1) == s)), (B6 (IntKind.wrap IntKind.i64 (v (Int.toNat p) + 1) == s)), (B6 (IntKind.wrap IntKind.i64 (v (Int.toNat p) + 1) == s))] ⟨[U6, U6, .ptr 0 0, .ptr 1 0, (B6 (IntKind.wrap IntKind.i64 (v (Int.toNat p) + 1) == s)), .ptr 1 0, (I6 p), (B6 true), (B6 true), .ptr 1 0, (I6 p), .ptr 0 (Int.toNat p), (I6 (v (Int.toNat p))), .ptr 1 1, (I6 s), (B6 true), (B6 true), (B6 true), .ptr 1 0, (I6 p), .ptr 0 (Int.toNat p), (I6 (v (Int.toNat p))), (I6 (IntKind.wrap IntKind.i64 (v (Int.toNat p) + 1))), .ptr 1 1, (I6 s), (B6 (IntKind.wrap IntKind.i64 (v (Int.toNat p) + 1) == s)), (B6 (IntKind.wrap IntKind.i64 (v (Int.toNat p) + 1) == s))], [⟨[(I6 (v 0)), (I6 (v 1)), (I6 (v 2)), (I6 (v 3)), (I6 (v 4)), (I6 (v 5)), (I6 (v 6)), (I6 (v 7)), (I6 (v 8)), (I6 (v 9)), (I6 (v 10)), (I6 (v 11)), (I6 (v 12))], 1, .fresh⟩, ⟨[(I6 p), (I6 s)], 2, .fresh⟩]⟩ (by intro ext; kernel_rfl) (by kernel_rfl) ⟨trivial, ⟨trivial, ⟨(by omega), ⟨trivial, ⟨trivial, ⟨trivial, trivial⟩⟩⟩⟩⟩⟩ ?_
      rw [IntWalk.i64_in (v (Int.toNat p) + 1) (by omega)]
      refine DerX.nil ?_
      refine KL ([2, 3] ++ NN 5 22) ⟨[U6, U6, U6, U6, (B6 (v (Int.toNat p) + 1 == s))] ++ UU 22, [⟨[(I6 (v 0)), (I6 (v 1)), (I6 (v 2)), (I6 (v 3)), (I6 (v 4)), (I6 (v 5)), (I6 (v 6)), (I6 (v 7)), (I6 (v 8)), (I6 (v 9)), (I6 (v 10)), (I6 (v 11)), (I6 (v 12))], 1, .fresh⟩, ⟨[(I6 p), (I6 s)], 2, .fresh⟩]⟩ ?_
      refine AWP.ret ?_
      refine FI (B6 (v (Int.toNat p) + 1 == s)) ?_
      refine Shrink.all ?_ rfl
      ((first | refine congrArg B6 ?_ | refine congrArg I6 ?_ | congr 2); exact decide_eq_decide.2 ⟨fun h => ⟨by omega, by omega, by omega⟩, fun h => by unfold nextP at h; omega⟩; done)
theorem r_next (v : Vv) (hv : ∀ j, -9223372036854775808 ≤ v j) (p s : Int) (hs : -9223372036854775808 ≤ s ∧ s ≤ 9223372036854775807) : EvD Try.prog 48 [.agg (vce v), .agg [AVal.sc (.int .i64 p), AVal.sc (.int .i64 s)]] (.sc (.bool (decide (nextP v p s)))) := by
  have hvp := hv p.toNat
  refine EvD.body Try.func48 rfl (by simp [vce, txe, dataAll, AVal.data]) (by simp [vce, txe, dataAll, AVal.data]) ?_
  refine AWP.seq ?_
  refine TO ⟨[.agg [(I6 (v 0)), (I6 (v 1)), (I6 (v 2)), (I6 (v 3)), (I6 (v 4)), (I6 (v 5)), (I6 (v 6)), (I6 (v 7)), (I6 (v 8)), (I6 (v 9)), (I6 (v 10)), (I6 (v 11)), (I6 (v 12))], .agg [(I6 p), (I6 s)]] ++ UU 25, []⟩ ?_
  refine AWP.reg (RT 3 ?_)
  refine AWP.seq (KL [0, 1] ⟨[U6, U6, .ptr 0 0, .ptr 1 0, (B6 false)] ++ UU 22, [⟨[(I6 (v 0)), (I6 (v 1)), (I6 (v 2)), (I6 (v 3)), (I6 (v 4)), (I6 (v 5)), (I6 (v 6)), (I6 (v 7)), (I6 (v 8)), (I6 (v 9)), (I6 (v 10)), (I6 (v 11)), (I6 (v 12))], 1, .fresh⟩, ⟨[(I6 p), (I6 s)], 2, .fresh⟩]⟩ ?_)
  refine AWP.drawX mixed (fun o => [7].contains (o.dst.getD 0)) (by kernel_rfl) ?_
  refine DerX.preI 2 ((True) ∧ (((0 : Nat) < (2 : Nat)) ∧ (True))) (by intro ext; kernel_rfl) ⟨trivial, ⟨(by omega), trivial⟩⟩ ?_
  refine DerX.callDI (r_peer p) ⟨by kernel_rfl, by kernel_rfl⟩ ?_
  refine DerX.quietI (True) (by intro ext; kernel_rfl) (by kernel_rfl) trivial ?_
  refine AWP.toX ⟨[U6, U6, .ptr 0 0, .ptr 1 0, (B6 false), .ptr 1 0, (I6 p), (B6 (decide (1 ≤ p ∧ p ≤ 12))), (B6 (decide (1 ≤ p ∧ p ≤ 12)))] ++ UU 18, [⟨[(I6 (v 0)), (I6 (v 1)), (I6 (v 2)), (I6 (v 3)), (I6 (v 4)), (I6 (v 5)), (I6 (v 6)), (I6 (v 7)), (I6 (v 8)), (I6 (v 9)), (I6 (v 10)), (I6 (v 11)), (I6 (v 12))], 1, .fresh⟩, ⟨[(I6 p), (I6 s)], 2, .fresh⟩]⟩ (by kernel_rfl) ?_
  cases h1 : (decide (1 ≤ p ∧ p ≤ 12))
  · have h1' := of_decide_eq_false h1
    refine DerX.preI 19 ((True) ∧ ((True) ∧ ((True) ∧ ((True) ∧ (True))))) (by intro ext; kernel_rfl) ⟨trivial, ⟨trivial, ⟨trivial, ⟨trivial, trivial⟩⟩⟩⟩ ?_
    refine DerX.nil ?_
    refine AWP.ret ?_
    refine FI (B6 false) ?_
    refine Shrink.all ?_ rfl
    (exact dec_no (fun h => by unfold nextP at h; omega); done)
  · have h1' := of_decide_eq_true h1
    refine DerX.pre 6 ((True) ∧ (((1 : Nat) < (2 : Nat)) ∧ ((True) ∧ (((0 : Nat) < (2 : Nat)) ∧ (((0 ≤ p) ∧ (p < 13)) ∧ ((0 + Int.toNat p * 1 < 13) ∧ (True))))))) [.ptr 1 1, (I6 s), .ptr 1 0, (I6 p), .ptr 0 (0 + Int.toNat p * 1), List.getD [(I6 (v 0)), (I6 (v 1)), (I6 (v 2)), (I6 (v 3)), (I6 (v 4)), (I6 (v 5)), (I6 (v 6)), (I6 (v 7)), (I6 (v 8)), (I6 (v 9)), (I6 (v 10)), (I6 (v 11)), (I6 (v 12))] (0 + Int.toNat p * 1) AVal.undef] ⟨[U6, U6, .ptr 0 0, .ptr 1 0, (B6 false), .ptr 1 0, (I6 p), (B6 true), (B6 true), .ptr 1 1, (I6 s), .ptr 1 0, (I6 p), .ptr 0 (0 + Int.toNat p * 1), List.getD [(I6 (v 0)), (I6 (v 1)), (I6 (v 2)), (I6 (v 3)), (I6 (v 4)), (I6 (v 5)), (I6 (v 6)), (I6 (v 7)), (I6 (v 8)), (I6 (v 9)), (I6 (v 10)), (I6 (v 11)), (I6 (v 12))] (0 + Int.toNat p * 1) AVal.undef] ++ UU 12, [⟨[(I6 (v 0)), (I6 (v 1)), (I6 (v 2)), (I6 (v 3)), (I6 (v 4)), (I6 (v 5)), (I6 (v 6)), (I6 (v 7)), (I6 (v 8)), (I6 (v 9)), (I6 (v 10)), (I6 (v 11)), (I6 (v 12))], 1, .fresh⟩, ⟨[(I6 p), (I6 s)], 2, .fresh⟩]⟩ (by intro ext; kernel_rfl) (by kernel_rfl) ⟨trivial, ⟨(by omega), ⟨trivial, ⟨(by omega), ⟨⟨(by omega), (by omega)⟩, ⟨(by omega), trivial⟩⟩⟩⟩⟩⟩ ?_
    rw [Nat.mul_one (Int.toNat p)]
    rw [Nat.zero_add (Int.toNat p)]
    rw [Go.Ord.vce_get (v) (Int.toNat p) (by omega)]
    refine DerX.preI 3 ((True) ∧ ((True) ∧ ((True) ∧ (True)))) (by intro ext; kernel_rfl) ⟨trivial, ⟨trivial, ⟨trivial, trivial⟩⟩⟩ ?_
    refine AWP.toX ⟨[U6, U6, .ptr 0 0, .ptr 1 0, (B6 false), .ptr 1 0, (I6 p), (B6 true), (B6 true), .ptr 1 1, (I6 s), .ptr 1 0, (I6 p), .ptr 0 (Int.toNat p), (I6 (v (Int.toNat p))), (B6 (decide (s > v (Int.toNat p)))), (B6 (decide (s > v (Int.toNat p)))), (B6 (decide (s > v (Int.toNat p))))] ++ UU 9, [⟨[(I6 (v 0)), (I6 (v 1)), (I6 (v 2)), (I6 (v 3)), (I6 (v 4)), (I6 (v 5)), (I6 (v 6)), (I6 (v 7)), (I6 (v 8)), (I6 (v 9)), (I6 (v 10)), (I6 (v 11)), (I6 (v 12))], 1, .fresh⟩, ⟨[(I6 p), (I6 s)], 2, .fresh⟩]⟩ (by kernel_rfl) ?_
    cases h2 : (decide (s > v (Int.toNat p)))
    · have h2' := of_decide_eq_false h2
      refine DerX.preI 10 ((True) ∧ ((True) ∧ (True))) (by intro ext; kernel_rfl) ⟨trivial, ⟨trivial, trivial⟩⟩ ?_
      refine DerX.nil ?_
      refine AWP.ret ?_
      refine FI (B6 false) ?_
      refine Shrink.all ?_ rfl
      (exact dec_no (fun h => by unfold nextP at h; omega); done)
    · have h2' := of_decide_eq_true h2
      refine DerX.pre 7 ((True) ∧ (((1 : Nat) < (2 : Nat)) ∧ ((True) ∧ ((True) ∧ (((0 : Nat) < (2 : Nat)) ∧ (((0 ≤ p) ∧ (p < 13)) ∧ ((0 + Int.toNat p * 1 < 13) ∧ (True)))))))) [.ptr 1 1, (I6 s), (I6 (IntKind.wrap IntKind.i64 (s - 1))), .ptr 1 0, (I6 p), .ptr 0 (0 + Int.toNat p * 1), List.getD [(I6 (v 0)), (I6 (v 1)), (I6 (v 2)), (I6 (v 3)), (I6 (v 4)), (I6 (v 5)), (I6 (v 6)), (I6 (v 7)), (I6 (v 8)), (I6 (v 9)), (I6 (v 10)), (I6 (v 11)), (I6 (v 12))] (0 + Int.toNat p * 1) AVal.undef] ⟨[U6, U6, .ptr 0 0, .ptr 1 0, (B6 false), .ptr 1 0, (I6 p), (B6 true), (B6 true), .ptr 1 1, (I6 s), .ptr 1 0, (I6 p), .ptr 0 (Int.toNat p), (I6 (v (Int.toNat p))), (B6 true), (B6 true), (B6 true), .ptr 1 1, (I6 s), (I6 (IntKind.wrap IntKind.i64 (s - 1))), .ptr 1 0, (I6 p), .ptr 0 (0 + Int.toNat p * 1), List.getD [(I6 (v 0)), (I6 (v 1)), (I6 (v 2)), (I6 (v 3)), (I6 (v 4)), (I6 (v 5)), (I6 (v 6)), (I6 (v 7)), (I6 (v 8)), (I6 (v 9)), (I6 (v 10)), (I6 (v 11)), (I6 (v 12))] (0 + Int.toNat p * 1) U6, U6, .undef], [⟨[(I6 (v 0)), (I6 (v 1)), (I6 (v 2)), (I6 (v 3)), (I6 (v 4)), (I6 (v 5)), (I6 (v 6)), (I6 (v 7)), (I6 (v 8)), (I6 (v 9)), (I6 (v 10)), (I6 (v 11)), (I6 (v 12))], 1, .fresh⟩, ⟨[(I6 p), (I6 s)], 2, .fresh⟩]⟩ (by intro ext; kernel_rfl) (by kernel_rfl) ⟨trivial, ⟨(by omega), ⟨trivial, ⟨trivial, ⟨(by omega), ⟨⟨(by omega), (by omega)⟩, ⟨(by omega), trivial⟩⟩⟩⟩⟩⟩⟩ ?_
      rw [IntWalk.i64_in (s - 1) (by omega)]
      rw [Nat.mul_one (Int.toNat p)]
      rw [Nat.zero_add (Int.toNat p)]
      rw [Go.Ord.vce_get (v) (Int.toNat p) (by omega)]
      refine DerX.preI 3 ((True) ∧ ((True) ∧ ((True) ∧ (True)))) (by intro ext; kernel_rfl) ⟨trivial, ⟨trivial, ⟨trivial, trivial⟩⟩⟩ ?_
      refine DerX.nil ?_
      refine AWP.ret ?_
      refine FI (B6 (s - 1 == v (Int.toNat p))) ?_
      refine Shrink.all ?_ rfl
      ((first | refine congrArg B6 ?_ | refine congrArg I6 ?_ | congr 2); exact decide_eq_decide.2 ⟨fun h => ⟨by omega, by omega, by omega⟩, fun h => by unfold nextP at h; omega⟩; done)
theorem r_leq (a b : Vv) : EvD Try.prog 49 [.agg (vce a), .agg (vce b)] (.sc (.bool (decide (leqP a b)))) := by
  refine EvD.body Try.func49 rfl (by simp [vce, txe, dataAll, AVal.data]) (by simp [vce, txe, dataAll, AVal.data]) ?_
  refine AWP.seq ?_
  refine TO ⟨[.agg [(I6 (a 0)), (I6 (a 1)), (I6 (a 2)), (I6 (a 3)), (I6 (a 4)), (I6 (a 5)), (I6 (a 6)), (I6 (a 7)), (I6 (a 8)), (I6 (a 9)), (I6 (a 10)), (I6 (a 11)), (I6 (a 12))], .agg [(I6 (b 0)), (I6 (b 1)), (I6 (b 2)), (I6 (b 3)), (I6 (b 4)), (I6 (b 5)), (I6 (b 6)), (I6 (b 7)), (I6 (b 8)), (I6 (b 9)), (I6 (b 10)), (I6 (b 11)), (I6 (b 12))]] ++ UU 15, []⟩ ?_
  refine AWP.reg (RT 3 ?_)
  refine AWP.seq (AWP.seq (KL [0, 1] ⟨[U6, U6, .ptr 0 0, .ptr 1 0, (B6 false)] ++ UU 12, [⟨[(I6 (a 0)), (I6 (a 1)), (I6 (a 2)), (I6 (a 3)), (I6 (a 4)), (I6 (a 5)), (I6 (a 6)), (I6 (a 7)), (I6 (a 8)), (I6 (a 9)), (I6 (a 10)), (I6 (a 11)), (I6 (a 12))], 1, .fresh⟩, ⟨[(I6 (b 0)), (I6 (b 1)), (I6 (b 2)), (I6 (b 3)), (I6 (b 4)), (I6 (b 5)), (I6 (b 6)), (I6 (b 7)), (I6 (b 8)), (I6 (b 9)), (I6 (b 10)), (I6 (b 11)), (I6 (b 12))], 1, .fresh⟩]⟩ ?_))
  refine AWP.reg (RT 1 ?_)
  refine AWP.block ?_
  refine TO ⟨[U6, U6, .ptr 0 0, .ptr 1 0, (B6 false), (I6 0)] ++ UU 11, [⟨[(I6 (a 0)), (I6 (a 1)), (I6 (a 2)), (I6 (a 3)), (I6 (a 4)), (I6 (a 5)), (I6 (a 6)), (I6 (a 7)), (I6 (a 8)), (I6 (a 9)), (I6 (a 10)), (I6 (a 11)), (I6 (a 12))], 1, .fresh⟩, ⟨[(I6 (b 0)), (I6 (b 1)), (I6 (b 2)), (I6 (b 3)), (I6 (b 4)), (I6 (b 5)), (I6 (b 6)), (I6 (b 7)), (I6 (b 8)), (I6 (b 9)), (I6 (b 10)), (I6 (b 11)), (I6 (b 12))], 1, .fresh⟩]⟩ ?_
  refine AWP.loopM [false, false, true, true, true, true, false, false, false, false, false, false, false, false, false, false, false] (fun kk st => ∃ (i : Nat), kk = 13 - i ∧ i ≤ 13 ∧ (∀ j, j < i → a j ≤ b j) ∧ st = ⟨[U6, U6, .ptr 0 0, .ptr 1 0, (B6 false), AVal.sc (.int .i64 (i : Int)), U6, U6, U6, U6, U6, U6, U6, U6, U6, U6, .undef], [⟨[(I6 (a 0)), (I6 (a 1)), (I6 (a 2)), (I6 (a 3)), (I6 (a 4)), (I6 (a 5)), (I6 (a 6)), (I6 (a 7)), (I6 (a 8)), (I6 (a 9)), (I6 (a 10)), (I6 (a 11)), (I6 (a 12))], 1, .fresh⟩, ⟨[(I6 (b 0)), (I6 (b 1)), (I6 (b 2)), (I6 (b 3)), (I6 (b 4)), (I6 (b 5)), (I6 (b 6)), (I6 (b 7)), (I6 (b 8)), (I6 (b 9)), (I6 (b 10)), (I6 (b 11)), (I6 (b 12))], 1, .fresh⟩]⟩) _ ⟨0, rfl, by omega, fun j h => absurd h (by omega), by kernel_rfl⟩ ?_
  rintro kk s ⟨i, rfl, hi, hd, rfl⟩
  refine AWP.seq (SQ (RT 2 ?_))
  refine KL [6] ⟨[U6, U6, .ptr 0 0, .ptr 1 0, (B6 false), (I6 i), U6, (B6 (decide ((↑i : Int) ≤ 12)))] ++ UU 9, [⟨[(I6 (a 0)), (I6 (a 1)), (I6 (a 2)), (I6 (a 3)), (I6 (a 4)), (I6 (a 5)), (I6 (a 6)), (I6 (a 7)), (I6 (a 8)), (I6 (a 9)), (I6 (a 10)), (I6 (a 11)), (I6 (a 12))], 1, .fresh⟩, ⟨[(I6 (b 0)), (I6 (b 1)), (I6 (b 2)), (I6 (b 3)), (I6 (b 4)), (I6 (b 5)), (I6 (b 6)), (I6 (b 7)), (I6 (b 8)), (I6 (b 9)), (I6 (b 10)), (I6 (b 11)), (I6 (b 12))], 1, .fresh⟩]⟩ ?_
  refine CN (decide ((↑i : Int) ≤ 12)) (fun h1 => ?_) (fun h1 => ?_)
  · have h1' := of_decide_eq_true h1
    refine AWP.skip (AWP.seq (AWP.block (AWP.seq ?_)))
    refine AWP.drawX mixed (fun _ => false) (by kernel_rfl) ?_
    refine DerX.pre 6 ((True) ∧ (((0 ≤ (↑i : Int)) ∧ ((↑i : Int) < 13)) ∧ ((0 + Int.toNat i * 1 < 13) ∧ ((True) ∧ (((0 ≤ (↑i : Int)) ∧ ((↑i : Int) < 13)) ∧ ((0 + Int.toNat i * 1 < 13) ∧ (True))))))) [(I6 i), .ptr 0 (0 + Int.toNat i * 1), List.getD [(I6 (a 0)), (I6 (a 1)), (I6 (a 2)), (I6 (a 3)), (I6 (a 4)), (I6 (a 5)), (I6 (a 6)), (I6 (a 7)), (I6 (a 8)), (I6 (a 9)), (I6 (a 10)), (I6 (a 11)), (I6 (a 12))] (0 + Int.toNat i * 1) U6, (I6 i), .ptr 1 (0 + Int.toNat i * 1), List.getD [(I6 (b 0)), (I6 (b 1)), (I6 (b 2)), (I6 (b 3)), (I6 (b 4)), (I6 (b 5)), (I6 (b 6)), (I6 (b 7)), (I6 (b 8)), (I6 (b 9)), (I6 (b 10)), (I6 (b 11)), (I6 (b 12))] (0 + Int.toNat i * 1) AVal.undef] ⟨[U6, U6, .ptr 0 0, .ptr 1 0, (B6 false), (I6 i), U6, (B6 (decide ((↑i : Int) ≤ 12))), U6, U6, (I6 i), .ptr 0 (0 + Int.toNat i * 1), List.getD [(I6 (a 0)), (I6 (a 1)), (I6 (a 2)), (I6 (a 3)), (I6 (a 4)), (I6 (a 5)), (I6 (a 6)), (I6 (a 7)), (I6 (a 8)), (I6 (a 9)), (I6 (a 10)), (I6 (a 11)), (I6 (a 12))] (0 + Int.toNat i * 1) U6, (I6 i), .ptr 1 (0 + Int.toNat i * 1), List.getD [(I6 (b 0)), (I6 (b 1)), (I6 (b 2)), (I6 (b 3)), (I6 (b 4)), (I6 (b 5)), (I6 (b 6)), (I6 (b 7)), (I6 (b 8)), (I6 (b 9)), (I6 (b 10)), (I6 (b 11)), (I6 (b 12))] (0 + Int.toNat i * 1) U6, .undef], [⟨[(I6 (a 0)), (I6 (a 1)), (I6 (a 2)), (I6 (a 3)), (I6 (a 4)), (I6 (a 5)), (I6 (a 6)), (I6 (a 7)), (I6 (a 8)), (I6 (a 9)), (I6 (a 10)), (I6 (a 11)), (I6 (a 12))], 1, .fresh⟩, ⟨[(I6 (b 0)), (I6 (b 1)), (I6 (b 2)), (I6 (b 3)), (I6 (b 4)), (I6 (b 5)), (I6 (b 6)), (I6 (b 7)), (I6 (b 8)), (I6 (b 9)), (I6 (b 10)), (I6 (b 11)), (I6 (b 12))], 1, .fresh⟩]⟩ (by intro ext; kernel_rfl) (by kernel_rfl) ⟨trivial, ⟨⟨(by omega), (by omega)⟩, ⟨(by omega), ⟨trivial, ⟨⟨(by omega), (by omega)⟩, ⟨(by omega), trivial⟩⟩⟩⟩⟩⟩ ?_
    rw [Int.toNat_natCast (i)]
    rw [Nat.mul_one (i)]
    rw [Nat.zero_add (i)]
    rw [Go.Ord.vce_get (a) (i) (by omega)]
    rw [Go.Ord.vce_get (b) (i) (by omega)]
    refine DerX.quietI (True) (by intro ext; kernel_rfl) (by kernel_rfl) trivial ?_
    refine DerX.nil ?_
    refine KL ([7] ++ NN 10 6) ⟨[U6, U6, .ptr 0 0, .ptr 1 0, (B6 false), (I6 i)] ++ UU 10 ++ [(B6 (decide (a i > b i)))], [⟨[(I6 (a 0)), (I6 (a 1)), (I6 (a 2)), (I6 (a 3)), (I6 (a 4)), (I6 (a 5)), (I6 (a 6)), (I6 (a 7)), (I6 (a 8)), (I6 (a 9)), (I6 (a 10)), (I6 (a 11)), (I6 (a 12))], 1, .fresh⟩, ⟨[(I6 (b 0)), (I6 (b 1)), (I6 (b 2)), (I6 (b 3)), (I6 (b 4)), (I6 (b 5)), (I6 (b 6)), (I6 (b 7)), (I6 (b 8)), (I6 (b 9)), (I6 (b 10)), (I6 (b 11)), (I6 (b 12))], 1, .fresh⟩]⟩ ?_
    refine CN (decide (a i > b i)) (fun h2 => ?_) (fun h2 => ?_)
    · have h2' := of_decide_eq_true h2
      refine SQ (RT 1 ?_)
      refine AWP.ret ?_
      refine FI (B6 false) ?_
      refine Shrink.all ?_ rfl
      (exact dec_no (fun h => by have := h i (by omega); omega); done)
    · have h2' := of_decide_eq_false h2
      refine AWP.skip (AWP.reg ?_)
      refine DerQ.run (TT 3) ⟨[U6, U6, .ptr 0 0, .ptr 1 0, (B6 false), (I6 (IntKind.wrap IntKind.i64 ((↑i : Int) + 1))), U6, U6, (I6 i), (I6 (IntKind.wrap IntKind.i64 ((↑i : Int) + 1)))] ++ UU 6 ++ [(B6 (decide (a i > b i)))], [⟨[(I6 (a 0)), (I6 (a 1)), (I6 (a 2)), (I6 (a 3)), (I6 (a 4)), (I6 (a 5)), (I6 (a 6)), (I6 (a 7)), (I6 (a 8)), (I6 (a 9)), (I6 (a 10)), (I6 (a 11)), (I6 (a 12))], 1, .fresh⟩, ⟨[(I6 (b 0)), (I6 (b 1)), (I6 (b 2)), (I6 (b 3)), (I6 (b 4)), (I6 (b 5)), (I6 (b 6)), (I6 (b 7)), (I6 (b 8)), (I6 (b 9)), (I6 (b 10)), (I6 (b 11)), (I6 (b 12))], 1, .fresh⟩]⟩ (by kernel_rfl) (tt 3) ?_
      rw [IntWalk.i64_in ((↑i : Int) + 1) (by omega)]
      (exact ⟨_, by omega, i + 1, rfl, by omega, succ_all hd (by omega), by kernel_rfl⟩; done)
  · have h1' := of_decide_eq_false h1
    refine AWP.exit ?_
    refine AWP.seq (KL [2, 3, 5, 7] ⟨[U6, U6, U6, U6, (B6 false)] ++ UU 12, [⟨[(I6 (a 0)), (I6 (a 1)), (I6 (a 2)), (I6 (a 3)), (I6 (a 4)), (I6 (a 5)), (I6 (a 6)), (I6 (a 7)), (I6 (a 8)), (I6 (a 9)), (I6 (a 10)), (I6 (a 11)), (I6 (a 12))], 1, .fresh⟩, ⟨[(I6 (b 0)), (I6 (b 1)), (I6 (b 2)), (I6 (b 3)), (I6 (b 4)), (I6 (b 5)), (I6 (b 6)), (I6 (b 7)), (I6 (b 8)), (I6 (b 9)), (I6 (b 10)), (I6 (b 11)), (I6 (b 12))], 1, .fresh⟩]⟩ ?_)
    refine AWP.reg (RT 1 ?_)
    refine AWP.ret ?_
    refine FI (B6 true) ?_
    refine Shrink.all ?_ rfl
    (exact dec_yes (fun j hj => hd j (by omega)); done)
def mxV (a b : Vv) : Vv := fun j => if b j > a j then b j else a j
def jn (a b : Vv) (i : Nat) : Vv := fun j => if j < i then mxV a b j else a j
theorem jn_at (a b : Vv) (i : Nat) : jn a b i i = a i := by unfold jn; rw [if_neg (Nat.lt_irrefl _)]
theorem jn_store (a b : Vv) (i : Nat) (h : i < 13) : spliceA [AVal.sc (.int .i64 ((jn a b i) 0)), AVal.sc (.int .i64 ((jn a b i) 1)), AVal.sc (.int .i64 ((jn a b i) 2)), AVal.sc (.int .i64 ((jn a b i) 3)), AVal.sc (.int .i64 ((jn a b i) 4)), AVal.sc (.int .i64 ((jn a b i) 5)), AVal.sc (.int .i64 ((jn a b i) 6)), AVal.sc (.int .i64 ((jn a b i) 7)), AVal.sc (.int .i64 ((jn a b i) 8)), AVal.sc (.int .i64 ((jn a b i) 9)), AVal.sc (.int .i64 ((jn a b i) 10)), AVal.sc (.int .i64 ((jn a b i) 11)), AVal.sc (.int .i64 ((jn a b i) 12))] i [AVal.sc (.int .i64 (if b i > jn a b i i then b i else jn a b i i))] = [AVal.sc (.int .i64 ((jn a b (i + 1)) 0)), AVal.sc (.int .i64 ((jn a b (i + 1)) 1)), AVal.sc (.int .i64 ((jn a b (i + 1)) 2)), AVal.sc (.int .i64 ((jn a b (i + 1)) 3)), AVal.sc (.int .i64 ((jn a b (i + 1)) 4)), AVal.sc (.int .i64 ((jn a b (i + 1)) 5)), AVal.sc (.int .i64 ((jn a b (i + 1)) 6)), AVal.sc (.int .i64 ((jn a b (i + 1)) 7)), AVal.sc (.int .i64 ((jn a b (i + 1)) 8)), AVal.sc (.int .i64 ((jn a b (i + 1)) 9)), AVal.sc (.int .i64 ((jn a b (i + 1)) 10)), AVal.sc (.int .i64 ((jn a b (i + 1)) 11)), AVal.sc (.int .i64 ((jn a b (i + 1)) 12))] := by
  have e := vce_store (jn a b i) (i : Int) (if b i > jn a b i i then b i else jn a b i i) (by omega)
  rw [Int.toNat_natCast] at e
  rw [e]
  have e2 : updV (jn a b i) (i : Int) (if b i > jn a b i i then b i else jn a b i i) = jn a b (i + 1) := by
    rw [jn_at]
    funext j
    unfold updV jn
    rw [Int.toNat_natCast]
    by_cases hj : j = i
    · subst hj; rw [if_pos rfl, if_pos (Nat.lt_succ_self _)]; rfl
    · rw [if_neg hj]
      by_cases h1 : j < i
      · rw [if_pos h1, if_pos (by omega)]
      · rw [if_neg h1, if_neg (by omega)]
  rw [e2]
theorem v_join (a b : Vv) : EvD Try.prog 110 [.agg (vce a), .agg (vce b)] (.agg (vce (mxV a b))) := by
  refine EvD.body Try.func110 rfl (by simp [vce, txe, dataAll, AVal.data]) (by simp [vce, txe, dataAll, AVal.data]) ?_
  refine AWP.seq ?_
  refine TO ⟨[.agg [(I6 (a 0)), (I6 (a 1)), (I6 (a 2)), (I6 (a 3)), (I6 (a 4)), (I6 (a 5)), (I6 (a 6)), (I6 (a 7)), (I6 (a 8)), (I6 (a 9)), (I6 (a 10)), (I6 (a 11)), (I6 (a 12))], .agg [(I6 (b 0)), (I6 (b 1)), (I6 (b 2)), (I6 (b 3)), (I6 (b 4)), (I6 (b 5)), (I6 (b 6)), (I6 (b 7)), (I6 (b 8)), (I6 (b 9)), (I6 (b 10)), (I6 (b 11)), (I6 (b 12))]] ++ UU 18, []⟩ ?_
  refine AWP.reg (RT 3 ?_)
  refine AWP.seq (AWP.seq (KL [0, 1] ⟨[U6, U6, .ptr 0 0, .ptr 1 0, .ptr 2 0] ++ UU 15, [⟨[(I6 (a 0)), (I6 (a 1)), (I6 (a 2)), (I6 (a 3)), (I6 (a 4)), (I6 (a 5)), (I6 (a 6)), (I6 (a 7)), (I6 (a 8)), (I6 (a 9)), (I6 (a 10)), (I6 (a 11)), (I6 (a 12))], 1, .fresh⟩, ⟨[(I6 (b 0)), (I6 (b 1)), (I6 (b 2)), (I6 (b 3)), (I6 (b 4)), (I6 (b 5)), (I6 (b 6)), (I6 (b 7)), (I6 (b 8)), (I6 (b 9)), (I6 (b 10)), (I6 (b 11)), (I6 (b 12))], 1, .fresh⟩, ⟨[(I6 0), (I6 0), (I6 0), (I6 0), (I6 0), (I6 0), (I6 0), (I6 0), (I6 0), (I6 0), (I6 0), (I6 0), (I6 0)], 1, .fresh⟩]⟩ ?_))
  refine AWP.reg (RT 1 ?_)
  refine AWP.block ?_
  refine TO ⟨[U6, U6, .ptr 0 0, .ptr 1 0, .ptr 2 0, U6, (I6 0)] ++ UU 13, [⟨[(I6 (a 0)), (I6 (a 1)), (I6 (a 2)), (I6 (a 3)), (I6 (a 4)), (I6 (a 5)), (I6 (a 6)), (I6 (a 7)), (I6 (a 8)), (I6 (a 9)), (I6 (a 10)), (I6 (a 11)), (I6 (a 12))], 1, .fresh⟩, ⟨[(I6 (b 0)), (I6 (b 1)), (I6 (b 2)), (I6 (b 3)), (I6 (b 4)), (I6 (b 5)), (I6 (b 6)), (I6 (b 7)), (I6 (b 8)), (I6 (b 9)), (I6 (b 10)), (I6 (b 11)), (I6 (b 12))], 1, .fresh⟩, ⟨[(I6 0), (I6 0), (I6 0), (I6 0), (I6 0), (I6 0), (I6 0), (I6 0), (I6 0), (I6 0), (I6 0), (I6 0), (I6 0)], 1, .fresh⟩]⟩ ?_
  refine AWP.loopM [false, false, true, true, true, false, true, false, false, false, false, false, false, false, false, false, false, false, false, false] (fun kk st => ∃ (i : Nat), kk = 13 - i ∧ i ≤ 13 ∧ st = ⟨[U6, U6, .ptr 0 0, .ptr 1 0, .ptr 2 0, U6, AVal.sc (.int .i64 (i : Int)), U6, U6, U6, U6, U6, U6, U6, U6, U6, U6, U6, U6, .undef], [⟨vce (jn a b i), 1, .fresh⟩, ⟨[(I6 (b 0)), (I6 (b 1)), (I6 (b 2)), (I6 (b 3)), (I6 (b 4)), (I6 (b 5)), (I6 (b 6)), (I6 (b 7)), (I6 (b 8)), (I6 (b 9)), (I6 (b 10)), (I6 (b 11)), (I6 (b 12))], 1, .fresh⟩, ⟨[(I6 0), (I6 0), (I6 0), (I6 0), (I6 0), (I6 0), (I6 0), (I6 0), (I6 0), (I6 0), (I6 0), (I6 0), (I6 0)], 1, .fresh⟩]⟩) _ ⟨0, rfl, by omega, by kernel_rfl⟩ ?_
  rintro kk s ⟨i, rfl, hi, rfl⟩
  refine SQ (RT 1 ?_)
  refine AWP.seq ?_
  refine TO ⟨[U6, U6, .ptr 0 0, .ptr 1 0, .ptr 2 0, U6, (I6 i), (B6 (decide ((↑i : Int) < 13)))] ++ UU 12, [⟨[(I6 (jn a b i 0)), (I6 (jn a b i 1)), (I6 (jn a b i 2)), (I6 (jn a b i 3)), (I6 (jn a b i 4)), (I6 (jn a b i 5)), (I6 (jn a b i 6)), (I6 (jn a b i 7)), (I6 (jn a b i 8)), (I6 (jn a b i 9)), (I6 (jn a b i 10)), (I6 (jn a b i 11)), (I6 (jn a b i 12))], 1, .fresh⟩, ⟨[(I6 (b 0)), (I6 (b 1)), (I6 (b 2)), (I6 (b 3)), (I6 (b 4)), (I6 (b 5)), (I6 (b 6)), (I6 (b 7)), (I6 (b 8)), (I6 (b 9)), (I6 (b 10)), (I6 (b 11)), (I6 (b 12))], 1, .fresh⟩, ⟨[(I6 0), (I6 0), (I6 0), (I6 0), (I6 0), (I6 0), (I6 0), (I6 0), (I6 0), (I6 0), (I6 0), (I6 0), (I6 0)], 1, .fresh⟩]⟩ ?_
  refine CN (decide ((↑i : Int) < 13)) (fun h1 => ?_) (fun h1 => ?_)
  · have h1' := of_decide_eq_true h1
    refine AWP.skip (AWP.seq (AWP.block (SQ (RT 2 ?_))))
    refine KL [7, 8] ⟨[U6, U6, .ptr 0 0, .ptr 1 0, .ptr 2 0, (I6 i), (I6 i)] ++ UU 13, [⟨[(I6 (jn a b i 0)), (I6 (jn a b i 1)), (I6 (jn a b i 2)), (I6 (jn a b i 3)), (I6 (jn a b i 4)), (I6 (jn a b i 5)), (I6 (jn a b i 6)), (I6 (jn a b i 7)), (I6 (jn a b i 8)), (I6 (jn a b i 9)), (I6 (jn a b i 10)), (I6 (jn a b i 11)), (I6 (jn a b i 12))], 1, .fresh⟩, ⟨[(I6 (b 0)), (I6 (b 1)), (I6 (b 2)), (I6 (b 3)), (I6 (b 4)), (I6 (b 5)), (I6 (b 6)), (I6 (b 7)), (I6 (b 8)), (I6 (b 9)), (I6 (b 10)), (I6 (b 11)), (I6 (b 12))], 1, .fresh⟩, ⟨[(I6 0), (I6 0), (I6 0), (I6 0), (I6 0), (I6 0), (I6 0), (I6 0), (I6 0), (I6 0), (I6 0), (I6 0), (I6 0)], 1, .fresh⟩]⟩ ?_
    refine AWP.drawB mixed (fun o => if [].contains (o.dst.getD 0) then 1 else if [].contains (o.dst.getD 0) then 2 else if [0, 12].contains (o.dst.getD 0) then 3 else 0) 0 3 (fun x => [⟨x 0, 1, .fresh⟩, ⟨[(I6 (b 0)), (I6 (b 1)), (I6 (b 2)), (I6 (b 3)), (I6 (b 4)), (I6 (b 5)), (I6 (b 6)), (I6 (b 7)), (I6 (b 8)), (I6 (b 9)), (I6 (b 10)), (I6 (b 11)), (I6 (b 12))], 1, .fresh⟩, ⟨[(I6 0), (I6 0), (I6 0), (I6 0), (I6 0), (I6 0), (I6 0), (I6 0), (I6 0), (I6 0), (I6 0), (I6 0), (I6 0)], 1, .fresh⟩]) ⟨[U6, U6, .ptr 0 0, .ptr 1 0, .ptr 2 0, (I6 i), (I6 i)] ++ UU 13, [⟨[(I6 (jn a b i 0)), (I6 (jn a b i 1)), (I6 (jn a b i 2)), (I6 (jn a b i 3)), (I6 (jn a b i 4)), (I6 (jn a b i 5)), (I6 (jn a b i 6)), (I6 (jn a b i 7)), (I6 (jn a b i 8)), (I6 (jn a b i 9)), (I6 (jn a b i 10)), (I6 (jn a b i 11)), (I6 (jn a b i 12))], 1, .fresh⟩, ⟨[(I6 (b 0)), (I6 (b 1)), (I6 (b 2)), (I6 (b 3)), (I6 (b 4)), (I6 (b 5)), (I6 (b 6)), (I6 (b 7)), (I6 (b 8)), (I6 (b 9)), (I6 (b 10)), (I6 (b 11)), (I6 (b 12))], 1, .fresh⟩, ⟨[(I6 0), (I6 0), (I6 0), (I6 0), (I6 0), (I6 0), (I6 0), (I6 0), (I6 0), (I6 0), (I6 0), (I6 0), (I6 0)], 1, .fresh⟩]⟩ (by kernel_rfl) ⟨by kernel_rfl, by kernel_rfl⟩ (by kernel_rfl) ?_
    refine DerZ.pre 3 ((True) ∧ ((True) ∧ (((0 ≤ (↑i : Int)) ∧ ((↑i : Int) < 13)) ∧ (True)))) [(I6 i), (I6 i), .ptr 0 (0 + Int.toNat i * 1)] ⟨[U6, U6, .ptr 0 0, .ptr 1 0, .ptr 2 0, (I6 i), (I6 i), U6, U6, (I6 i), (I6 i), .ptr 0 (0 + Int.toNat i * 1)] ++ UU 8, [⟨[(I6 (jn a b i 0)), (I6 (jn a b i 1)), (I6 (jn a b i 2)), (I6 (jn a b i 3)), (I6 (jn a b i 4)), (I6 (jn a b i 5)), (I6 (jn a b i 6)), (I6 (jn a b i 7)), (I6 (jn a b i 8)), (I6 (jn a b i 9)), (I6 (jn a b i 10)), (I6 (jn a b i 11)), (I6 (jn a b i 12))], 1, .fresh⟩, ⟨[(I6 (b 0)), (I6 (b 1)), (I6 (b 2)), (I6 (b 3)), (I6 (b 4)), (I6 (b 5)), (I6 (b 6)), (I6 (b 7)), (I6 (b 8)), (I6 (b 9)), (I6 (b 10)), (I6 (b 11)), (I6 (b 12))], 1, .fresh⟩, ⟨[(I6 0), (I6 0), (I6 0), (I6 0), (I6 0), (I6 0), (I6 0), (I6 0), (I6 0), (I6 0), (I6 0), (I6 0), (I6 0)], 1, .fresh⟩]⟩ (by intro x ext; kernel_rfl) (by kernel_rfl) ⟨trivial, ⟨trivial, ⟨⟨(by omega), (by omega)⟩, trivial⟩⟩⟩ ?_
    rw [Int.toNat_natCast (i)]
    rw [Nat.mul_one (i)]
    rw [Nat.zero_add (i)]
    refine DerZ.eff 3 (i < 13) (List.getD [(I6 (jn a b i 0)), (I6 (jn a b i 1)), (I6 (jn a b i 2)), (I6 (jn a b i 3)), (I6 (jn a b i 4)), (I6 (jn a b i 5)), (I6 (jn a b i 6)), (I6 (jn a b i 7)), (I6 (jn a b i 8)), (I6 (jn a b i 9)), (I6 (jn a b i 10)), (I6 (jn a b i 11)), (I6 (jn a b i 12))] i AVal.undef) [⟨[(I6 (jn a b i 0)), (I6 (jn a b i 1)), (I6 (jn a b i 2)), (I6 (jn a b i 3)), (I6 (jn a b i 4)), (I6 (jn a b i 5)), (I6 (jn a b i 6)), (I6 (jn a b i 7)), (I6 (jn a b i 8)), (I6 (jn a b i 9)), (I6 (jn a b i 10)), (I6 (jn a b i 11)), (I6 (jn a b i 12))], 1, .fresh⟩, ⟨[(I6 (b 0)), (I6 (b 1)), (I6 (b 2)), (I6 (b 3)), (I6 (b 4)), (I6 (b 5)), (I6 (b 6)), (I6 (b 7)), (I6 (b 8)), (I6 (b 9)), (I6 (b 10)), (I6 (b 11)), (I6 (b 12))], 1, .fresh⟩, ⟨[(I6 0), (I6 0), (I6 0), (I6 0), (I6 0), (I6 0), (I6 0), (I6 0), (I6 0), (I6 0), (I6 0), (I6 0), (I6 0)], 1, .fresh⟩] ⟨[U6, U6, .ptr 0 0, .ptr 1 0, .ptr 2 0, (I6 i), (I6 i), U6, U6, (I6 i), (I6 i), .ptr 0 (i), List.getD [(I6 (jn a b i 0)), (I6 (jn a b i 1)), (I6 (jn a b i 2)), (I6 (jn a b i 3)), (I6 (jn a b i 4)), (I6 (jn a b i 5)), (I6 (jn a b i 6)), (I6 (jn a b i 7)), (I6 (jn a b i 8)), (I6 (jn a b i 9)), (I6 (jn a b i 10)), (I6 (jn a b i 11)), (I6 (jn a b i 12))] i AVal.undef] ++ UU 7, [⟨[(I6 (jn a b i 0)), (I6 (jn a b i 1)), (I6 (jn a b i 2)), (I6 (jn a b i 3)), (I6 (jn a b i 4)), (I6 (jn a b i 5)), (I6 (jn a b i 6)), (I6 (jn a b i 7)), (I6 (jn a b i 8)), (I6 (jn a b i 9)), (I6 (jn a b i 10)), (I6 (jn a b i 11)), (I6 (jn a b i 12))], 1, .fresh⟩, ⟨[(I6 (b 0)), (I6 (b 1)), (I6 (b 2)), (I6 (b 3)), (I6 (b 4)), (I6 (b 5)), (I6 (b 6)), (I6 (b 7)), (I6 (b 8)), (I6 (b 9)), (I6 (b 10)), (I6 (b 11)), (I6 (b 12))], 1, .fresh⟩, ⟨[(I6 0), (I6 0), (I6 0), (I6 0), (I6 0), (I6 0), (I6 0), (I6 0), (I6 0), (I6 0), (I6 0), (I6 0), (I6 0)], 1, .fresh⟩]⟩ (by kernel_rfl) ⟨⟨by kernel_rfl, by kernel_rfl⟩, by kernel_rfl, by kernel_rfl⟩ (by omega) ?_
    rw [Go.Ord.vce_get (jn a b i) (i) (by omega)]
    refine DerZ.pre 3 ((True) ∧ (((0 ≤ (↑i : Int)) ∧ ((↑i : Int) < 13)) ∧ ((0 + Int.toNat i * 1 < 13) ∧ (True)))) [(I6 i), .ptr 1 (0 + Int.toNat i * 1), List.getD [(I6 (b 0)), (I6 (b 1)), (I6 (b 2)), (I6 (b 3)), (I6 (b 4)), (I6 (b 5)), (I6 (b 6)), (I6 (b 7)), (I6 (b 8)), (I6 (b 9)), (I6 (b 10)), (I6 (b 11)), (I6 (b 12))] (0 + Int.toNat i * 1) AVal.undef] ⟨[U6, U6, .ptr 0 0, .ptr 1 0, .ptr 2 0, (I6 i), (I6 i), U6, U6, (I6 i), (I6 i), .ptr 0 (i), (I6 (jn a b i i)), (I6 i), .ptr 1 (0 + Int.toNat i * 1), List.getD [(I6 (b 0)), (I6 (b 1)), (I6 (b 2)), (I6 (b 3)), (I6 (b 4)), (I6 (b 5)), (I6 (b 6)), (I6 (b 7)), (I6 (b 8)), (I6 (b 9)), (I6 (b 10)), (I6 (b 11)), (I6 (b 12))] (0 + Int.toNat i * 1) U6, U6, U6, U6, .undef], [⟨[(I6 (jn a b i 0)), (I6 (jn a b i 1)), (I6 (jn a b i 2)), (I6 (jn a b i 3)), (I6 (jn a b i 4)), (I6 (jn a b i 5)), (I6 (jn a b i 6)), (I6 (jn a b i 7)), (I6 (jn a b i 8)), (I6 (jn a b i 9)), (I6 (jn a b i 10)), (I6 (jn a b i 11)), (I6 (jn a b i 12))], 1, .fresh⟩, ⟨[(I6 (b 0)), (I6 (b 1)), (I6 (b 2)), (I6 (b 3)), (I6 (b 4)), (I6 (b 5)), (I6 (b 6)), (I6 (b 7)), (I6 (b 8)), (I6 (b 9)), (I6 (b 10)), (I6 (b 11)), (I6 (b 12))], 1, .fresh⟩, ⟨[(I6 0), (I6 0), (I6 0), (I6 0), (I6 0), (I6 0), (I6 0), (I6 0), (I6 0), (I6 0), (I6 0), (I6 0), (I6 0)], 1, .fresh⟩]⟩ (by intro x ext; kernel_rfl) (by kernel_rfl) ⟨trivial, ⟨⟨(by omega), (by omega)⟩, ⟨(by omega), trivial⟩⟩⟩ ?_
    rw [Int.toNat_natCast (i)]
    rw [Nat.mul_one (i)]
    rw [Nat.zero_add (i)]
    rw [Go.Ord.vce_get (b) (i) (by omega)]
    refine DerZ.pre 2 ((True) ∧ (((0 ≤ (↑i : Int)) ∧ ((↑i : Int) < 13)) ∧ (True))) [(I6 (if b i > jn a b i i then b i else jn a b i i)), .ptr 0 (0 + Int.toNat i * 1)] ⟨[U6, U6, .ptr 0 0, .ptr 1 0, .ptr 2 0, (I6 i), (I6 i), U6, U6, (I6 i), (I6 i), .ptr 0 (i), (I6 (jn a b i i)), (I6 i), .ptr 1 (i), (I6 (b i)), (I6 (if b i > jn a b i i then b i else jn a b i i)), .ptr 0 (0 + Int.toNat i * 1), U6, .undef], [⟨[(I6 (jn a b i 0)), (I6 (jn a b i 1)), (I6 (jn a b i 2)), (I6 (jn a b i 3)), (I6 (jn a b i 4)), (I6 (jn a b i 5)), (I6 (jn a b i 6)), (I6 (jn a b i 7)), (I6 (jn a b i 8)), (I6 (jn a b i 9)), (I6 (jn a b i 10)), (I6 (jn a b i 11)), (I6 (jn a b i 12))], 1, .fresh⟩, ⟨[(I6 (b 0)), (I6 (b 1)), (I6 (b 2)), (I6 (b 3)), (I6 (b 4)), (I6 (b 5)), (I6 (b 6)), (I6 (b 7)), (I6 (b 8)), (I6 (b 9)), (I6 (b 10)), (I6 (b 11)), (I6 (b 12))], 1, .fresh⟩, ⟨[(I6 0), (I6 0), (I6 0), (I6 0), (I6 0), (I6 0), (I6 0), (I6 0), (I6 0), (I6 0), (I6 0), (I6 0), (I6 0)], 1, .fresh⟩]⟩ (by intro x ext; kernel_rfl) (by kernel_rfl) ⟨trivial, ⟨⟨(by omega), (by omega)⟩, trivial⟩⟩ ?_
    rw [Int.toNat_natCast (i)]
    rw [Nat.mul_one (i)]
    rw [Nat.zero_add (i)]
    refine DerZ.eff 3 (i + 1 ≤ 13) (.tup []) [⟨spliceA [(I6 (jn a b i 0)), (I6 (jn a b i 1)), (I6 (jn a b i 2)), (I6 (jn a b i 3)), (I6 (jn a b i 4)), (I6 (jn a b i 5)), (I6 (jn a b i 6)), (I6 (jn a b i 7)), (I6 (jn a b i 8)), (I6 (jn a b i 9)), (I6 (jn a b i 10)), (I6 (jn a b i 11)), (I6 (jn a b i 12))] i [(I6 (if b i > jn a b i i then b i else jn a b i i))], 1, .fresh⟩, ⟨[(I6 (b 0)), (I6 (b 1)), (I6 (b 2)), (I6 (b 3)), (I6 (b 4)), (I6 (b 5)), (I6 (b 6)), (I6 (b 7)), (I6 (b 8)), (I6 (b 9)), (I6 (b 10)), (I6 (b 11)), (I6 (b 12))], 1, .fresh⟩, ⟨[(I6 0), (I6 0), (I6 0), (I6 0), (I6 0), (I6 0), (I6 0), (I6 0), (I6 0), (I6 0), (I6 0), (I6 0), (I6 0)], 1, .fresh⟩] ⟨[U6, U6, .ptr 0 0, .ptr 1 0, .ptr 2 0, (I6 i), (I6 i), U6, U6, (I6 i), (I6 i), .ptr 0 (i), (I6 (jn a b i i)), (I6 i), .ptr 1 (i), (I6 (b i)), (I6 (if b i > jn a b i i then b i else jn a b i i)), .ptr 0 (i), U6, .undef], [⟨spliceA [(I6 (jn a b i 0)), (I6 (jn a b i 1)), (I6 (jn a b i 2)), (I6 (jn a b i 3)), (I6 (jn a b i 4)), (I6 (jn a b i 5)), (I6 (jn a b i 6)), (I6 (jn a b i 7)), (I6 (jn a b i 8)), (I6 (jn a b i 9)), (I6 (jn a b i 10)), (I6 (jn a b i 11)), (I6 (jn a b i 12))] i [(I6 (if b i > jn a b i i then b i else jn a b i i))], 1, .fresh⟩, ⟨[(I6 (b 0)), (I6 (b 1)), (I6 (b 2)), (I6 (b 3)), (I6 (b 4)), (I6 (b 5)), (I6 (b 6)), (I6 (b 7)), (I6 (b 8)), (I6 (b 9)), (I6 (b 10)), (I6 (b 11)), (I6 (b 12))], 1, .fresh⟩, ⟨[(I6 0), (I6 0), (I6 0), (I6 0), (I6 0), (I6 0), (I6 0), (I6 0), (I6 0), (I6 0), (I6 0), (I6 0), (I6 0)], 1, .fresh⟩]⟩ (by kernel_rfl) ⟨⟨by kernel_rfl, by kernel_rfl⟩, by kernel_rfl, by kernel_rfl⟩ (by omega) ?_
    rw [Go.Ord.jn_store (a) (b) (i) (by omega)]
    refine DerZ.nil ?_
    refine KL ([5] ++ NN 9 9) ⟨[U6, U6, .ptr 0 0, .ptr 1 0, .ptr 2 0, U6, (I6 i)] ++ UU 13, [⟨[(I6 (jn a b (i + 1) 0)), (I6 (jn a b (i + 1) 1)), (I6 (jn a b (i + 1) 2)), (I6 (jn a b (i + 1) 3)), (I6 (jn a b (i + 1) 4)), (I6 (jn a b (i + 1) 5)), (I6 (jn a b (i + 1) 6)), (I6 (jn a b (i + 1) 7)), (I6 (jn a b (i + 1) 8)), (I6 (jn a b (i + 1) 9)), (I6 (jn a b (i + 1) 10)), (I6 (jn a b (i + 1) 11)), (I6 (jn a b (i + 1) 12))], 1, .fresh⟩, ⟨[(I6 (b 0)), (I6 (b 1)), (I6 (b 2)), (I6 (b 3)), (I6 (b 4)), (I6 (b 5)), (I6 (b 6)), (I6 (b 7)), (I6 (b 8)), (I6 (b 9)), (I6 (b 10)), (I6 (b 11)), (I6 (b 12))], 1, .fresh⟩, ⟨[(I6 0), (I6 0), (I6 0), (I6 0), (I6 0), (I6 0), (I6 0), (I6 0), (I6 0), (I6 0), (I6 0), (I6 0), (I6 0)], 1, .fresh⟩]⟩ ?_
    refine AWP.reg ?_
    refine DerQ.run (TT 2) ⟨[U6, U6, .ptr 0 0, .ptr 1 0, .ptr 2 0, U6, (I6 (IntKind.wrap IntKind.i64 ((↑i : Int) + 1)))] ++ UU 11 ++ [(I6 (IntKind.wrap IntKind.i64 ((↑i : Int) + 1))), .undef], [⟨[(I6 (jn a b (i + 1) 0)), (I6 (jn a b (i + 1) 1)), (I6 (jn a b (i + 1) 2)), (I6 (jn a b (i + 1) 3)), (I6 (jn a b (i + 1) 4)), (I6 (jn a b (i + 1) 5)), (I6 (jn a b (i + 1) 6)), (I6 (jn a b (i + 1) 7)), (I6 (jn a b (i + 1) 8)), (I6 (jn a b (i + 1) 9)), (I6 (jn a b (i + 1) 10)), (I6 (jn a b (i + 1) 11)), (I6 (jn a b (i + 1) 12))], 1, .fresh⟩, ⟨[(I6 (b 0)), (I6 (b 1)), (I6 (b 2)), (I6 (b 3)), (I6 (b 4)), (I6 (b 5)), (I6 (b 6)), (I6 (b 7)), (I6 (b 8)), (I6 (b 9)), (I6 (b 10)), (I6 (b 11)), (I6 (b 12))], 1, .fresh⟩, ⟨[(I6 0), (I6 0), (I6 0), (I6 0), (I6 0), (I6 0), (I6 0), (I6 0), (I6 0), (I6 0), (I6 0), (I6 0), (I6 0)], 1, .fresh⟩]⟩ (by kernel_rfl) (tt 2) ?_
    rw [IntWalk.i64_in ((↑i : Int) + 1) (by omega)]
    (exact ⟨_, by omega, i + 1, rfl, by omega, by kernel_rfl⟩; done)
  · have h1' := of_decide_eq_false h1
    refine AWP.exit ?_
    refine SQ (RI (13 ≤ 13 ∧ 13 ≤ 13 ∧ True) ⟨(by omega), (by omega), trivial⟩ ?_)
    refine AWP.ret ?_
    refine FI (.agg [(I6 (jn a b i 0)), (I6 (jn a b i 1)), (I6 (jn a b i 2)), (I6 (jn a b i 3)), (I6 (jn a b i 4)), (I6 (jn a b i 5)), (I6 (jn a b i 6)), (I6 (jn a b i 7)), (I6 (jn a b i 8)), (I6 (jn a b i 9)), (I6 (jn a b i 10)), (I6 (jn a b i 11)), (I6 (jn a b i 12))]) ?_
    refine Shrink.all ?_ rfl
    (((obtain rfl : i = 13 := by omega); rfl); done)
theorem mx_eq (a b : Vv) (j : Nat) : mxV a b j = b j ↔ a j ≤ b j := by unfold mxV; split <;> omega
theorem leq_bool (a b : Vv) : (mxV a b 0 == b 0 && (mxV a b 1 == b 1 && (mxV a b 2 == b 2 && (mxV a b 3 == b 3 && (mxV a b 4 == b 4 && (mxV a b 5 == b 5 && (mxV a b 6 == b 6 && (mxV a b 7 == b 7 && (mxV a b 8 == b 8 && (mxV a b 9 == b 9 && (mxV a b 10 == b 10 && (mxV a b 11 == b 11 && (mxV a b 12 == b 12))))))))))))) = decide (leqP a b) := by
  rw [Bool.eq_iff_iff, decide_eq_true_iff]
  simp only [Bool.and_eq_true, beq_iff_eq, mx_eq]
  constructor
  · rintro ⟨h0, h1, h2, h3, h4, h5, h6, h7, h8, h9, h10, h11, h12⟩ j hj
    rcases j with _ | _ | _ | _ | _ | _ | _ | _ | _ | _ | _ | _ | _ | j
    · exact h0
    · exact h1
    · exact h2
    · exact h3
    · exact h4
    · exact h5
    · exact h6
    · exact h7
    · exact h8
    · exact h9
    · exact h10
    · exact h11
    · exact h12
    · omega
  · intro h
    exact ⟨h 0 (by omega), h 1 (by omega), h 2 (by omega), h 3 (by omega), h 4 (by omega), h 5 (by omega), h 6 (by omega), h 7 (by omega), h 8 (by omega), h 9 (by omega), h 10 (by omega), h 11 (by omega), h 12 (by omega)⟩
theorem v_leq (a b : Vv) : EvD Try.prog 91 [.agg (vce a), .agg (vce b)] (.sc (.bool (decide (leqP a b)))) := by
  refine EvD.body Try.func91 rfl (by simp [vce, txe, dataAll, AVal.data]) (by simp [vce, txe, dataAll, AVal.data]) ?_
  refine AWP.seq ?_
  refine TO ⟨[.agg [(I6 (a 0)), (I6 (a 1)), (I6 (a 2)), (I6 (a 3)), (I6 (a 4)), (I6 (a 5)), (I6 (a 6)), (I6 (a 7)), (I6 (a 8)), (I6 (a 9)), (I6 (a 10)), (I6 (a 11)), (I6 (a 12))], .agg [(I6 (b 0)), (I6 (b 1)), (I6 (b 2)), (I6 (b 3)), (I6 (b 4)), (I6 (b 5)), (I6 (b 6)), (I6 (b 7)), (I6 (b 8)), (I6 (b 9)), (I6 (b 10)), (I6 (b 11)), (I6 (b 12))]] ++ UU 8, []⟩ ?_
  refine AWP.reg (RT 3 ?_)
  refine AWP.seq (KL [0, 1] ⟨[U6, U6, .ptr 0 0, .ptr 1 0, (B6 false)] ++ UU 5, [⟨[(I6 (a 0)), (I6 (a 1)), (I6 (a 2)), (I6 (a 3)), (I6 (a 4)), (I6 (a 5)), (I6 (a 6)), (I6 (a 7)), (I6 (a 8)), (I6 (a 9)), (I6 (a 10)), (I6 (a 11)), (I6 (a 12))], 1, .fresh⟩, ⟨[(I6 (b 0)), (I6 (b 1)), (I6 (b 2)), (I6 (b 3)), (I6 (b 4)), (I6 (b 5)), (I6 (b 6)), (I6 (b 7)), (I6 (b 8)), (I6 (b 9)), (I6 (b 10)), (I6 (b 11)), (I6 (b 12))], 1, .fresh⟩]⟩ ?_)
  refine AWP.drawX mixed (fun o => [7].contains (o.dst.getD 0)) (by kernel_rfl) ?_
  refine DerX.preI 2 (((13 : Nat) ≤ (13 : Nat)) ∧ (((13 : Nat) ≤ (13 : Nat)) ∧ (True))) (by intro ext; kernel_rfl) ⟨(by omega), ⟨(by omega), trivial⟩⟩ ?_
  refine DerX.callDI (v_join a b) ⟨by kernel_rfl, by kernel_rfl⟩ ?_
  refine DerX.preI 3 (((13 : Nat) ≤ (13 : Nat)) ∧ (((((0 : Nat) < (13 : Nat)) ∧ (((0 : Nat) < (13 : Nat)) ∧ (True))) ∧ ((((1 : Nat) < (13 : Nat)) ∧ (((1 : Nat) < (13 : Nat)) ∧ (True))) ∧ ((((2 : Nat) < (13 : Nat)) ∧ (((2 : Nat) < (13 : Nat)) ∧ (True))) ∧ ((((3 : Nat) < (13 : Nat)) ∧ (((3 : Nat) < (13 : Nat)) ∧ (True))) ∧ ((((4 : Nat) < (13 : Nat)) ∧ (((4 : Nat) < (13 : Nat)) ∧ (True))) ∧ ((((5 : Nat) < (13 : Nat)) ∧ (((5 : Nat) < (13 : Nat)) ∧ (True))) ∧ ((((6 : Nat) < (13 : Nat)) ∧ (((6 : Nat) < (13 : Nat)) ∧ (True))) ∧ ((((7 : Nat) < (13 : Nat)) ∧ (((7 : Nat) < (13 : Nat)) ∧ (True))) ∧ ((((8 : Nat) < (13 : Nat)) ∧ (((8 : Nat) < (13 : Nat)) ∧ (True))) ∧ ((((9 : Nat) < (13 : Nat)) ∧ (((9 : Nat) < (13 : Nat)) ∧ (True))) ∧ ((((10 : Nat) < (13 : Nat)) ∧ (((10 : Nat) < (13 : Nat)) ∧ (True))) ∧ ((((11 : Nat) < (13 : Nat)) ∧ (((11 : Nat) < (13 : Nat)) ∧ (True))) ∧ (((12 : Nat) < (13 : Nat)) ∧ (((12 : Nat) < (13 : Nat)) ∧ (True))))))))))))))) ∧ ((True) ∧ (True)))) (by intro ext; kernel_rfl) ⟨(by omega), ⟨⟨⟨(by omega), ⟨(by omega), trivial⟩⟩, ⟨⟨(by omega), ⟨(by omega), trivial⟩⟩, ⟨⟨(by omega), ⟨(by omega), trivial⟩⟩, ⟨⟨(by omega), ⟨(by omega), trivial⟩⟩, ⟨⟨(by omega), ⟨(by omega), trivial⟩⟩, ⟨⟨(by omega), ⟨(by omega), trivial⟩⟩, ⟨⟨(by omega), ⟨(by omega), trivial⟩⟩, ⟨⟨(by omega), ⟨(by omega), trivial⟩⟩, ⟨⟨(by omega), ⟨(by omega), trivial⟩⟩, ⟨⟨(by omega), ⟨(by omega), trivial⟩⟩, ⟨⟨(by omega), ⟨(by omega), trivial⟩⟩, ⟨⟨(by omega), ⟨(by omega), trivial⟩⟩, ⟨(by omega), ⟨(by omega), trivial⟩⟩⟩⟩⟩⟩⟩⟩⟩⟩⟩⟩⟩⟩, ⟨trivial, trivial⟩⟩⟩ ?_
  refine DerX.nil ?_
  refine AWP.ret ?_
  refine FI (B6 (mxV a b 0 == b 0 && (mxV a b 1 == b 1 && (mxV a b 2 == b 2 && (mxV a b 3 == b 3 && (mxV a b 4 == b 4 && (mxV a b 5 == b 5 && (mxV a b 6 == b 6 && (mxV a b 7 == b 7 && (mxV a b 8 == b 8 && (mxV a b 9 == b 9 && (mxV a b 10 == b 10 && (mxV a b 11 == b 11 && mxV a b 12 == b 12))))))))))))) ?_
  refine Shrink.all ?_ rfl
  (rw [leq_bool]; done)
theorem compare2 (p s q t : Int) : EvD Try.prog 86 [.agg [AVal.sc (.int .i64 p), AVal.sc (.int .i64 s)], .agg [AVal.sc (.int .i64 q), AVal.sc (.int .i64 t)]] (AVal.sc (.int .i64 (or2 (cmpI p q) (cmpI s t)))) := by
  refine EvD.body Try.func86 rfl (by simp [vce, txe, dataAll, AVal.data]) (by simp [vce, txe, dataAll, AVal.data]) ?_
  refine AWP.seq ?_
  refine TO ⟨[.agg [(I6 p), (I6 s)], .agg [(I6 q), (I6 t)]] ++ UU 15, []⟩ ?_
  refine AWP.reg (RT 3 ?_)
  refine AWP.seq (KL [0, 1] ⟨[U6, U6, .ptr 0 0, .ptr 1 0, (I6 0)] ++ UU 12, [⟨[(I6 p), (I6 s)], 2, .fresh⟩, ⟨[(I6 q), (I6 t)], 2, .fresh⟩]⟩ ?_)
  refine AWP.drawX mixed (fun o => [15, 9, 14, 16].contains (o.dst.getD 0)) (by kernel_rfl) ?_
  refine DerX.preI 4 ((True) ∧ (((0 : Nat) < (2 : Nat)) ∧ ((True) ∧ (((0 : Nat) < (2 : Nat)) ∧ (True))))) (by intro ext; kernel_rfl) ⟨trivial, ⟨(by omega), ⟨trivial, ⟨(by omega), trivial⟩⟩⟩⟩ ?_
  refine DerX.callDI (compare p q) ⟨by kernel_rfl, by kernel_rfl⟩ ?_
  refine DerX.preI 4 ((True) ∧ (((1 : Nat) < (2 : Nat)) ∧ ((True) ∧ (((1 : Nat) < (2 : Nat)) ∧ (True))))) (by intro ext; kernel_rfl) ⟨trivial, ⟨(by omega), ⟨trivial, ⟨(by omega), trivial⟩⟩⟩⟩ ?_
  refine DerX.callDI (compare s t) ⟨by kernel_rfl, by kernel_rfl⟩ ?_
  refine DerX.quietI (True) (by intro ext; kernel_rfl) (by kernel_rfl) trivial ?_
  refine DerX.callEI (or_2 (cmpI p q) (cmpI s t)) ⟨by kernel_rfl, by kernel_rfl⟩ ?_
  refine DerX.quietI (True) (by intro ext; kernel_rfl) (by kernel_rfl) trivial ?_
  refine DerX.nil ?_
  refine AWP.ret FA
theorem o_ctx1 (t : TxD) : EvD Try.prog 24 [.agg (txe t)] (.sc (.bool (decide (ctxP t)))) := (o_ctx .on t).cast (by kernel_rfl) rfl
theorem r_ctx1 (t : TxD) : EvD Try.prog 17 [.agg (txe t)] (.sc (.bool (decide (ctxP t)))) := (r_ctx .on t).cast (by kernel_rfl) rfl
theorem v_has1 (v : Vv) (p s : Int) : EvD Try.prog 57 [.agg (vce v), .agg [AVal.sc (.int .i64 p), AVal.sc (.int .i64 s)]] (.sc (.bool (decide (hasP v p s)))) := (v_has .on v p s).cast (by kernel_rfl) rfl
end Go.Ord
