/- Walks and laws. -/
import Derived.Test.YtmcjdeiicbgmhabProg
import Derived.Test.YtmcjdeiicbgmhabLibB
set_option maxRecDepth 100000
set_option maxHeartbeats 0
set_option linter.unusedSimpArgs false
set_option linter.unusedVariables false
namespace Go.Tr
open Go Go.Abs Go.Proofs
theorem mixed : Try.prog.follows .mixedOrders = true := by kernel_rfl
/-- A tree as it is handed in. -/
inductive T where
  | mk (n : Int) (ks : List T)
instance : Inhabited T := ⟨.mk 0 []⟩
def T.n : T → Int | .mk n _ => n
def T.ks : T → List T | .mk _ ks => ks
@[simp] theorem T.n_mk (n : Int) (ks : List T) : (T.mk n ks).n = n := rfl
@[simp] theorem T.ks_mk (n : Int) (ks : List T) : (T.mk n ks).ks = ks := rfl
theorem T.eta (t : T) : t = .mk t.n t.ks := by cases t; rfl
mutual
def tc : T → List AVal
  | .mk n ks => [.sc (.int .i64 n), .sl (tcs ks) ks.length .any]
def tcs : List T → List AVal
  | [] => []
  | t :: r => tc t ++ tcs r
end
abbrev tl (k : List T) : AVal := .sl (tcs k) k.length .any
theorem tc_eta (t : T) : tc t = [.sc (.int .i64 t.n), .sl (tcs t.ks) t.ks.length .any] := by cases t; rw [tc]; rfl
theorem tc_length (t : T) : (tc t).length = 2 := by cases t; rw [tc]; rfl
theorem tcs_flat (l : List T) : tcs l = l.flatMap tc := by
  induction l with
  | nil => rfl
  | cons a l ih => rw [tcs, ih]; rfl
@[simp] theorem tcs_length (l : List T) : (tcs l).length = l.length * 2 := by
  induction l with
  | nil => rfl
  | cons a l ih => rw [tcs, List.length_append, ih, tc_length, List.length_cons]; omega
mutual
def size : T → Nat
  | .mk _ ks => 1 + sizes ks
def sizes : List T → Nat
  | [] => 0
  | t :: r => size t + sizes r
end
mutual
def beqT : T → T → Bool
  | .mk n ks, .mk m ls => n == m && beqTs ks ls
def beqTs : List T → List T → Bool
  | [], [] => true
  | a :: l, b :: m => beqT a b && beqTs l m
  | _, _ => false
end
mutual
theorem beqT_iff : ∀ a b : T, beqT a b = true ↔ a = b
  | .mk n ks, .mk m ls => by
    rw [beqT, Bool.and_eq_true, beqTs_iff ks ls, beq_iff_eq]
    constructor
    · rintro ⟨rfl, rfl⟩; rfl
    · intro h; injection h with h1 h2; exact ⟨h1, h2⟩
theorem beqTs_iff : ∀ a b : List T, beqTs a b = true ↔ a = b
  | [], [] => by simp [beqTs]
  | [], _ :: _ => by simp [beqTs]
  | _ :: _, [] => by simp [beqTs]
  | a :: l, b :: m => by rw [beqTs, Bool.and_eq_true, beqT_iff a b, beqTs_iff l m]; simp
end
theorem size_pos (t : T) : 1 ≤ size t := by cases t; rw [size]; omega
theorem sizes_get : ∀ (l : List T) (i : Nat), i < l.length → size (l.getD i default) ≤ sizes l
  | [], i, h => by simp at h
  | a :: l, 0, h => by rw [sizes]; simp
  | a :: l, i + 1, h => by
    have := sizes_get l i (by simpa using h)
    rw [sizes]; simp only [List.getD_cons_succ]; omega
theorem length_sizes : ∀ l : List T, l.length ≤ sizes l
  | [] => by simp
  | a :: l => by have := length_sizes l; have := size_pos a; rw [sizes, List.length_cons]; omega
theorem tcs_at (l : List T) (i : Nat) (h : i < l.length) : ((tcs l).drop (i * 2)).take 2 = tc (l.getD i default) := by
  induction l generalizing i with
  | nil => simp at h
  | cons a l ih =>
    cases i with
    | zero => rw [tcs]; simp only [Nat.zero_mul, List.drop_zero, List.getD_cons_zero]; rw [List.take_append_of_le_length (by rw [tc_length]; omega), List.take_of_length_le (by rw [tc_length]; omega)]
    | succ i =>
      rw [tcs, List.getD_cons_succ, ← ih i (by simpa using h)]
      congr 1
      rw [List.drop_append, List.drop_eq_nil_of_le (by rw [tc_length]; omega), List.nil_append, tc_length]
      congr 1; omega
theorem tcs_cells (l : List T) (i : Nat) (h : i < l.length) : [List.getD (tcs l) (i * 2) .undef, List.getD (tcs l) (i * 2 + 1) .undef] = [.sc (.int .i64 (l.getD i default).n), .sl (tcs (l.getD i default).ks) (l.getD i default).ks.length .any] := by
  have h0 := tcs_at l i h
  rw [tc_eta] at h0
  have hl : (tcs l).length = l.length * 2 := tcs_length l
  have h1 : ∀ j, j < 2 → (tcs l).getD (i * 2 + j) .undef = (((tcs l).drop (i * 2)).take 2).getD j .undef := by
    intro j hj
    simp only [List.getD_eq_getElem?_getD]
    rw [List.getElem?_take_of_lt hj, List.getElem?_drop]
  have e0 := h1 0 (by omega)
  have e1 := h1 1 (by omega)
  rw [h0] at e0 e1
  simp only [Nat.add_zero] at e0
  rw [e0, e1]; rfl
theorem T.mk_eta (t : T) : T.mk t.n t.ks = t := (T.eta t).symm
def minI (s : Nat) (m : Int) : Int := if (s : Int) ≤ m then s else m + 1
theorem minI_le (s : Nat) (m : Int) : minI s m ≤ m + 1 := by unfold minI; split <;> omega
theorem minI_pos {s : Nat} {m : Int} (h : 1 ≤ s) (hm : 0 ≤ m) : 1 ≤ minI s m := by unfold minI; split <;> omega
theorem minI_add (s k : Nat) (m : Int) (h : minI s m ≤ m) : minI s m + minI k (m - minI s m) = minI (s + k) m := by
  unfold minI at *
  split at h
  · rename_i h1; simp only [h1, if_true]; (repeat' split) <;> omega
  · omega
theorem minI_top (s k : Nat) (m : Int) (h : ¬ minI s m ≤ m) : minI s m = minI (s + k) m := by
  unfold minI at *
  (repeat' split at h) <;> (repeat' split) <;> omega
theorem sizes_take (l : List T) (i : Nat) (h : i < l.length) : sizes (l.take (i + 1)) = sizes (l.take i) + size (l.getD i default) := by
  induction l generalizing i with
  | nil => simp at h
  | cons a l ih =>
    cases i with
    | zero => simp [sizes]
    | succ i =>
      have := ih i (by simpa using h)
      simp only [List.take_succ_cons, sizes, List.getD_cons_succ] at *
      omega
theorem sizes_take_le (l : List T) (i : Nat) : sizes (l.take i) ≤ sizes l := by
  induction l generalizing i with
  | nil => simp
  | cons a l ih =>
    cases i with
    | zero => simp [sizes]
    | succ i => have := ih i; simp only [List.take_succ_cons, sizes]; omega
theorem size_kid {n : Int} {ks : List T} {N i : Nat} (h : size (.mk n ks) ≤ N + 1) (hi : i < ks.length) : size (.mk (ks.getD i default).n (ks.getD i default).ks) ≤ N := by
  rw [T.mk_eta]; have := sizes_get ks i hi; rw [size] at h; omega
theorem size_step {ks : List T} {i : Nat} {m x : Int} (hi : i < ks.length) (hx : x = minI (1 + sizes (ks.take i)) m) (h : x ≤ m) : x + minI (size (.mk (ks.getD i default).n (ks.getD i default).ks)) (m - x) = minI (1 + sizes (ks.take (i + 1))) m := by
  subst hx; rw [T.mk_eta, minI_add _ _ _ h, sizes_take ks i hi, Nat.add_assoc]
theorem size_end {n : Int} {ks : List T} {i : Nat} {m x : Int} (hi : i ≤ ks.length) (hx : x = minI (1 + sizes (ks.take i)) m) (h : i = ks.length ∨ ¬ x ≤ m) : x = minI (size (.mk n ks)) m := by
  rw [size]
  rcases h with h | h
  · rw [hx, h, List.take_length]
  · rw [hx] at h ⊢
    have h2 := sizes_take_le ks i
    rw [minI_top _ (sizes ks - sizes (ks.take i)) _ h]
    congr 1; omega
theorem r_size (N : Nat) : ∀ (n : Int) (ks : List T) (m : Int), size (.mk n ks) ≤ N → 0 ≤ m → m ≤ 1000000 → EvD Try.prog 53 [.agg [.sc (.int .i64 n), .sl (tcs ks) ks.length .any], .sc (.int .i64 m)] (.sc (.int .i64 (minI (size (.mk n ks)) m))) := by
  induction N with
  | zero => intro n ks m h; rw [size] at h; omega
  | succ N ih =>
    intro n ks m hN h0 h1
    refine EvD.body Try.func53 rfl rfl rfl ?_
    refine SQ ?_
    refine DerQ.run (TT 2) ⟨[.agg [(I6 n), tl ks], (I6 m), .ptr 0 0, U6, (I6 0)] ++ UU 26, [⟨[(I6 n), tl ks], 2, .fresh⟩]⟩ (by kernel_rfl) (tt 2) ?_
    refine SQ ?_
    refine DerQ.run (True ∧ True) ⟨[.agg [(I6 n), tl ks], (I6 m), .ptr 0 0, U6, (I6 0), (I6 1)] ++ UU 25, [⟨[(I6 n), tl ks], 2, .fresh⟩]⟩ (by kernel_rfl) ⟨trivial, trivial⟩ ?_
    refine AWP.seq (SQ ?_)
    refine DerQ.run (True ∧ True) ⟨[.agg [(I6 n), tl ks], (I6 m), .ptr 0 0, U6, (I6 0), (I6 1), (I6 0)] ++ UU 24, [⟨[(I6 n), tl ks], 2, .fresh⟩]⟩ (by kernel_rfl) ⟨trivial, trivial⟩ ?_
    refine AWP.block ?_
    refine AWP.loopM [true, true, true, false, true, true, true, false, false, false, false, false, false, false, false, false, false, false, false, false, false, false, false, false, false, false, false, false, false, false, false] (fun kk st => ∃ (i : Nat) (x : Int), kk = ks.length - i ∧ i ≤ ks.length ∧ x = minI (1 + sizes (ks.take i)) m ∧ x ≤ m + 1 ∧ (i : Int) < x ∧ st = ⟨[.agg [(I6 n), tl ks], (I6 m), .ptr 0 0, U6, (I6 0), (I6 x), (I6 (i : Int)), U6, U6, U6, U6, U6, U6, U6, U6, U6, U6, U6, U6, U6, U6, U6, U6, U6, U6, U6, U6, U6, U6, U6, .undef], [⟨[(I6 n), tl ks], 2, .fresh⟩]⟩) _ ⟨0, 1, rfl, by omega, by rw [List.take_zero, sizes, minI]; split <;> omega, by omega, by omega, rfl⟩ ?_
    rintro kk s ⟨i, x, rfl, hi, hx, hx1, hx2, rfl⟩
    refine AWP.seq (SQ ?_)
    refine DerQ.pre 6 (True ∧ True ∧ (1 < List.length [(I6 n), tl ks]) ∧ True ∧ True ∧ True ∧ True) ⟨[.agg [(I6 n), tl ks], (I6 m), .ptr 0 0, U6, (I6 0), (I6 x), (I6 (↑i : Int)), (I6 (↑i : Int)), .ptr 0 1, tl ks, (I6 (↑(List.length ks) : Int)), (B6 (decide ((↑i : Int) < (↑(List.length ks) : Int)))), (B6 (decide ((↑i : Int) < (↑(List.length ks) : Int))))] ++ UU 18, [⟨[(I6 n), tl ks], 2, .fresh⟩]⟩ (by kernel_rfl) ⟨trivial, trivial, (by simp), trivial, trivial, trivial, trivial⟩ ?_
    cases h2 : (decide ((↑i : Int) < (↑(List.length ks) : Int)))
    · have h2' := of_decide_eq_false h2
      refine DerQ.run (True ∧ True) ⟨[.agg [(I6 n), tl ks], (I6 m), .ptr 0 0, U6, (I6 0), (I6 x), (I6 (↑i : Int)), (I6 (↑i : Int)), .ptr 0 1, tl ks, (I6 (↑(List.length ks) : Int)), (B6 false), (B6 false), .tup [], .tup [], .tup [], (B6 false)] ++ UU 14, [⟨[(I6 n), tl ks], 2, .fresh⟩]⟩ (by kernel_rfl) ⟨trivial, trivial⟩ ?_
      refine CN false (fun h => nomatch h) (fun _ => ?_)
      refine AWP.exit ?_
      refine SQ ?_
      refine DerQ.run (TT 2) ⟨[.agg [(I6 n), tl ks], (I6 m), .ptr 0 0, U6, (I6 x), (I6 x), (I6 (↑i : Int)), (I6 (↑i : Int)), .ptr 0 1, tl ks, (I6 (↑(List.length ks) : Int)), (B6 false), (B6 false), .tup [], .tup [], .tup [], (B6 false)] ++ UU 13 ++ [(I6 x)], [⟨[(I6 n), tl ks], 2, .fresh⟩]⟩ (by kernel_rfl) (tt 2) ?_
      refine AWP.ret ?_
      refine FI (.sc (.int .i64 (x))) ?_
      refine Shrink.all ?_ rfl
      (rw [size_end (by omega) hx (by omega)]; done)
    · have h2' := of_decide_eq_true h2
      refine DerQ.run (TT 4) ⟨[.agg [(I6 n), tl ks], (I6 m), .ptr 0 0, U6, (I6 0), (I6 x), (I6 (↑i : Int)), (I6 (↑i : Int)), .ptr 0 1, tl ks, (I6 (↑(List.length ks) : Int)), (B6 true), (B6 true), (I6 x), (I6 m), (B6 (decide (x ≤ m))), (B6 (decide (x ≤ m)))] ++ UU 14, [⟨[(I6 n), tl ks], 2, .fresh⟩]⟩ (by kernel_rfl) (tt 4) ?_
      refine CN (decide (x ≤ m)) (fun h3 => ?_) (fun h3 => ?_)
      · have h3' := of_decide_eq_true h3
        refine AWP.skip (AWP.seq (AWP.block (AWP.reg ?_)))
        refine DerQ.pre 9 (True ∧ True ∧ (1 < List.length [(I6 n), tl ks]) ∧ True ∧ (((0 ≤ (↑i : Int)) ∧ ((↑i : Int) < (↑(List.length ks) : Int))) ∧ (Int.toNat (↑i : Int) * 2 + 2 ≤ List.length (tcs ks))) ∧ (2 ≤ List.length [List.getD (tcs ks) (Int.toNat (↑i : Int) * 2 + 0) U6, List.getD (tcs ks) (Int.toNat (↑i : Int) * 2 + 1) AVal.undef]) ∧ True ∧ True ∧ True ∧ True) ⟨[.agg [(I6 n), tl ks], (I6 m), .ptr 0 0, U6, (I6 0), (I6 x), (I6 (↑i : Int)), (I6 (↑i : Int)), .ptr 0 1, tl ks, (I6 (↑(List.length ks) : Int)), (B6 true), (B6 true), (I6 x), (I6 m), (B6 (decide (x ≤ m))), (B6 (decide (x ≤ m))), U6, U6, (I6 x), .ptr 0 1, tl ks, (I6 (↑i : Int)), .dptr [List.getD (tcs ks) (Int.toNat (↑i : Int) * 2 + 0) U6, List.getD (tcs ks) (Int.toNat (↑i : Int) * 2 + 1) AVal.undef], .agg [List.getD (tcs ks) (Int.toNat (↑i : Int) * 2 + 0) U6, List.getD (tcs ks) (Int.toNat (↑i : Int) * 2 + 1) AVal.undef], (I6 m), (I6 x), (I6 (IntKind.wrap IntKind.i64 (m - x))), U6, U6, .undef], [⟨[(I6 n), tl ks], 2, .fresh⟩]⟩ (by kernel_rfl) ⟨trivial, trivial, (by simp), trivial, ⟨⟨(by omega), (by omega)⟩, (by (simp [spliceA_length] <;> omega))⟩, (by simp), trivial, trivial, trivial, trivial⟩ ?_
        rw [IntWalk.i64_in (m - x) (by omega)]
        rw [Int.toNat_natCast (i)]
        rw [Nat.add_zero (i * 2)]
        rw [Go.Tr.tcs_cells (ks) (i) (by omega)]
        refine DerQ.callD (ih (T.n (List.getD ks i default)) (T.ks (List.getD ks i default)) (m - x) (by (exact size_kid hN (by omega))) (by omega) (by omega)) ⟨[.agg [(I6 n), tl ks], (I6 m), .ptr 0 0, U6, (I6 0), (I6 x), (I6 (↑i : Int)), (I6 (↑i : Int)), .ptr 0 1, tl ks, (I6 (↑(List.length ks) : Int)), (B6 true), (B6 true), (I6 x), (I6 m), (B6 (decide (x ≤ m))), (B6 (decide (x ≤ m))), U6, U6, (I6 x), .ptr 0 1, tl ks, (I6 (↑i : Int)), .dptr [(I6 (T.n (List.getD ks i default))), tl (T.ks (List.getD ks i default))], .agg [(I6 (T.n (List.getD ks i default))), tl (T.ks (List.getD ks i default))], (I6 m), (I6 x), (I6 (m - x)), (I6 (minI (size (T.mk (T.n (List.getD ks i default)) (T.ks (List.getD ks i default)))) (m - x))), U6, .undef], [⟨[(I6 n), tl ks], 2, .fresh⟩]⟩ ⟨by kernel_rfl, by kernel_rfl, by kernel_rfl⟩ ?_
        refine DerQ.run (TT 2) ⟨[.agg [(I6 n), tl ks], (I6 m), .ptr 0 0, U6, (I6 0), (I6 (IntKind.wrap IntKind.i64 (x + minI (size (T.mk (T.n (List.getD ks i default)) (T.ks (List.getD ks i default)))) (m - x)))), (I6 (↑i : Int)), (I6 (↑i : Int)), .ptr 0 1, tl ks, (I6 (↑(List.length ks) : Int)), (B6 true), (B6 true), (I6 x), (I6 m), (B6 (decide (x ≤ m))), (B6 (decide (x ≤ m))), U6, U6, (I6 x), .ptr 0 1, tl ks, (I6 (↑i : Int)), .dptr [(I6 (T.n (List.getD ks i default))), tl (T.ks (List.getD ks i default))], .agg [(I6 (T.n (List.getD ks i default))), tl (T.ks (List.getD ks i default))], (I6 m), (I6 x), (I6 (m - x)), (I6 (minI (size (T.mk (T.n (List.getD ks i default)) (T.ks (List.getD ks i default)))) (m - x))), (I6 (IntKind.wrap IntKind.i64 (x + minI (size (T.mk (T.n (List.getD ks i default)) (T.ks (List.getD ks i default)))) (m - x)))), .undef], [⟨[(I6 n), tl ks], 2, .fresh⟩]⟩ (by kernel_rfl) (tt 2) ?_
        refine AWP.reg ?_
        refine DerQ.run (TT 3) ⟨[.agg [(I6 n), tl ks], (I6 m), .ptr 0 0, U6, (I6 0), (I6 (IntKind.wrap IntKind.i64 (x + minI (size (T.mk (T.n (List.getD ks i default)) (T.ks (List.getD ks i default)))) (m - x)))), (I6 (IntKind.wrap IntKind.i64 ((↑i : Int) + 1))), (I6 (↑i : Int)), .ptr 0 1, tl ks, (I6 (↑(List.length ks) : Int)), (B6 true), (B6 true), (I6 x), (I6 m), (B6 (decide (x ≤ m))), (B6 (decide (x ≤ m))), (I6 (↑i : Int)), (I6 (IntKind.wrap IntKind.i64 ((↑i : Int) + 1))), (I6 x), .ptr 0 1, tl ks, (I6 (↑i : Int)), .dptr [(I6 (T.n (List.getD ks i default))), tl (T.ks (List.getD ks i default))], .agg [(I6 (T.n (List.getD ks i default))), tl (T.ks (List.getD ks i default))], (I6 m), (I6 x), (I6 (m - x)), (I6 (minI (size (T.mk (T.n (List.getD ks i default)) (T.ks (List.getD ks i default)))) (m - x))), (I6 (IntKind.wrap IntKind.i64 (x + minI (size (T.mk (T.n (List.getD ks i default)) (T.ks (List.getD ks i default)))) (m - x)))), .undef], [⟨[(I6 n), tl ks], 2, .fresh⟩]⟩ (by kernel_rfl) (tt 3) ?_
        rw [IntWalk.i64_in ((↑i : Int) + 1) (by omega)]
        (have hs := size_step (m := m) (by omega) hx (by omega); have hle := minI_le (1 + sizes (ks.take (i + 1))) m; have hr := minI_pos (m := m - x) (size_pos (.mk (ks.getD i default).n (ks.getD i default).ks)) (by omega); rw [hs, IntWalk.i64_in (minI (1 + sizes (ks.take (i + 1))) m) (by omega)]; exact ⟨_, by omega, i + 1, _, rfl, by omega, rfl, by omega, by omega, by kernel_rfl⟩; done)
      · have h3' := of_decide_eq_false h3
        refine AWP.exit ?_
        refine SQ ?_
        refine DerQ.run (TT 2) ⟨[.agg [(I6 n), tl ks], (I6 m), .ptr 0 0, U6, (I6 x), (I6 x), (I6 (↑i : Int)), (I6 (↑i : Int)), .ptr 0 1, tl ks, (I6 (↑(List.length ks) : Int)), (B6 true), (B6 true), (I6 x), (I6 m), (B6 (decide (x ≤ m))), (B6 (decide (x ≤ m)))] ++ UU 13 ++ [(I6 x)], [⟨[(I6 n), tl ks], 2, .fresh⟩]⟩ (by kernel_rfl) (tt 2) ?_
        refine AWP.ret ?_
        refine FI (.sc (.int .i64 (x))) ?_
        refine Shrink.all ?_ rfl
        (rw [size_end (by omega) hx (by omega)]; done)

theorem getD_ext {a b : List T} (hl : a.length = b.length) (h : ∀ i, i < a.length → a.getD i default = b.getD i default) : a = b := by
  apply List.ext_getElem hl
  intro i h1 h2
  have := h i h1
  simpa [List.getD_eq_getElem?_getD, h1, h2] using this
theorem bfalse {a b : T} (h : a ≠ b) : AVal.sc (.bool false) = .sc (.bool (beqT a b)) := by
  cases e : beqT a b
  · rfl
  · exact absurd ((beqT_iff a b).1 e) h
theorem btrue {a b : T} (h : a = b) : AVal.sc (.bool true) = .sc (.bool (beqT a b)) := by rw [(beqT_iff a b).2 h]
theorem not_of_beq {a b : T} (h : beqT a b = false) : a ≠ b := fun e => by rw [(beqT_iff a b).2 e] at h; cases h
theorem of_beq {a b : T} (h : beqT a b = true) : a = b := (beqT_iff a b).1 h
theorem not_of_nbeq {a b : T} (h : (!beqT a b) = true) : a ≠ b := not_of_beq (by simpa using h)
theorem of_nbeq {a b : T} (h : (!beqT a b) = false) : a = b := of_beq (by simpa using h)
theorem beqTs_snoc {a b : List T} {i : Nat} (hd : ∀ j, j < i → a.getD j default = b.getD j default) (h : a.getD i default = b.getD i default) : ∀ j, j < i + 1 → a.getD j default = b.getD j default := by
  intro j hj
  by_cases e : j = i
  · subst e; exact h
  · exact hd j (by omega)

theorem len_of_size {n : Int} {ks : List T} {N : Nat} (h : size (.mk n ks) ≤ N) (hN : N ≤ 1000000000) : ks.length ≤ 1000000000 := by
  have := length_sizes ks; rw [size] at h; omega
theorem r_same (N : Nat) (hN9 : N ≤ 1000000000) : ∀ (n m : Int) (ks ls : List T), size (.mk n ks) ≤ N → EvD Try.prog 51 [.agg [.sc (.int .i64 n), .sl (tcs ks) ks.length .any], .agg [.sc (.int .i64 m), .sl (tcs ls) ls.length .any]] (.sc (.bool (beqT (.mk n ks) (.mk m ls)))) := by
  induction N with
  | zero => intro n m ks ls h; rw [size] at h; omega
  | succ N ih =>
    intro n m ks ls hN
    refine EvD.body Try.func51 rfl rfl rfl ?_
    have hl := len_of_size hN hN9
    have q := fun (i : Nat) (h1 : i < ks.length) => by have := ih (by omega) (ks.getD i default).n (ls.getD i default).n (ks.getD i default).ks (ls.getD i default).ks (size_kid hN h1); rwa [T.mk_eta, T.mk_eta] at this
    refine SQ ?_
    refine DerQ.run (TT 3) ⟨[.agg [(I6 n), tl ks], .agg [(I6 m), tl ls], .ptr 0 0, .ptr 1 0, (B6 false)] ++ UU 34, [⟨[(I6 n), tl ks], 2, .fresh⟩, ⟨[(I6 m), tl ls], 2, .fresh⟩]⟩ (by kernel_rfl) (tt 3) ?_
    refine AWP.seq (SQ ?_)
    refine DerQ.pre 6 (True ∧ (0 < List.length [(I6 n), tl ks]) ∧ True ∧ (0 < List.length [(I6 m), tl ls]) ∧ True ∧ True ∧ True) ⟨[.agg [(I6 n), tl ks], .agg [(I6 m), tl ls], .ptr 0 0, .ptr 1 0, (B6 false), U6, .ptr 0 0, (I6 n), .ptr 1 0, (I6 m), (B6 (n != m)), (B6 (n != m))] ++ UU 27, [⟨[(I6 n), tl ks], 2, .fresh⟩, ⟨[(I6 m), tl ls], 2, .fresh⟩]⟩ (by kernel_rfl) ⟨trivial, (by simp), trivial, (by simp), trivial, trivial, trivial⟩ ?_
    cases h1 : (n != m)
    · have h1' := bne_eq_false_iff_eq.1 h1
      refine DerQ.run (True ∧ (1 < List.length [(I6 n), tl ks]) ∧ True ∧ True ∧ (1 < List.length [(I6 m), tl ls]) ∧ True ∧ True ∧ True ∧ True) ⟨[.agg [(I6 n), tl ks], .agg [(I6 m), tl ls], .ptr 0 0, .ptr 1 0, (B6 false), U6, .ptr 0 0, (I6 n), .ptr 1 0, (I6 m), (B6 false), (B6 false), .ptr 0 1, tl ks, (I6 (↑(List.length ks) : Int)), .ptr 1 1, tl ls, (I6 (↑(List.length ls) : Int)), (B6 ((↑(List.length ks) : Int) != (↑(List.length ls) : Int))), (B6 ((↑(List.length ks) : Int) != (↑(List.length ls) : Int)))] ++ UU 19, [⟨[(I6 n), tl ks], 2, .fresh⟩, ⟨[(I6 m), tl ls], 2, .fresh⟩]⟩ (by kernel_rfl) ⟨trivial, (by simp), trivial, trivial, (by simp), trivial, trivial, trivial, trivial⟩ ?_
      refine CN ((↑(List.length ks) : Int) != (↑(List.length ls) : Int)) (fun h2 => ?_) (fun h2 => ?_)
      · have h2' := bne_iff_ne.1 h2
        refine SQ ?_
        refine DerQ.run (True ∧ True) ⟨[.agg [(I6 n), tl ks], .agg [(I6 m), tl ls], .ptr 0 0, .ptr 1 0, (B6 false), U6, .ptr 0 0, (I6 n), .ptr 1 0, (I6 m), (B6 false), (B6 false), .ptr 0 1, tl ks, (I6 (↑(List.length ks) : Int)), .ptr 1 1, tl ls, (I6 (↑(List.length ls) : Int)), (B6 ((↑(List.length ks) : Int) != (↑(List.length ls) : Int))), (B6 ((↑(List.length ks) : Int) != (↑(List.length ls) : Int)))] ++ UU 19, [⟨[(I6 n), tl ks], 2, .fresh⟩, ⟨[(I6 m), tl ls], 2, .fresh⟩]⟩ (by kernel_rfl) ⟨trivial, trivial⟩ ?_
        refine AWP.ret ?_
        refine FI (.sc (.bool false)) ?_
        refine Shrink.all ?_ rfl
        (exact bfalse (fun e => by injection e with e1 e2; subst e2; omega); done)
      · have h2' := bne_eq_false_iff_eq.1 h2
        refine AWP.skip (AWP.seq (SQ ?_))
        refine DerQ.run (True ∧ True) ⟨[.agg [(I6 n), tl ks], .agg [(I6 m), tl ls], .ptr 0 0, .ptr 1 0, (B6 false), (I6 0), .ptr 0 0, (I6 n), .ptr 1 0, (I6 m), (B6 false), (B6 false), .ptr 0 1, tl ks, (I6 (↑(List.length ks) : Int)), .ptr 1 1, tl ls, (I6 (↑(List.length ls) : Int)), (B6 ((↑(List.length ks) : Int) != (↑(List.length ls) : Int))), (B6 ((↑(List.length ks) : Int) != (↑(List.length ls) : Int)))] ++ UU 19, [⟨[(I6 n), tl ks], 2, .fresh⟩, ⟨[(I6 m), tl ls], 2, .fresh⟩]⟩ (by kernel_rfl) ⟨trivial, trivial⟩ ?_
        refine AWP.block ?_
        refine AWP.loopM [true, true, true, true, true, true, true, true, true, true, true, true, true, true, true, true, true, true, true, true, false, false, false, false, false, false, false, false, false, false, false, false, false, false, false, false, false, false, false] (fun kk st => ∃ (i : Nat), kk = ks.length - i ∧ i ≤ ks.length ∧ (∀ j, j < i → ks.getD j default = ls.getD j default) ∧ st = ⟨[.agg [(I6 n), tl ks], .agg [(I6 m), tl ls], .ptr 0 0, .ptr 1 0, (B6 false), (I6 (i : Int)), .ptr 0 0, (I6 n), .ptr 1 0, (I6 m), (B6 false), (B6 false), .ptr 0 1, tl ks, (I6 (↑(List.length ks) : Int)), .ptr 1 1, tl ls, (I6 (↑(List.length ls) : Int)), (B6 ((↑(List.length ks) : Int) != (↑(List.length ls) : Int))), (B6 ((↑(List.length ks) : Int) != (↑(List.length ls) : Int))), U6, U6, U6, U6, U6, U6, U6, U6, U6, U6, U6, U6, U6, U6, U6, U6, U6, U6, .undef], [⟨[(I6 n), tl ks], 2, .fresh⟩, ⟨[(I6 m), tl ls], 2, .fresh⟩]⟩) _ ⟨0, rfl, by omega, fun j hj => absurd hj (by omega), rfl⟩ ?_
        rintro kk s ⟨i, rfl, hi, hd, rfl⟩
        refine AWP.seq (SQ ?_)
        refine DerQ.run (True ∧ True ∧ (1 < List.length [(I6 n), tl ks]) ∧ True ∧ True ∧ True) ⟨[.agg [(I6 n), tl ks], .agg [(I6 m), tl ls], .ptr 0 0, .ptr 1 0, (B6 false), (I6 (↑i : Int)), .ptr 0 0, (I6 n), .ptr 1 0, (I6 m), (B6 false), (B6 false), .ptr 0 1, tl ks, (I6 (↑(List.length ks) : Int)), .ptr 1 1, tl ls, (I6 (↑(List.length ls) : Int)), (B6 ((↑(List.length ks) : Int) != (↑(List.length ls) : Int))), (B6 ((↑(List.length ks) : Int) != (↑(List.length ls) : Int))), (I6 (↑i : Int)), .ptr 0 1, tl ks, (I6 (↑(List.length ks) : Int)), (B6 (decide ((↑i : Int) < (↑(List.length ks) : Int))))] ++ UU 14, [⟨[(I6 n), tl ks], 2, .fresh⟩, ⟨[(I6 m), tl ls], 2, .fresh⟩]⟩ (by kernel_rfl) ⟨trivial, trivial, (by simp), trivial, trivial, trivial⟩ ?_
        refine CN (decide ((↑i : Int) < (↑(List.length ks) : Int))) (fun h3 => ?_) (fun h3 => ?_)
        · have h3' := of_decide_eq_true h3
          refine AWP.skip (AWP.seq (AWP.block (AWP.seq ?_)))
          refine AWP.drawX mixed (fun o => [37].contains (o.dst.getD 0)) (by kernel_rfl) ?_
          refine DerX.pre 10 ((True) ∧ ((1 < List.length [(I6 n), tl ks]) ∧ ((True) ∧ ((((0 ≤ (↑i : Int)) ∧ ((↑i : Int) < (↑(List.length ks) : Int))) ∧ (Int.toNat (↑i : Int) * 2 + 2 ≤ List.length (tcs ks))) ∧ ((2 ≤ List.length [List.getD (tcs ks) (Int.toNat (↑i : Int) * 2 + 0) U6, List.getD (tcs ks) (Int.toNat (↑i : Int) * 2 + 1) AVal.undef]) ∧ ((True) ∧ ((1 < List.length [(I6 m), tl ls]) ∧ ((True) ∧ ((((0 ≤ (↑i : Int)) ∧ ((↑i : Int) < (↑(List.length ls) : Int))) ∧ (Int.toNat (↑i : Int) * 2 + 2 ≤ List.length (tcs ls))) ∧ ((2 ≤ List.length [List.getD (tcs ls) (Int.toNat (↑i : Int) * 2 + 0) U6, List.getD (tcs ls) (Int.toNat (↑i : Int) * 2 + 1) AVal.undef]) ∧ (True))))))))))) [.ptr 0 1, tl ks, (I6 (↑i : Int)), .dptr [List.getD (tcs ks) (Int.toNat (↑i : Int) * 2 + 0) U6, List.getD (tcs ks) (Int.toNat (↑i : Int) * 2 + 1) AVal.undef], .agg [List.getD (tcs ks) (Int.toNat (↑i : Int) * 2 + 0) U6, List.getD (tcs ks) (Int.toNat (↑i : Int) * 2 + 1) AVal.undef], .ptr 1 1, tl ls, (I6 (↑i : Int)), .dptr [List.getD (tcs ls) (Int.toNat (↑i : Int) * 2 + 0) U6, List.getD (tcs ls) (Int.toNat (↑i : Int) * 2 + 1) AVal.undef], .agg [List.getD (tcs ls) (Int.toNat (↑i : Int) * 2 + 0) U6, List.getD (tcs ls) (Int.toNat (↑i : Int) * 2 + 1) AVal.undef]] ⟨[.agg [(I6 n), tl ks], .agg [(I6 m), tl ls], .ptr 0 0, .ptr 1 0, (B6 false), (I6 (↑i : Int)), .ptr 0 0, (I6 n), .ptr 1 0, (I6 m), (B6 false), (B6 false), .ptr 0 1, tl ks, (I6 (↑(List.length ks) : Int)), .ptr 1 1, tl ls, (I6 (↑(List.length ls) : Int)), (B6 ((↑(List.length ks) : Int) != (↑(List.length ls) : Int))), (B6 ((↑(List.length ks) : Int) != (↑(List.length ls) : Int))), (I6 (↑i : Int)), .ptr 0 1, tl ks, (I6 (↑(List.length ks) : Int)), (B6 (decide ((↑i : Int) < (↑(List.length ks) : Int)))), U6, U6, .ptr 0 1, tl ks, (I6 (↑i : Int)), .dptr [List.getD (tcs ks) (Int.toNat (↑i : Int) * 2 + 0) U6, List.getD (tcs ks) (Int.toNat (↑i : Int) * 2 + 1) AVal.undef], .agg [List.getD (tcs ks) (Int.toNat (↑i : Int) * 2 + 0) U6, List.getD (tcs ks) (Int.toNat (↑i : Int) * 2 + 1) AVal.undef], .ptr 1 1, tl ls, (I6 (↑i : Int)), .dptr [List.getD (tcs ls) (Int.toNat (↑i : Int) * 2 + 0) U6, List.getD (tcs ls) (Int.toNat (↑i : Int) * 2 + 1) AVal.undef], .agg [List.getD (tcs ls) (Int.toNat (↑i : Int) * 2 + 0) U6, List.getD (tcs ls) (Int.toNat (↑i : Int) * 2 + 1) AVal.undef], U6, .undef], [⟨[(I6 n), tl ks], 2, .fresh⟩, ⟨[(I6 m), tl ls], 2, .fresh⟩]⟩ (by intro ext; kernel_rfl) (by kernel_rfl) ⟨trivial, ⟨(by simp), ⟨trivial, ⟨⟨⟨(by omega), (by omega)⟩, (by (simp [spliceA_length] <;> omega))⟩, ⟨(by simp), ⟨trivial, ⟨(by simp), ⟨trivial, ⟨⟨⟨(by omega), (by omega)⟩, (by (simp [spliceA_length] <;> omega))⟩, ⟨(by simp), trivial⟩⟩⟩⟩⟩⟩⟩⟩⟩⟩ ?_
          rw [Int.toNat_natCast (i)]
          rw [Nat.add_zero (i * 2)]
          rw [Go.Tr.tcs_cells (ls) (i) (by omega)]
          rw [Go.Tr.tcs_cells (ks) (i) (by omega)]
          refine DerX.callD (q i (by omega)) ⟨[.agg [(I6 n), tl ks], .agg [(I6 m), tl ls], .ptr 0 0, .ptr 1 0, (B6 false), (I6 (↑i : Int)), .ptr 0 0, (I6 n), .ptr 1 0, (I6 m), (B6 false), (B6 false), .ptr 0 1, tl ks, (I6 (↑(List.length ks) : Int)), .ptr 1 1, tl ls, (I6 (↑(List.length ls) : Int)), (B6 ((↑(List.length ks) : Int) != (↑(List.length ls) : Int))), (B6 ((↑(List.length ks) : Int) != (↑(List.length ls) : Int))), (I6 (↑i : Int)), .ptr 0 1, tl ks, (I6 (↑(List.length ks) : Int)), (B6 (decide ((↑i : Int) < (↑(List.length ks) : Int)))), U6, U6, .ptr 0 1, tl ks, (I6 (↑i : Int)), .dptr [(I6 (T.n (List.getD ks i default))), tl (T.ks (List.getD ks i default))], .agg [(I6 (T.n (List.getD ks i default))), tl (T.ks (List.getD ks i default))], .ptr 1 1, tl ls, (I6 (↑i : Int)), .dptr [(I6 (T.n (List.getD ls i default))), tl (T.ks (List.getD ls i default))], .agg [(I6 (T.n (List.getD ls i default))), tl (T.ks (List.getD ls i default))], (B6 (beqT (List.getD ks i default) (List.getD ls i default))), .undef], [⟨[(I6 n), tl ks], 2, .fresh⟩, ⟨[(I6 m), tl ls], 2, .fresh⟩]⟩ ⟨by kernel_rfl, by kernel_rfl, by kernel_rfl⟩ ?_
          refine DerX.quiet (True) (B6 (!beqT (List.getD ks i default) (List.getD ls i default))) ⟨[.agg [(I6 n), tl ks], .agg [(I6 m), tl ls], .ptr 0 0, .ptr 1 0, (B6 false), (I6 (↑i : Int)), .ptr 0 0, (I6 n), .ptr 1 0, (I6 m), (B6 false), (B6 false), .ptr 0 1, tl ks, (I6 (↑(List.length ks) : Int)), .ptr 1 1, tl ls, (I6 (↑(List.length ls) : Int)), (B6 ((↑(List.length ks) : Int) != (↑(List.length ls) : Int))), (B6 ((↑(List.length ks) : Int) != (↑(List.length ls) : Int))), (I6 (↑i : Int)), .ptr 0 1, tl ks, (I6 (↑(List.length ks) : Int)), (B6 (decide ((↑i : Int) < (↑(List.length ks) : Int)))), U6, U6, .ptr 0 1, tl ks, (I6 (↑i : Int)), .dptr [(I6 (T.n (List.getD ks i default))), tl (T.ks (List.getD ks i default))], .agg [(I6 (T.n (List.getD ks i default))), tl (T.ks (List.getD ks i default))], .ptr 1 1, tl ls, (I6 (↑i : Int)), .dptr [(I6 (T.n (List.getD ls i default))), tl (T.ks (List.getD ls i default))], .agg [(I6 (T.n (List.getD ls i default))), tl (T.ks (List.getD ls i default))], (B6 (beqT (List.getD ks i default) (List.getD ls i default))), (B6 (!beqT (List.getD ks i default) (List.getD ls i default)))], [⟨[(I6 n), tl ks], 2, .fresh⟩, ⟨[(I6 m), tl ls], 2, .fresh⟩]⟩ (by intro ext; kernel_rfl) ⟨by kernel_rfl, by kernel_rfl⟩ trivial ?_
          refine DerX.nil ?_
          refine CN (!beqT (List.getD ks i default) (List.getD ls i default)) (fun h4 => ?_) (fun h4 => ?_)
          · have h4' := h4
            simp only [Bool.and_eq_true, Bool.and_eq_false_iff, Bool.or_eq_true, Bool.or_eq_false_iff, Bool.not_eq_true', Bool.not_eq_false', beq_iff_eq, beq_eq_false_iff_ne, decide_eq_true_eq, decide_eq_false_iff_not, ne_eq] at h4'
            refine SQ ?_
            refine DerQ.run (True ∧ True) ⟨[.agg [(I6 n), tl ks], .agg [(I6 m), tl ls], .ptr 0 0, .ptr 1 0, (B6 false), (I6 (↑i : Int)), .ptr 0 0, (I6 n), .ptr 1 0, (I6 m), (B6 false), (B6 false), .ptr 0 1, tl ks, (I6 (↑(List.length ks) : Int)), .ptr 1 1, tl ls, (I6 (↑(List.length ls) : Int)), (B6 ((↑(List.length ks) : Int) != (↑(List.length ls) : Int))), (B6 ((↑(List.length ks) : Int) != (↑(List.length ls) : Int))), (I6 (↑i : Int)), .ptr 0 1, tl ks, (I6 (↑(List.length ks) : Int)), (B6 (decide ((↑i : Int) < (↑(List.length ks) : Int)))), U6, U6, .ptr 0 1, tl ks, (I6 (↑i : Int)), .dptr [(I6 (T.n (List.getD ks i default))), tl (T.ks (List.getD ks i default))], .agg [(I6 (T.n (List.getD ks i default))), tl (T.ks (List.getD ks i default))], .ptr 1 1, tl ls, (I6 (↑i : Int)), .dptr [(I6 (T.n (List.getD ls i default))), tl (T.ks (List.getD ls i default))], .agg [(I6 (T.n (List.getD ls i default))), tl (T.ks (List.getD ls i default))], (B6 (beqT (List.getD ks i default) (List.getD ls i default))), (B6 (!beqT (List.getD ks i default) (List.getD ls i default)))], [⟨[(I6 n), tl ks], 2, .fresh⟩, ⟨[(I6 m), tl ls], 2, .fresh⟩]⟩ (by kernel_rfl) ⟨trivial, trivial⟩ ?_
            refine AWP.ret ?_
            refine FI (.sc (.bool false)) ?_
            refine Shrink.all ?_ rfl
            (exact bfalse (fun e => by injection e with e1 e2; subst e2; exact not_of_nbeq (by assumption) rfl); done)
          · have h4' := h4
            simp only [Bool.and_eq_true, Bool.and_eq_false_iff, Bool.or_eq_true, Bool.or_eq_false_iff, Bool.not_eq_true', Bool.not_eq_false', beq_iff_eq, beq_eq_false_iff_ne, decide_eq_true_eq, decide_eq_false_iff_not, ne_eq] at h4'
            refine AWP.skip (AWP.reg ?_)
            refine DerQ.run (TT 3) ⟨[.agg [(I6 n), tl ks], .agg [(I6 m), tl ls], .ptr 0 0, .ptr 1 0, (B6 false), (I6 (IntKind.wrap IntKind.i64 ((↑i : Int) + 1))), .ptr 0 0, (I6 n), .ptr 1 0, (I6 m), (B6 false), (B6 false), .ptr 0 1, tl ks, (I6 (↑(List.length ks) : Int)), .ptr 1 1, tl ls, (I6 (↑(List.length ls) : Int)), (B6 ((↑(List.length ks) : Int) != (↑(List.length ls) : Int))), (B6 ((↑(List.length ks) : Int) != (↑(List.length ls) : Int))), (I6 (↑i : Int)), .ptr 0 1, tl ks, (I6 (↑(List.length ks) : Int)), (B6 (decide ((↑i : Int) < (↑(List.length ks) : Int)))), (I6 (↑i : Int)), (I6 (IntKind.wrap IntKind.i64 ((↑i : Int) + 1))), .ptr 0 1, tl ks, (I6 (↑i : Int)), .dptr [(I6 (T.n (List.getD ks i default))), tl (T.ks (List.getD ks i default))], .agg [(I6 (T.n (List.getD ks i default))), tl (T.ks (List.getD ks i default))], .ptr 1 1, tl ls, (I6 (↑i : Int)), .dptr [(I6 (T.n (List.getD ls i default))), tl (T.ks (List.getD ls i default))], .agg [(I6 (T.n (List.getD ls i default))), tl (T.ks (List.getD ls i default))], (B6 (beqT (List.getD ks i default) (List.getD ls i default))), (B6 (!beqT (List.getD ks i default) (List.getD ls i default)))], [⟨[(I6 n), tl ks], 2, .fresh⟩, ⟨[(I6 m), tl ls], 2, .fresh⟩]⟩ (by kernel_rfl) (tt 3) ?_
            rw [IntWalk.i64_in ((↑i : Int) + 1) (by omega)]
            (exact ⟨_, by omega, i + 1, rfl, by omega, beqTs_snoc hd (of_nbeq (by assumption)), by kernel_rfl⟩; done)
        · have h3' := of_decide_eq_false h3
          refine AWP.exit ?_
          refine SQ ?_
          refine DerQ.run (True ∧ True) ⟨[.agg [(I6 n), tl ks], .agg [(I6 m), tl ls], .ptr 0 0, .ptr 1 0, (B6 true), (I6 (↑i : Int)), .ptr 0 0, (I6 n), .ptr 1 0, (I6 m), (B6 false), (B6 false), .ptr 0 1, tl ks, (I6 (↑(List.length ks) : Int)), .ptr 1 1, tl ls, (I6 (↑(List.length ls) : Int)), (B6 ((↑(List.length ks) : Int) != (↑(List.length ls) : Int))), (B6 ((↑(List.length ks) : Int) != (↑(List.length ls) : Int))), (I6 (↑i : Int)), .ptr 0 1, tl ks, (I6 (↑(List.length ks) : Int)), (B6 (decide ((↑i : Int) < (↑(List.length ks) : Int))))] ++ UU 14, [⟨[(I6 n), tl ks], 2, .fresh⟩, ⟨[(I6 m), tl ls], 2, .fresh⟩]⟩ (by kernel_rfl) ⟨trivial, trivial⟩ ?_
          refine AWP.ret ?_
          refine FI (.sc (.bool true)) ?_
          refine Shrink.all ?_ rfl
          (exact btrue (by rw [show n = m by omega, getD_ext (by omega) (fun j hj => hd j (by omega))]); done)
    · have h1' := bne_iff_ne.1 h1
      refine DerQ.run (True ∧ True) ⟨[.agg [(I6 n), tl ks], .agg [(I6 m), tl ls], .ptr 0 0, .ptr 1 0, (B6 false), U6, .ptr 0 0, (I6 n), .ptr 1 0, (I6 m), (B6 true), (B6 true), .tup [], .tup [], .tup [], .tup [], .tup [], .tup [], .tup [], (B6 true)] ++ UU 19, [⟨[(I6 n), tl ks], 2, .fresh⟩, ⟨[(I6 m), tl ls], 2, .fresh⟩]⟩ (by kernel_rfl) ⟨trivial, trivial⟩ ?_
      refine CN true (fun _ => ?_) (fun h => nomatch h)
      refine SQ ?_
      refine DerQ.run (True ∧ True) ⟨[.agg [(I6 n), tl ks], .agg [(I6 m), tl ls], .ptr 0 0, .ptr 1 0, (B6 false), U6, .ptr 0 0, (I6 n), .ptr 1 0, (I6 m), (B6 true), (B6 true), .tup [], .tup [], .tup [], .tup [], .tup [], .tup [], .tup [], (B6 true)] ++ UU 19, [⟨[(I6 n), tl ks], 2, .fresh⟩, ⟨[(I6 m), tl ls], 2, .fresh⟩]⟩ (by kernel_rfl) ⟨trivial, trivial⟩ ?_
      refine AWP.ret ?_
      refine FI (.sc (.bool false)) ?_
      refine Shrink.all ?_ rfl
      (exact bfalse (fun e => by injection e; omega); done)
theorem few (n : Int) (ks : List T) : EvD Try.prog 49 [.agg [.sc (.int .i64 n), .sl (tcs ks) ks.length .any]] (.sc (.bool (decide (size (.mk n ks) ≤ 120)))) := by
  refine EvD.body Try.func49 rfl rfl rfl ?_
  refine AWP.seq ?_
  refine TO ⟨[.agg [(I6 n), tl ks]] ++ UU 5, []⟩ ?_
  refine AWP.reg (RT 2 ?_)
  refine AWP.seq (KL [0] ⟨[U6, .ptr 0 0, (B6 false), U6, U6, .undef], [⟨[(I6 n), tl ks], 2, .fresh⟩]⟩ ?_)
  refine AWP.reg (PI 1 (2 ≤ 2 ∧ True) ⟨(by omega), trivial⟩ ?_)
  refine CD (r_size (size (.mk n ks)) n ks ((120 : Int)) (by omega) (by omega) (by omega)) ?_
  refine RT 2 ?_
  refine AWP.ret ?_
  refine FI (.sc (.bool (decide (minI (size (T.mk n ks)) 120 ≤ 120)))) ?_
  refine Shrink.all ?_ rfl
  (congr 2; rw [Bool.eq_iff_iff, decide_eq_true_eq, decide_eq_true_eq]; unfold minI; split <;> omega; done)
theorem sr_few (n m : Int) (ks ls : List T) : EvD Try.prog 38 [.agg [.sc (.int .i64 n), .sl (tcs ks) ks.length .any, .sc (.int .i64 m), .sl (tcs ls) ls.length .any]] (.sc (.bool (decide (size (.mk n ks) ≤ 120 ∧ size (.mk m ls) ≤ 120)))) := by
  refine EvD.body Try.func38 rfl rfl rfl ?_
  refine AWP.seq ?_
  refine TO ⟨[.agg [(I6 n), tl ks, (I6 m), tl ls]] ++ UU 10, []⟩ ?_
  refine AWP.reg (RT 2 ?_)
  refine AWP.seq (KL [0] ⟨[U6, .ptr 0 0, (B6 false)] ++ UU 8, [⟨[(I6 n), tl ks, (I6 m), tl ls], 4, .fresh⟩]⟩ ?_)
  refine AWP.reg (PI 2 (True ∧ 2 ≤ 4 ∧ True) ⟨trivial, (by omega), trivial⟩ ?_)
  refine CD (few n ks) ?_
  refine PT 1 1 ?_
  refine DerQ.to ⟨[U6, .ptr 0 0, (B6 false), .ptr 0 0, .agg [(I6 n), tl ks], (B6 (decide (size (T.mk n ks) ≤ 120))), (B6 (decide (size (T.mk n ks) ≤ 120))), U6, U6, U6, .undef], [⟨[(I6 n), tl ks, (I6 m), tl ls], 4, .fresh⟩]⟩ (by kernel_rfl) ?_
  cases h1 : (decide (size (T.mk n ks) ≤ 120))
  · have h1' := of_decide_eq_false h1
    refine RT 2 ?_
    refine AWP.ret ?_
    refine FI (.sc (.bool false)) ?_
    refine Shrink.all ?_ rfl
    (congr 2; rw [Bool.eq_iff_iff]; simp only [decide_eq_true_eq, Bool.false_eq_true, false_iff, true_iff, Bool.and_eq_true, Bool.or_eq_true, Bool.not_eq_true', Bool.not_eq_true, Bool.not_eq_false', decide_eq_false_iff_not, iff_true, iff_false, beq_iff_eq, beq_eq_false_iff_ne, ge_iff_le, gt_iff_lt, ne_eq, bne_iff_ne, not_true_eq_false, not_false_eq_true] at *; omega; done)
  · have h1' := of_decide_eq_true h1
    refine PI 2 (True ∧ 4 ≤ 4 ∧ True) ⟨trivial, (by omega), trivial⟩ ?_
    refine CD (few m ls) ?_
    refine RT 2 ?_
    refine AWP.ret ?_
    refine FI (.sc (.bool (decide (size (T.mk m ls) ≤ 120)))) ?_
    refine Shrink.all ?_ rfl
    (congr 2; rw [Bool.eq_iff_iff]; simp only [decide_eq_true_eq, Bool.false_eq_true, false_iff, true_iff, Bool.and_eq_true, Bool.or_eq_true, Bool.not_eq_true', Bool.not_eq_true, Bool.not_eq_false', decide_eq_false_iff_not, iff_true, iff_false, beq_iff_eq, beq_eq_false_iff_ne, ge_iff_le, gt_iff_lt, ne_eq, bne_iff_ne, not_true_eq_false, not_false_eq_true] at *; omega; done)
end Go.Tr
