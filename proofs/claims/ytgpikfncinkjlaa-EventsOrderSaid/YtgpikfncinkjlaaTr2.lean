/- Walks and laws. -/
import Derived.Test.YtgpikfncinkjlaaTr1
import Derived.Test.YtgpikfncinkjlaaLibB
set_option maxRecDepth 100000
set_option maxHeartbeats 0
set_option linter.unusedSimpArgs false
set_option linter.unusedVariables false
namespace Go.Tr
open Go Go.Abs Go.Proofs
theorem size_kid {n : Int} {ks : List T} {N i : Nat} (h : size (.mk n ks) ≤ N + 1) (hi : i < ks.length) : size (.mk (ks.getD i default).n (ks.getD i default).ks) ≤ N := by
  rw [T.mk_eta]; have := sizes_get ks i hi; rw [size] at h; omega
theorem size_step {ks : List T} {i : Nat} {m x : Int} (hi : i < ks.length) (hx : x = minI (1 + sizes (ks.take i)) m) (h : x ≤ m) : x + minI (size (.mk (ks.getD i default).n (ks.getD i default).ks)) (m - x) = minI (1 + sizes (ks.take (i + 1))) m := by
  subst hx; rw [T.mk_eta, minI_add _ _ _ h, sizes_take ks i hi, Nat.add_assoc]
theorem size_end {n : Int} {ks : List T} {i : Nat} {m x : Int} (hi : i ≤ ks.length) (hx : x = minI (1 + sizes (ks.take i)) m) (h : i = ks.length ∨ ¬ x ≤ m) : x = minI (size (.mk n ks)) m := by
  rw [size]
  rcases h with h | h
  · rw [hx, h, List.take_length]
  · rw [hx] at h ⊢
    have h2 := sizes_take_le ks i
    rw [minI_top _ (sizes ks - sizes (ks.take i)) _ h]
    congr 1; omega
theorem r_size (N : Nat) : ∀ (n : Int) (ks : List T) (m : Int), size (.mk n ks) ≤ N → 0 ≤ m → m ≤ 1000000 → EvD Try.prog 64 [.agg [.sc (.int .i64 n), .sl (tcs ks) ks.length .any], .sc (.int .i64 m)] (.sc (.int .i64 (minI (size (.mk n ks)) m))) := by
  induction N with
  | zero => intro n ks m h; rw [size] at h; omega
  | succ N ih =>
    intro n ks m hN h0 h1
    refine EvD.body Try.func64 rfl rfl rfl ?_
    refine AWP.seq ?_
    refine AWP.reg ?_
    refine DerQ.run (TT 2) ⟨[.agg [(I6 n), tl ks], (I6 m), .ptr 0 0, U6, (I6 0)] ++ UU 26, [⟨[(I6 n), tl ks], 2, .fresh⟩]⟩ (by kernel_rfl) (tt 2) ?_
    refine AWP.seq ?_
    refine AWP.reg ?_
    refine DerQ.run ((True) ∧ (True)) ⟨[.agg [(I6 n), tl ks], (I6 m), .ptr 0 0, U6, (I6 0), (I6 1)] ++ UU 25, [⟨[(I6 n), tl ks], 2, .fresh⟩]⟩ (by kernel_rfl) ⟨trivial, trivial⟩ ?_
    refine AWP.seq ?_
    refine AWP.seq ?_
    refine AWP.reg ?_
    refine DerQ.run ((True) ∧ (True)) ⟨[.agg [(I6 n), tl ks], (I6 m), .ptr 0 0, U6, (I6 0), (I6 1), (I6 0)] ++ UU 24, [⟨[(I6 n), tl ks], 2, .fresh⟩]⟩ (by kernel_rfl) ⟨trivial, trivial⟩ ?_
    refine AWP.block ?_
    refine AWP.loopM [true, true, true, false, true, true, true, false, false, false, false, false, false, false, false, false, false, false, false, false, false, false, false, false, false, false, false, false, false, false, false] (fun kk st => ∃ (i : Nat) (x : Int), kk = ks.length - i ∧ i ≤ ks.length ∧ x = minI (1 + sizes (ks.take i)) m ∧ x ≤ m + 1 ∧ (i : Int) < x ∧ st = ⟨[.agg [(I6 n), tl ks], (I6 m), .ptr 0 0, U6, (I6 0), (I6 x), (I6 (i : Int)), U6, U6, U6, U6, U6, U6, U6, U6, U6, U6, U6, U6, U6, U6, U6, U6, U6, U6, U6, U6, U6, U6, U6, .undef], [⟨[(I6 n), tl ks], 2, .fresh⟩]⟩) _ ⟨0, 1, rfl, by omega, by rw [List.take_zero, sizes, minI]; split <;> omega, by omega, by omega, rfl⟩ ?_
    rintro kk s ⟨i, x, rfl, hi, hx, hx1, hx2, rfl⟩
    refine AWP.seq ?_
    refine AWP.seq ?_
    refine AWP.reg ?_
    refine DerQ.pre 6 ((True) ∧ ((True) ∧ ((1 < List.length [(I6 n), tl ks]) ∧ ((True) ∧ ((True) ∧ ((True) ∧ (True))))))) ⟨[.agg [(I6 n), tl ks], (I6 m), .ptr 0 0, U6, (I6 0), (I6 x), (I6 (↑i : Int)), (I6 (↑i : Int)), .ptr 0 1, tl ks, (I6 (↑(List.length ks) : Int)), (B6 (decide ((↑i : Int) < (↑(List.length ks) : Int)))), (B6 (decide ((↑i : Int) < (↑(List.length ks) : Int))))] ++ UU 18, [⟨[(I6 n), tl ks], 2, .fresh⟩]⟩ (by kernel_rfl) ⟨trivial, ⟨trivial, ⟨(by simp), ⟨trivial, ⟨trivial, ⟨trivial, trivial⟩⟩⟩⟩⟩⟩ ?_
    cases h2 : (decide ((↑i : Int) < (↑(List.length ks) : Int)))
    · have h2' := of_decide_eq_false h2
      refine DerQ.run ((True) ∧ (True)) ⟨[.agg [(I6 n), tl ks], (I6 m), .ptr 0 0, U6, (I6 0), (I6 x), (I6 (↑i : Int)), (I6 (↑i : Int)), .ptr 0 1, tl ks, (I6 (↑(List.length ks) : Int)), (B6 false), (B6 false), .tup [], .tup [], .tup [], (B6 false)] ++ UU 14, [⟨[(I6 n), tl ks], 2, .fresh⟩]⟩ (by kernel_rfl) ⟨trivial, trivial⟩ ?_
      refine AWP.cond (b := false) (by kernel_rfl) (fun h => nomatch h) (fun _ => ?_)
      refine AWP.exit ?_
      refine AWP.seq ?_
      refine AWP.reg ?_
      refine DerQ.run (TT 2) ⟨[.agg [(I6 n), tl ks], (I6 m), .ptr 0 0, U6, (I6 x), (I6 x), (I6 (↑i : Int)), (I6 (↑i : Int)), .ptr 0 1, tl ks, (I6 (↑(List.length ks) : Int)), (B6 false), (B6 false), .tup [], .tup [], .tup [], (B6 false)] ++ UU 13 ++ [(I6 x)], [⟨[(I6 n), tl ks], 2, .fresh⟩]⟩ (by kernel_rfl) (tt 2) ?_
      refine AWP.ret ?_
      refine EvF.fin (.sc (.int .i64 (x))) _ (by simp) (by kernel_rfl) ?_
      refine Shrink.all ?_ rfl
      (rw [size_end (by omega) hx (by omega)]; done)
    · have h2' := of_decide_eq_true h2
      refine DerQ.run (TT 4) ⟨[.agg [(I6 n), tl ks], (I6 m), .ptr 0 0, U6, (I6 0), (I6 x), (I6 (↑i : Int)), (I6 (↑i : Int)), .ptr 0 1, tl ks, (I6 (↑(List.length ks) : Int)), (B6 true), (B6 true), (I6 x), (I6 m), (B6 (decide (x ≤ m))), (B6 (decide (x ≤ m)))] ++ UU 14, [⟨[(I6 n), tl ks], 2, .fresh⟩]⟩ (by kernel_rfl) (tt 4) ?_
      refine AWP.cond (b := decide (x ≤ m)) (by kernel_rfl) (fun h3 => ?_) (fun h3 => ?_)
      · have h3' := of_decide_eq_true h3
        refine AWP.skip ?_
        refine AWP.seq ?_
        refine AWP.block ?_
        refine AWP.reg ?_
        refine DerQ.pre 9 ((True) ∧ ((True) ∧ ((1 < List.length [(I6 n), tl ks]) ∧ ((True) ∧ ((((0 ≤ (↑i : Int)) ∧ ((↑i : Int) < (↑(List.length ks) : Int))) ∧ (Int.toNat (↑i : Int) * 2 + 2 ≤ List.length (tcs ks))) ∧ ((2 ≤ List.length [List.getD (tcs ks) (Int.toNat (↑i : Int) * 2 + 0) U6, List.getD (tcs ks) (Int.toNat (↑i : Int) * 2 + 1) AVal.undef]) ∧ ((True) ∧ ((True) ∧ ((True) ∧ (True)))))))))) ⟨[.agg [(I6 n), tl ks], (I6 m), .ptr 0 0, U6, (I6 0), (I6 x), (I6 (↑i : Int)), (I6 (↑i : Int)), .ptr 0 1, tl ks, (I6 (↑(List.length ks) : Int)), (B6 true), (B6 true), (I6 x), (I6 m), (B6 (decide (x ≤ m))), (B6 (decide (x ≤ m))), U6, U6, (I6 x), .ptr 0 1, tl ks, (I6 (↑i : Int)), .dptr [List.getD (tcs ks) (Int.toNat (↑i : Int) * 2 + 0) U6, List.getD (tcs ks) (Int.toNat (↑i : Int) * 2 + 1) AVal.undef], .agg [List.getD (tcs ks) (Int.toNat (↑i : Int) * 2 + 0) U6, List.getD (tcs ks) (Int.toNat (↑i : Int) * 2 + 1) AVal.undef], (I6 m), (I6 x), (I6 (IntKind.wrap IntKind.i64 (m - x))), U6, U6, .undef], [⟨[(I6 n), tl ks], 2, .fresh⟩]⟩ (by kernel_rfl) ⟨trivial, ⟨trivial, ⟨(by simp), ⟨trivial, ⟨⟨⟨(by omega), (by omega)⟩, (by (simp [spliceA_length] <;> omega))⟩, ⟨(by simp), ⟨trivial, ⟨trivial, ⟨trivial, trivial⟩⟩⟩⟩⟩⟩⟩⟩⟩ ?_
        rw [IntWalk.i64_in (m - x) (by omega)]
        rw [Int.toNat_natCast (i)]
        rw [Nat.add_zero (i * 2)]
        rw [Go.Tr.tcs_cells (ks) (i) (by omega)]
        refine DerQ.callD (ih (T.n (List.getD ks i default)) (T.ks (List.getD ks i default)) (m - x) (by (exact size_kid hN (by omega))) (by omega) (by omega)) ⟨[.agg [(I6 n), tl ks], (I6 m), .ptr 0 0, U6, (I6 0), (I6 x), (I6 (↑i : Int)), (I6 (↑i : Int)), .ptr 0 1, tl ks, (I6 (↑(List.length ks) : Int)), (B6 true), (B6 true), (I6 x), (I6 m), (B6 (decide (x ≤ m))), (B6 (decide (x ≤ m))), U6, U6, (I6 x), .ptr 0 1, tl ks, (I6 (↑i : Int)), .dptr [(I6 (T.n (List.getD ks i default))), tl (T.ks (List.getD ks i default))], .agg [(I6 (T.n (List.getD ks i default))), tl (T.ks (List.getD ks i default))], (I6 m), (I6 x), (I6 (m - x)), (I6 (minI (size (T.mk (T.n (List.getD ks i default)) (T.ks (List.getD ks i default)))) (m - x))), U6, .undef], [⟨[(I6 n), tl ks], 2, .fresh⟩]⟩ ⟨by kernel_rfl, by kernel_rfl, by kernel_rfl⟩ ?_
        refine DerQ.run (TT 2) ⟨[.agg [(I6 n), tl ks], (I6 m), .ptr 0 0, U6, (I6 0), (I6 (IntKind.wrap IntKind.i64 (x + minI (size (T.mk (T.n (List.getD ks i default)) (T.ks (List.getD ks i default)))) (m - x)))), (I6 (↑i : Int)), (I6 (↑i : Int)), .ptr 0 1, tl ks, (I6 (↑(List.length ks) : Int)), (B6 true), (B6 true), (I6 x), (I6 m), (B6 (decide (x ≤ m))), (B6 (decide (x ≤ m))), U6, U6, (I6 x), .ptr 0 1, tl ks, (I6 (↑i : Int)), .dptr [(I6 (T.n (List.getD ks i default))), tl (T.ks (List.getD ks i default))], .agg [(I6 (T.n (List.getD ks i default))), tl (T.ks (List.getD ks i default))], (I6 m), (I6 x), (I6 (m - x)), (I6 (minI (size (T.mk (T.n (List.getD ks i default)) (T.ks (List.getD ks i default)))) (m - x))), (I6 (IntKind.wrap IntKind.i64 (x + minI (size (T.mk (T.n (List.getD ks i default)) (T.ks (List.getD ks i default)))) (m - x)))), .undef], [⟨[(I6 n), tl ks], 2, .fresh⟩]⟩ (by kernel_rfl) (tt 2) ?_
        refine AWP.reg ?_
        refine DerQ.run (TT 3) ⟨[.agg [(I6 n), tl ks], (I6 m), .ptr 0 0, U6, (I6 0), (I6 (IntKind.wrap IntKind.i64 (x + minI (size (T.mk (T.n (List.getD ks i default)) (T.ks (List.getD ks i default)))) (m - x)))), (I6 (IntKind.wrap IntKind.i64 ((↑i : Int) + 1))), (I6 (↑i : Int)), .ptr 0 1, tl ks, (I6 (↑(List.length ks) : Int)), (B6 true), (B6 true), (I6 x), (I6 m), (B6 (decide (x ≤ m))), (B6 (decide (x ≤ m))), (I6 (↑i : Int)), (I6 (IntKind.wrap IntKind.i64 ((↑i : Int) + 1))), (I6 x), .ptr 0 1, tl ks, (I6 (↑i : Int)), .dptr [(I6 (T.n (List.getD ks i default))), tl (T.ks (List.getD ks i default))], .agg [(I6 (T.n (List.getD ks i default))), tl (T.ks (List.getD ks i default))], (I6 m), (I6 x), (I6 (m - x)), (I6 (minI (size (T.mk (T.n (List.getD ks i default)) (T.ks (List.getD ks i default)))) (m - x))), (I6 (IntKind.wrap IntKind.i64 (x + minI (size (T.mk (T.n (List.getD ks i default)) (T.ks (List.getD ks i default)))) (m - x)))), .undef], [⟨[(I6 n), tl ks], 2, .fresh⟩]⟩ (by kernel_rfl) (tt 3) ?_
        rw [IntWalk.i64_in ((↑i : Int) + 1) (by omega)]
        (have hs := size_step (m := m) (by omega) hx (by omega); have hle := minI_le (1 + sizes (ks.take (i + 1))) m; have hr := minI_pos (m := m - x) (size_pos (.mk (ks.getD i default).n (ks.getD i default).ks)) (by omega); rw [hs, IntWalk.i64_in (minI (1 + sizes (ks.take (i + 1))) m) (by omega)]; exact ⟨_, by omega, i + 1, _, rfl, by omega, rfl, by omega, by omega, by kernel_rfl⟩; done)
      · have h3' := of_decide_eq_false h3
        refine AWP.exit ?_
        refine AWP.seq ?_
        refine AWP.reg ?_
        refine DerQ.run (TT 2) ⟨[.agg [(I6 n), tl ks], (I6 m), .ptr 0 0, U6, (I6 x), (I6 x), (I6 (↑i : Int)), (I6 (↑i : Int)), .ptr 0 1, tl ks, (I6 (↑(List.length ks) : Int)), (B6 true), (B6 true), (I6 x), (I6 m), (B6 (decide (x ≤ m))), (B6 (decide (x ≤ m)))] ++ UU 13 ++ [(I6 x)], [⟨[(I6 n), tl ks], 2, .fresh⟩]⟩ (by kernel_rfl) (tt 2) ?_
        refine AWP.ret ?_
        refine EvF.fin (.sc (.int .i64 (x))) _ (by simp) (by kernel_rfl) ?_
        refine Shrink.all ?_ rfl
        (rw [size_end (by omega) hx (by omega)]; done)

theorem getD_ext {a b : List T} (hl : a.length = b.length) (h : ∀ i, i < a.length → a.getD i default = b.getD i default) : a = b := by
  apply List.ext_getElem hl
  intro i h1 h2
  have := h i h1
  simpa [List.getD_eq_getElem?_getD, h1, h2] using this
theorem bfalse {a b : T} (h : a ≠ b) : AVal.sc (.bool false) = .sc (.bool (beqT a b)) := by
  cases e : beqT a b
  · rfl
  · exact absurd ((beqT_iff a b).1 e) h
theorem bfalses {a b : List T} (h : a ≠ b) : AVal.sc (.bool false) = .sc (.bool (beqTs a b)) := by
  cases e : beqTs a b
  · rfl
  · exact absurd ((beqTs_iff a b).1 e) h
theorem btrues {a b : List T} (h : a = b) : AVal.sc (.bool true) = .sc (.bool (beqTs a b)) := by rw [(beqTs_iff a b).2 h]
theorem btrue {a b : T} (h : a = b) : AVal.sc (.bool true) = .sc (.bool (beqT a b)) := by rw [(beqT_iff a b).2 h]
theorem not_of_beq {a b : T} (h : beqT a b = false) : a ≠ b := fun e => by rw [(beqT_iff a b).2 e] at h; cases h
theorem of_beq {a b : T} (h : beqT a b = true) : a = b := (beqT_iff a b).1 h
theorem not_of_nbeq {a b : T} (h : (!beqT a b) = true) : a ≠ b := not_of_beq (by simpa using h)
theorem of_nbeq {a b : T} (h : (!beqT a b) = false) : a = b := of_beq (by simpa using h)
theorem beqTs_snoc {a b : List T} {i : Nat} (hd : ∀ j, j < i → a.getD j default = b.getD j default) (h : a.getD i default = b.getD i default) : ∀ j, j < i + 1 → a.getD j default = b.getD j default := by
  intro j hj
  by_cases e : j = i
  · subst e; exact h
  · exact hd j (by omega)

theorem eqf67 (ks ls : List T) (hlen : ks.length ≤ 1000000000) (hf : ∀ i, i < ks.length → i < ls.length → EvD Try.prog 67 [.agg [.sc (.int .i64 (ks.getD i default).n), .sl (tcs (ks.getD i default).ks) (ks.getD i default).ks.length .any], .agg [.sc (.int .i64 (ls.getD i default).n), .sl (tcs (ls.getD i default).ks) (ls.getD i default).ks.length .any]] (.sc (.bool (beqT (ks.getD i default) (ls.getD i default))))) : EvD Try.prog 107 [.sl (tcs ks) ks.length .any, .sl (tcs ls) ls.length .any, .fn 67 []] (.sc (.bool (beqTs ks ls))) := by
  refine EvD.body Try.func107 rfl rfl rfl ?_
  refine AWP.seq ?_
  refine AWP.reg ?_
  refine DerQ.run ((True) ∧ (True)) ⟨[tl ks, tl ls, .fn 67 [], U6, U6, U6, (B6 false)] ++ UU 25, []⟩ (by kernel_rfl) ⟨trivial, trivial⟩ ?_
  refine AWP.seq ?_
  refine AWP.seq ?_
  refine AWP.reg ?_
  refine DerQ.run (TT 5) ⟨[tl ks, tl ls, .fn 67 [], U6, U6, U6, (B6 false), U6, U6, U6, tl ks, (I6 (↑(List.length ks) : Int)), tl ls, (I6 (↑(List.length ls) : Int)), (B6 ((↑(List.length ks) : Int) != (↑(List.length ls) : Int)))] ++ UU 17, []⟩ (by kernel_rfl) (tt 5) ?_
  refine AWP.cond (b := (↑(List.length ks) : Int) != (↑(List.length ls) : Int)) (by kernel_rfl) (fun h1 => ?_) (fun h1 => ?_)
  · have h1' := bne_iff_ne.1 h1
    refine AWP.seq ?_
    refine AWP.reg ?_
    refine DerQ.run ((True) ∧ (True)) ⟨[tl ks, tl ls, .fn 67 [], U6, U6, U6, (B6 false), U6, U6, U6, tl ks, (I6 (↑(List.length ks) : Int)), tl ls, (I6 (↑(List.length ls) : Int)), (B6 ((↑(List.length ks) : Int) != (↑(List.length ls) : Int)))] ++ UU 17, []⟩ (by kernel_rfl) ⟨trivial, trivial⟩ ?_
    refine AWP.ret ?_
    refine EvF.fin (.sc (.bool false)) _ (by simp) (by kernel_rfl) ?_
    refine Shrink.all ?_ rfl
    (exact bfalses (fun e => by subst e; omega); done)
  · have h1' := bne_eq_false_iff_eq.1 h1
    refine AWP.skip ?_
    refine AWP.seq ?_
    refine AWP.seq ?_
    refine AWP.reg ?_
    refine DerQ.run (TT 3) ⟨[tl ks, tl ls, .fn 67 [], U6, U6, U6, (B6 false), U6, U6, U6, tl ks, (I6 (↑(List.length ks) : Int)), tl ls, (I6 (↑(List.length ls) : Int)), (B6 ((↑(List.length ks) : Int) != (↑(List.length ls) : Int))), tl ks, (I6 (↑(List.length ks) : Int)), (I6 0)] ++ UU 14, []⟩ (by kernel_rfl) (tt 3) ?_
    refine AWP.block ?_
    refine AWP.loopW [true, true, true, false, false, false, true, false, false, false, true, true, true, true, true, true, true, true, false, false, false, false, false, false, false, false, false, false, false, false, false, false] (fun kk st => ∃ (i : Nat), kk = ks.length - i ∧ i ≤ ks.length ∧ (∀ j, j < i → ks.getD j default = ls.getD j default) ∧ st = ⟨[tl ks, tl ls, .fn 67 [], U6, U6, U6, (B6 false), U6, U6, U6, tl ks, (I6 (↑(List.length ks) : Int)), tl ls, (I6 (↑(List.length ls) : Int)), (B6 ((↑(List.length ks) : Int) != (↑(List.length ls) : Int))), tl ks, (I6 (↑(List.length ks) : Int)), (I6 (i : Int)), U6, U6, U6, U6, U6, U6, U6, U6, U6, U6, U6, U6, U6, .undef], []⟩) _ ⟨0, rfl, by omega, fun j hj => absurd hj (by omega), rfl⟩ ?_
    rintro kk s ⟨i, rfl, hi, hd, rfl⟩
    refine AWP.seq ?_
    refine AWP.reg ?_
    refine DerQ.run ((True) ∧ (True)) ⟨[tl ks, tl ls, .fn 67 [], U6, U6, U6, (B6 false), U6, U6, U6, tl ks, (I6 (↑(List.length ks) : Int)), tl ls, (I6 (↑(List.length ls) : Int)), (B6 ((↑(List.length ks) : Int) != (↑(List.length ls) : Int))), tl ks, (I6 (↑(List.length ks) : Int)), (I6 (↑i : Int)), (B6 (decide ((↑i : Int) < (↑(List.length ks) : Int))))] ++ UU 13, []⟩ (by kernel_rfl) ⟨trivial, trivial⟩ ?_
    refine AWP.seq ?_
    refine AWP.cond (b := decide ((↑i : Int) < (↑(List.length ks) : Int))) (by kernel_rfl) (fun h2 => ?_) (fun h2 => ?_)
    · have h2' := of_decide_eq_true h2
      refine AWP.skip ?_
      refine AWP.seq ?_
      refine AWP.block ?_
      refine AWP.seq ?_
      refine AWP.reg ?_
      refine DerQ.pre 5 ((True) ∧ ((((0 ≤ (↑i : Int)) ∧ ((↑i : Int) < (↑(List.length ks) : Int))) ∧ (Int.toNat (↑i : Int) * 2 + 2 ≤ List.length (tcs ks))) ∧ ((2 ≤ List.length [List.getD (tcs ks) (Int.toNat (↑i : Int) * 2 + 0) U6, List.getD (tcs ks) (Int.toNat (↑i : Int) * 2 + 1) AVal.undef]) ∧ ((True) ∧ ((True) ∧ (True)))))) ⟨[tl ks, tl ls, .fn 67 [], U6, U6, U6, (B6 false), (I6 (↑i : Int)), .ptr 0 0, U6, tl ks, (I6 (↑(List.length ks) : Int)), tl ls, (I6 (↑(List.length ls) : Int)), (B6 ((↑(List.length ks) : Int) != (↑(List.length ls) : Int))), tl ks, (I6 (↑(List.length ks) : Int)), (I6 (↑i : Int)), (B6 (decide ((↑i : Int) < (↑(List.length ks) : Int)))), (I6 (↑i : Int)), .dptr [List.getD (tcs ks) (Int.toNat (↑i : Int) * 2 + 0) U6, List.getD (tcs ks) (Int.toNat (↑i : Int) * 2 + 1) AVal.undef], .agg [List.getD (tcs ks) (Int.toNat (↑i : Int) * 2 + 0) U6, List.getD (tcs ks) (Int.toNat (↑i : Int) * 2 + 1) AVal.undef]] ++ UU 10, [⟨[(I6 0), .sl [] 0 .nil], 2, .fresh⟩]⟩ (by kernel_rfl) ⟨trivial, ⟨⟨⟨(by omega), (by omega)⟩, (by (simp [spliceA_length] <;> omega))⟩, ⟨(by simp), ⟨trivial, ⟨trivial, trivial⟩⟩⟩⟩⟩ ?_
      rw [Int.toNat_natCast (i)]
      rw [Nat.add_zero (i * 2)]
      rw [Go.Tr.tcs_cells (ks) (i) (by omega)]
      refine DerQ.run (((2 : Nat) ≤ (2 : Nat)) ∧ (True)) ⟨[tl ks, tl ls, .fn 67 [], U6, U6, U6, (B6 false), (I6 (↑i : Int)), .ptr 0 0, U6, tl ks, (I6 (↑(List.length ks) : Int)), tl ls, (I6 (↑(List.length ls) : Int)), (B6 ((↑(List.length ks) : Int) != (↑(List.length ls) : Int))), tl ks, (I6 (↑(List.length ks) : Int)), (I6 (↑i : Int)), (B6 (decide ((↑i : Int) < (↑(List.length ks) : Int)))), (I6 (↑i : Int)), .dptr [(I6 (T.n (List.getD ks i default))), tl (T.ks (List.getD ks i default))], .agg [(I6 (T.n (List.getD ks i default))), tl (T.ks (List.getD ks i default))]] ++ UU 10, [⟨[(I6 (T.n (List.getD ks i default))), tl (T.ks (List.getD ks i default))], 2, .fresh⟩]⟩ (by kernel_rfl) ⟨(by omega), trivial⟩ ?_
      refine AWP.seq ?_
      refine AWP.reg ?_
      refine DerQ.pre 5 ((True) ∧ ((True) ∧ ((((0 ≤ (↑i : Int)) ∧ ((↑i : Int) < (↑(List.length ls) : Int))) ∧ (Int.toNat (↑i : Int) * 2 + 2 ≤ List.length (tcs ls))) ∧ ((2 ≤ List.length [List.getD (tcs ls) (Int.toNat (↑i : Int) * 2 + 0) U6, List.getD (tcs ls) (Int.toNat (↑i : Int) * 2 + 1) AVal.undef]) ∧ ((True) ∧ (True)))))) ⟨[tl ks, tl ls, .fn 67 [], U6, U6, U6, (B6 false), (I6 (↑i : Int)), .ptr 0 0, .ptr 1 0, tl ks, (I6 (↑(List.length ks) : Int)), tl ls, (I6 (↑(List.length ls) : Int)), (B6 ((↑(List.length ks) : Int) != (↑(List.length ls) : Int))), tl ks, (I6 (↑(List.length ks) : Int)), (I6 (↑i : Int)), (B6 (decide ((↑i : Int) < (↑(List.length ks) : Int)))), (I6 (↑i : Int)), .dptr [(I6 (T.n (List.getD ks i default))), tl (T.ks (List.getD ks i default))], .agg [(I6 (T.n (List.getD ks i default))), tl (T.ks (List.getD ks i default))], tl ls, (I6 (↑i : Int)), .dptr [List.getD (tcs ls) (Int.toNat (↑i : Int) * 2 + 0) U6, List.getD (tcs ls) (Int.toNat (↑i : Int) * 2 + 1) AVal.undef], .agg [List.getD (tcs ls) (Int.toNat (↑i : Int) * 2 + 0) U6, List.getD (tcs ls) (Int.toNat (↑i : Int) * 2 + 1) AVal.undef]] ++ UU 6, [⟨[(I6 (T.n (List.getD ks i default))), tl (T.ks (List.getD ks i default))], 2, .fresh⟩, ⟨[(I6 0), .sl [] 0 .nil], 2, .fresh⟩]⟩ (by kernel_rfl) ⟨trivial, ⟨trivial, ⟨⟨⟨(by omega), (by omega)⟩, (by (simp [spliceA_length] <;> omega))⟩, ⟨(by simp), ⟨trivial, trivial⟩⟩⟩⟩⟩ ?_
      rw [Int.toNat_natCast (i)]
      rw [Nat.add_zero (i * 2)]
      rw [Go.Tr.tcs_cells (ls) (i) (by omega)]
      refine DerQ.run (((2 : Nat) ≤ (2 : Nat)) ∧ (True)) ⟨[tl ks, tl ls, .fn 67 [], U6, U6, U6, (B6 false), (I6 (↑i : Int)), .ptr 0 0, .ptr 1 0, tl ks, (I6 (↑(List.length ks) : Int)), tl ls, (I6 (↑(List.length ls) : Int)), (B6 ((↑(List.length ks) : Int) != (↑(List.length ls) : Int))), tl ks, (I6 (↑(List.length ks) : Int)), (I6 (↑i : Int)), (B6 (decide ((↑i : Int) < (↑(List.length ks) : Int)))), (I6 (↑i : Int)), .dptr [(I6 (T.n (List.getD ks i default))), tl (T.ks (List.getD ks i default))], .agg [(I6 (T.n (List.getD ks i default))), tl (T.ks (List.getD ks i default))], tl ls, (I6 (↑i : Int)), .dptr [(I6 (T.n (List.getD ls i default))), tl (T.ks (List.getD ls i default))], .agg [(I6 (T.n (List.getD ls i default))), tl (T.ks (List.getD ls i default))]] ++ UU 6, [⟨[(I6 (T.n (List.getD ks i default))), tl (T.ks (List.getD ks i default))], 2, .fresh⟩, ⟨[(I6 (T.n (List.getD ls i default))), tl (T.ks (List.getD ls i default))], 2, .fresh⟩]⟩ (by kernel_rfl) ⟨(by omega), trivial⟩ ?_
      refine AWP.seq ?_
      refine AWP.reg ?_
      refine DerQ.pre 3 ((True) ∧ ((2 ≤ List.length [(I6 (T.n (List.getD ks i default))), tl (T.ks (List.getD ks i default))]) ∧ ((2 ≤ List.length [(I6 (T.n (List.getD ls i default))), tl (T.ks (List.getD ls i default))]) ∧ (True)))) ⟨[tl ks, tl ls, .fn 67 [], U6, U6, U6, (B6 false), (I6 (↑i : Int)), .ptr 0 0, .ptr 1 0, tl ks, (I6 (↑(List.length ks) : Int)), tl ls, (I6 (↑(List.length ls) : Int)), (B6 ((↑(List.length ks) : Int) != (↑(List.length ls) : Int))), tl ks, (I6 (↑(List.length ks) : Int)), (I6 (↑i : Int)), (B6 (decide ((↑i : Int) < (↑(List.length ks) : Int)))), (I6 (↑i : Int)), .dptr [(I6 (T.n (List.getD ks i default))), tl (T.ks (List.getD ks i default))], .agg [(I6 (T.n (List.getD ks i default))), tl (T.ks (List.getD ks i default))], tl ls, (I6 (↑i : Int)), .dptr [(I6 (T.n (List.getD ls i default))), tl (T.ks (List.getD ls i default))], .agg [(I6 (T.n (List.getD ls i default))), tl (T.ks (List.getD ls i default))], .fn 67 [], .agg [(I6 (T.n (List.getD ks i default))), tl (T.ks (List.getD ks i default))], .agg [(I6 (T.n (List.getD ls i default))), tl (T.ks (List.getD ls i default))], U6, U6, .undef], [⟨[(I6 (T.n (List.getD ks i default))), tl (T.ks (List.getD ks i default))], 2, .fresh⟩, ⟨[(I6 (T.n (List.getD ls i default))), tl (T.ks (List.getD ls i default))], 2, .fresh⟩]⟩ (by kernel_rfl) ⟨trivial, ⟨(by simp), ⟨(by simp), trivial⟩⟩⟩ ?_
      refine DerQ.callD (hf i (by omega) (by omega)) ⟨[tl ks, tl ls, .fn 67 [], U6, U6, U6, (B6 false), (I6 (↑i : Int)), .ptr 0 0, .ptr 1 0, tl ks, (I6 (↑(List.length ks) : Int)), tl ls, (I6 (↑(List.length ls) : Int)), (B6 ((↑(List.length ks) : Int) != (↑(List.length ls) : Int))), tl ks, (I6 (↑(List.length ks) : Int)), (I6 (↑i : Int)), (B6 (decide ((↑i : Int) < (↑(List.length ks) : Int)))), (I6 (↑i : Int)), .dptr [(I6 (T.n (List.getD ks i default))), tl (T.ks (List.getD ks i default))], .agg [(I6 (T.n (List.getD ks i default))), tl (T.ks (List.getD ks i default))], tl ls, (I6 (↑i : Int)), .dptr [(I6 (T.n (List.getD ls i default))), tl (T.ks (List.getD ls i default))], .agg [(I6 (T.n (List.getD ls i default))), tl (T.ks (List.getD ls i default))], .fn 67 [], .agg [(I6 (T.n (List.getD ks i default))), tl (T.ks (List.getD ks i default))], .agg [(I6 (T.n (List.getD ls i default))), tl (T.ks (List.getD ls i default))], (B6 (beqT (List.getD ks i default) (List.getD ls i default))), U6, .undef], [⟨[(I6 (T.n (List.getD ks i default))), tl (T.ks (List.getD ks i default))], 2, .fresh⟩, ⟨[(I6 (T.n (List.getD ls i default))), tl (T.ks (List.getD ls i default))], 2, .fresh⟩]⟩ ⟨by kernel_rfl, by kernel_rfl, by kernel_rfl⟩ ?_
      refine DerQ.run ((True) ∧ (True)) ⟨[tl ks, tl ls, .fn 67 [], U6, U6, U6, (B6 false), (I6 (↑i : Int)), .ptr 0 0, .ptr 1 0, tl ks, (I6 (↑(List.length ks) : Int)), tl ls, (I6 (↑(List.length ls) : Int)), (B6 ((↑(List.length ks) : Int) != (↑(List.length ls) : Int))), tl ks, (I6 (↑(List.length ks) : Int)), (I6 (↑i : Int)), (B6 (decide ((↑i : Int) < (↑(List.length ks) : Int)))), (I6 (↑i : Int)), .dptr [(I6 (T.n (List.getD ks i default))), tl (T.ks (List.getD ks i default))], .agg [(I6 (T.n (List.getD ks i default))), tl (T.ks (List.getD ks i default))], tl ls, (I6 (↑i : Int)), .dptr [(I6 (T.n (List.getD ls i default))), tl (T.ks (List.getD ls i default))], .agg [(I6 (T.n (List.getD ls i default))), tl (T.ks (List.getD ls i default))], .fn 67 [], .agg [(I6 (T.n (List.getD ks i default))), tl (T.ks (List.getD ks i default))], .agg [(I6 (T.n (List.getD ls i default))), tl (T.ks (List.getD ls i default))], (B6 (beqT (List.getD ks i default) (List.getD ls i default))), (B6 (!beqT (List.getD ks i default) (List.getD ls i default))), .undef], [⟨[(I6 (T.n (List.getD ks i default))), tl (T.ks (List.getD ks i default))], 2, .fresh⟩, ⟨[(I6 (T.n (List.getD ls i default))), tl (T.ks (List.getD ls i default))], 2, .fresh⟩]⟩ (by kernel_rfl) ⟨trivial, trivial⟩ ?_
      refine AWP.cond (b := !beqT (List.getD ks i default) (List.getD ls i default)) (by kernel_rfl) (fun h3 => ?_) (fun h3 => ?_)
      · have h3' := h3
        simp only [Bool.and_eq_true, Bool.and_eq_false_iff, Bool.or_eq_true, Bool.or_eq_false_iff, Bool.not_eq_true', Bool.not_eq_false', beq_iff_eq, beq_eq_false_iff_ne, decide_eq_true_eq, decide_eq_false_iff_not, ne_eq] at h3'
        refine AWP.seq ?_
        refine AWP.reg ?_
        refine DerQ.run ((True) ∧ (True)) ⟨[tl ks, tl ls, .fn 67 [], U6, U6, U6, (B6 false), (I6 (↑i : Int)), .ptr 0 0, .ptr 1 0, tl ks, (I6 (↑(List.length ks) : Int)), tl ls, (I6 (↑(List.length ls) : Int)), (B6 ((↑(List.length ks) : Int) != (↑(List.length ls) : Int))), tl ks, (I6 (↑(List.length ks) : Int)), (I6 (↑i : Int)), (B6 (decide ((↑i : Int) < (↑(List.length ks) : Int)))), (I6 (↑i : Int)), .dptr [(I6 (T.n (List.getD ks i default))), tl (T.ks (List.getD ks i default))], .agg [(I6 (T.n (List.getD ks i default))), tl (T.ks (List.getD ks i default))], tl ls, (I6 (↑i : Int)), .dptr [(I6 (T.n (List.getD ls i default))), tl (T.ks (List.getD ls i default))], .agg [(I6 (T.n (List.getD ls i default))), tl (T.ks (List.getD ls i default))], .fn 67 [], .agg [(I6 (T.n (List.getD ks i default))), tl (T.ks (List.getD ks i default))], .agg [(I6 (T.n (List.getD ls i default))), tl (T.ks (List.getD ls i default))], (B6 (beqT (List.getD ks i default) (List.getD ls i default))), (B6 (!beqT (List.getD ks i default) (List.getD ls i default))), .undef], [⟨[(I6 (T.n (List.getD ks i default))), tl (T.ks (List.getD ks i default))], 2, .fresh⟩, ⟨[(I6 (T.n (List.getD ls i default))), tl (T.ks (List.getD ls i default))], 2, .fresh⟩]⟩ (by kernel_rfl) ⟨trivial, trivial⟩ ?_
        refine AWP.ret ?_
        refine EvF.fin (.sc (.bool false)) _ (by simp) (by kernel_rfl) ?_
        refine Shrink.all ?_ rfl
        (exact bfalses (fun e => by subst e; exact not_of_nbeq (by assumption) rfl); done)
      · have h3' := h3
        simp only [Bool.and_eq_true, Bool.and_eq_false_iff, Bool.or_eq_true, Bool.or_eq_false_iff, Bool.not_eq_true', Bool.not_eq_false', beq_iff_eq, beq_eq_false_iff_ne, decide_eq_true_eq, decide_eq_false_iff_not, ne_eq] at h3'
        refine AWP.skip ?_
        refine AWP.reg ?_
        refine DerQ.run (TT 2) ⟨[tl ks, tl ls, .fn 67 [], U6, U6, U6, (B6 false), (I6 (↑i : Int)), .ptr 0 0, .ptr 1 0, tl ks, (I6 (↑(List.length ks) : Int)), tl ls, (I6 (↑(List.length ls) : Int)), (B6 ((↑(List.length ks) : Int) != (↑(List.length ls) : Int))), tl ks, (I6 (↑(List.length ks) : Int)), (I6 (IntKind.wrap IntKind.i64 ((↑i : Int) + 1))), (B6 (decide ((↑i : Int) < (↑(List.length ks) : Int)))), (I6 (↑i : Int)), .dptr [(I6 (T.n (List.getD ks i default))), tl (T.ks (List.getD ks i default))], .agg [(I6 (T.n (List.getD ks i default))), tl (T.ks (List.getD ks i default))], tl ls, (I6 (↑i : Int)), .dptr [(I6 (T.n (List.getD ls i default))), tl (T.ks (List.getD ls i default))], .agg [(I6 (T.n (List.getD ls i default))), tl (T.ks (List.getD ls i default))], .fn 67 [], .agg [(I6 (T.n (List.getD ks i default))), tl (T.ks (List.getD ks i default))], .agg [(I6 (T.n (List.getD ls i default))), tl (T.ks (List.getD ls i default))], (B6 (beqT (List.getD ks i default) (List.getD ls i default))), (B6 (!beqT (List.getD ks i default) (List.getD ls i default))), (I6 (IntKind.wrap IntKind.i64 ((↑i : Int) + 1)))], [⟨[(I6 (T.n (List.getD ks i default))), tl (T.ks (List.getD ks i default))], 2, .fresh⟩, ⟨[(I6 (T.n (List.getD ls i default))), tl (T.ks (List.getD ls i default))], 2, .fresh⟩]⟩ (by kernel_rfl) (tt 2) ?_
        rw [IntWalk.i64_in ((↑i : Int) + 1) (by omega)]
        (exact ⟨_, by omega, _, Weak.cut 0 (by kernel_rfl) (by kernel_rfl) (by simp) (by simp [ltAll, AVal.refLt]) (by simp [dataAll, AVal.data]), i + 1, rfl, by omega, beqTs_snoc hd (of_nbeq (by assumption)), rfl⟩; done)
    · have h2' := of_decide_eq_false h2
      refine AWP.exit ?_
      refine AWP.seq ?_
      refine AWP.reg ?_
      refine DerQ.run ((True) ∧ (True)) ⟨[tl ks, tl ls, .fn 67 [], U6, U6, U6, (B6 true), U6, U6, U6, tl ks, (I6 (↑(List.length ks) : Int)), tl ls, (I6 (↑(List.length ls) : Int)), (B6 ((↑(List.length ks) : Int) != (↑(List.length ls) : Int))), tl ks, (I6 (↑(List.length ks) : Int)), (I6 (↑i : Int)), (B6 (decide ((↑i : Int) < (↑(List.length ks) : Int))))] ++ UU 13, []⟩ (by kernel_rfl) ⟨trivial, trivial⟩ ?_
      refine AWP.ret ?_
      refine EvF.fin (.sc (.bool true)) _ (by simp) (by kernel_rfl) ?_
      refine Shrink.all ?_ rfl
      (exact btrues (getD_ext (by omega) (fun j hj => hd j (by omega))); done)

end Go.Tr
