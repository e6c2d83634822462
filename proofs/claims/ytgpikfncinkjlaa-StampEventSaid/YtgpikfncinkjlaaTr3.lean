/- Walks and laws. -/
import Derived.Test.YtgpikfncinkjlaaTr2
import Derived.Test.YtgpikfncinkjlaaLibB
set_option maxRecDepth 100000
set_option maxHeartbeats 0
set_option linter.unusedSimpArgs false
set_option linter.unusedVariables false
namespace Go.Tr
open Go Go.Abs Go.Proofs
theorem len_of_size {n : Int} {ks : List T} {N : Nat} (h : size (.mk n ks) ≤ N) (hN : N ≤ 1000000000) : ks.length ≤ 1000000000 := by
  have := length_sizes ks; rw [size] at h; omega
theorem beqT_mk {n m : Int} {ks ls : List T} (h : n = m) : AVal.sc (.bool (beqTs ks ls)) = .sc (.bool (beqT (.mk n ks) (.mk m ls))) := by
  rw [beqT, h]; simp
theorem alike (ks ls : List T) (q : EvD Try.prog 107 [.sl (tcs ks) ks.length .any, .sl (tcs ls) ls.length .any, .fn 94 []] (.sc (.bool (beqTs ks ls)))) : EvD Try.prog 116 [.sl (tcs ks) ks.length .any, .sl (tcs ls) ls.length .any, .fn 94 []] (.sc (.bool (beqTs ks ls))) := by
  refine EvD.body Try.func116 rfl rfl rfl ?_
  refine SQ ?_
  refine DerQ.run (True ∧ True) ⟨[tl ks, tl ls, .fn 94 [], U6, U6, U6, (B6 false), U6, U6, U6, .undef], []⟩ (by kernel_rfl) ⟨trivial, trivial⟩ ?_
  refine SQ ?_
  refine DerQ.pre 3 (TT 3) ⟨[tl ks, tl ls, .fn 94 [], U6, U6, U6, (B6 false), tl ks, tl ls, .fn 94 [], .undef], []⟩ (by kernel_rfl) (tt 3) ?_
  refine DerQ.callD (q) ⟨[tl ks, tl ls, .fn 94 [], U6, U6, U6, (B6 false), tl ks, tl ls, .fn 94 [], (B6 (beqTs ks ls))], []⟩ ⟨by kernel_rfl, by kernel_rfl, by kernel_rfl⟩ ?_
  refine DerQ.run (True ∧ True) ⟨[tl ks, tl ls, .fn 94 [], U6, U6, U6, (B6 (beqTs ks ls)), tl ks, tl ls, .fn 94 [], (B6 (beqTs ks ls))], []⟩ (by kernel_rfl) ⟨trivial, trivial⟩ ?_
  refine AWP.ret FA
theorem same94 (N : Nat) (hN9 : N ≤ 1000000000) : ∀ (n m : Int) (ks ls : List T), size (.mk n ks) ≤ N → EvD Try.prog 94 [.agg [.sc (.int .i64 n), .sl (tcs ks) ks.length .any], .agg [.sc (.int .i64 m), .sl (tcs ls) ls.length .any]] (.sc (.bool (beqT (.mk n ks) (.mk m ls)))) := by
  induction N with
  | zero => intro n m ks ls h; rw [size] at h; omega
  | succ N ih =>
    intro n m ks ls hN
    refine EvD.body Try.func94 rfl rfl rfl ?_
    have q := eqf94 ks ls (len_of_size hN hN9) (fun i h1 h2 => by have := ih (by omega) (ks.getD i default).n (ls.getD i default).n (ks.getD i default).ks (ls.getD i default).ks (size_kid hN h1); rwa [T.mk_eta, T.mk_eta] at this)
    refine SQ ?_
    refine DerQ.run (TT 3) ⟨[.agg [(I6 n), tl ks], .agg [(I6 m), tl ls], .ptr 0 0, .ptr 1 0, (B6 false)] ++ UU 12, [⟨[(I6 n), tl ks], 2, .fresh⟩, ⟨[(I6 m), tl ls], 2, .fresh⟩]⟩ (by kernel_rfl) (tt 3) ?_
    refine SQ ?_
    refine DerQ.pre 6 (True ∧ (0 < List.length [(I6 n), tl ks]) ∧ True ∧ (0 < List.length [(I6 m), tl ls]) ∧ True ∧ True ∧ True) ⟨[.agg [(I6 n), tl ks], .agg [(I6 m), tl ls], .ptr 0 0, .ptr 1 0, (B6 false), .ptr 0 0, (I6 n), .ptr 1 0, (I6 m), (B6 (n == m)), (B6 (n == m))] ++ UU 6, [⟨[(I6 n), tl ks], 2, .fresh⟩, ⟨[(I6 m), tl ls], 2, .fresh⟩]⟩ (by kernel_rfl) ⟨trivial, (by simp), trivial, (by simp), trivial, trivial, trivial⟩ ?_
    cases h1 : (n == m)
    · have h1' := ne_of_beq_false h1
      refine DerQ.run (TT 2) ⟨[.agg [(I6 n), tl ks], .agg [(I6 m), tl ls], .ptr 0 0, .ptr 1 0, (B6 false), .ptr 0 0, (I6 n), .ptr 1 0, (I6 m), (B6 false), (B6 false), .tup [], .tup [], .tup [], .tup [], .tup [], (B6 false)], [⟨[(I6 n), tl ks], 2, .fresh⟩, ⟨[(I6 m), tl ls], 2, .fresh⟩]⟩ (by kernel_rfl) (tt 2) ?_
      refine AWP.ret ?_
      refine FI (.sc (.bool false)) ?_
      refine Shrink.all ?_ rfl
      (exact bfalse (fun e => by injection e; omega); done)
    · have h1' := eq_of_beq h1
      refine DerQ.pre 4 (True ∧ (1 < List.length [(I6 n), tl ks]) ∧ True ∧ (1 < List.length [(I6 m), tl ls]) ∧ True) ⟨[.agg [(I6 n), tl ks], .agg [(I6 m), tl ls], .ptr 0 0, .ptr 1 0, (B6 false), .ptr 0 0, (I6 n), .ptr 1 0, (I6 m), (B6 true), (B6 true), .ptr 0 1, tl ks, .ptr 1 1, tl ls, U6, .undef], [⟨[(I6 n), tl ks], 2, .fresh⟩, ⟨[(I6 m), tl ls], 2, .fresh⟩]⟩ (by kernel_rfl) ⟨trivial, (by simp), trivial, (by simp), trivial⟩ ?_
      refine DerQ.callD (alike ks ls q) ⟨[.agg [(I6 n), tl ks], .agg [(I6 m), tl ls], .ptr 0 0, .ptr 1 0, (B6 false), .ptr 0 0, (I6 n), .ptr 1 0, (I6 m), (B6 true), (B6 true), .ptr 0 1, tl ks, .ptr 1 1, tl ls, (B6 (beqTs ks ls)), .undef], [⟨[(I6 n), tl ks], 2, .fresh⟩, ⟨[(I6 m), tl ls], 2, .fresh⟩]⟩ ⟨by kernel_rfl, by kernel_rfl, by kernel_rfl⟩ ?_
      refine DerQ.run (TT 2) ⟨[.agg [(I6 n), tl ks], .agg [(I6 m), tl ls], .ptr 0 0, .ptr 1 0, (B6 (beqTs ks ls)), .ptr 0 0, (I6 n), .ptr 1 0, (I6 m), (B6 true), (B6 true), .ptr 0 1, tl ks, .ptr 1 1, tl ls, (B6 (beqTs ks ls)), (B6 (beqTs ks ls))], [⟨[(I6 n), tl ks], 2, .fresh⟩, ⟨[(I6 m), tl ls], 2, .fresh⟩]⟩ (by kernel_rfl) (tt 2) ?_
      refine AWP.ret ?_
      refine FI (.sc (.bool (beqTs ks ls))) ?_
      refine Shrink.all ?_ rfl
      (exact beqT_mk (by omega); done)
theorem same67 (N : Nat) (hN9 : N ≤ 1000000000) : ∀ (n m : Int) (ks ls : List T), size (.mk n ks) ≤ N → EvD Try.prog 67 [.agg [.sc (.int .i64 n), .sl (tcs ks) ks.length .any], .agg [.sc (.int .i64 m), .sl (tcs ls) ls.length .any]] (.sc (.bool (beqT (.mk n ks) (.mk m ls)))) := by
  induction N with
  | zero => intro n m ks ls h; rw [size] at h; omega
  | succ N ih =>
    intro n m ks ls hN
    refine EvD.body Try.func67 rfl rfl rfl ?_
    have q := eqf67 ks ls (len_of_size hN hN9) (fun i h1 h2 => by have := ih (by omega) (ks.getD i default).n (ls.getD i default).n (ks.getD i default).ks (ls.getD i default).ks (size_kid hN h1); rwa [T.mk_eta, T.mk_eta] at this)
    refine SQ ?_
    refine DerQ.run (TT 3) ⟨[.agg [(I6 n), tl ks], .agg [(I6 m), tl ls], .ptr 0 0, .ptr 1 0, (B6 false)] ++ UU 12, [⟨[(I6 n), tl ks], 2, .fresh⟩, ⟨[(I6 m), tl ls], 2, .fresh⟩]⟩ (by kernel_rfl) (tt 3) ?_
    refine SQ ?_
    refine DerQ.pre 6 (True ∧ (0 < List.length [(I6 n), tl ks]) ∧ True ∧ (0 < List.length [(I6 m), tl ls]) ∧ True ∧ True ∧ True) ⟨[.agg [(I6 n), tl ks], .agg [(I6 m), tl ls], .ptr 0 0, .ptr 1 0, (B6 false), .ptr 0 0, (I6 n), .ptr 1 0, (I6 m), (B6 (n == m)), (B6 (n == m))] ++ UU 6, [⟨[(I6 n), tl ks], 2, .fresh⟩, ⟨[(I6 m), tl ls], 2, .fresh⟩]⟩ (by kernel_rfl) ⟨trivial, (by simp), trivial, (by simp), trivial, trivial, trivial⟩ ?_
    cases h1 : (n == m)
    · have h1' := ne_of_beq_false h1
      refine DerQ.run (TT 2) ⟨[.agg [(I6 n), tl ks], .agg [(I6 m), tl ls], .ptr 0 0, .ptr 1 0, (B6 false), .ptr 0 0, (I6 n), .ptr 1 0, (I6 m), (B6 false), (B6 false), .tup [], .tup [], .tup [], .tup [], .tup [], (B6 false)], [⟨[(I6 n), tl ks], 2, .fresh⟩, ⟨[(I6 m), tl ls], 2, .fresh⟩]⟩ (by kernel_rfl) (tt 2) ?_
      refine AWP.ret ?_
      refine FI (.sc (.bool false)) ?_
      refine Shrink.all ?_ rfl
      (exact bfalse (fun e => by injection e; omega); done)
    · have h1' := eq_of_beq h1
      refine DerQ.pre 4 (True ∧ (1 < List.length [(I6 n), tl ks]) ∧ True ∧ (1 < List.length [(I6 m), tl ls]) ∧ True) ⟨[.agg [(I6 n), tl ks], .agg [(I6 m), tl ls], .ptr 0 0, .ptr 1 0, (B6 false), .ptr 0 0, (I6 n), .ptr 1 0, (I6 m), (B6 true), (B6 true), .ptr 0 1, tl ks, .ptr 1 1, tl ls, U6, .undef], [⟨[(I6 n), tl ks], 2, .fresh⟩, ⟨[(I6 m), tl ls], 2, .fresh⟩]⟩ (by kernel_rfl) ⟨trivial, (by simp), trivial, (by simp), trivial⟩ ?_
      refine DerQ.callD (q) ⟨[.agg [(I6 n), tl ks], .agg [(I6 m), tl ls], .ptr 0 0, .ptr 1 0, (B6 false), .ptr 0 0, (I6 n), .ptr 1 0, (I6 m), (B6 true), (B6 true), .ptr 0 1, tl ks, .ptr 1 1, tl ls, (B6 (beqTs ks ls)), .undef], [⟨[(I6 n), tl ks], 2, .fresh⟩, ⟨[(I6 m), tl ls], 2, .fresh⟩]⟩ ⟨by kernel_rfl, by kernel_rfl, by kernel_rfl⟩ ?_
      refine DerQ.run (TT 2) ⟨[.agg [(I6 n), tl ks], .agg [(I6 m), tl ls], .ptr 0 0, .ptr 1 0, (B6 (beqTs ks ls)), .ptr 0 0, (I6 n), .ptr 1 0, (I6 m), (B6 true), (B6 true), .ptr 0 1, tl ks, .ptr 1 1, tl ls, (B6 (beqTs ks ls)), (B6 (beqTs ks ls))], [⟨[(I6 n), tl ks], 2, .fresh⟩, ⟨[(I6 m), tl ls], 2, .fresh⟩]⟩ (by kernel_rfl) (tt 2) ?_
      refine AWP.ret ?_
      refine FI (.sc (.bool (beqTs ks ls))) ?_
      refine Shrink.all ?_ rfl
      (exact beqT_mk (by omega); done)
theorem same118 (N : Nat) (hN9 : N ≤ 1000000000) : ∀ (n m : Int) (ks ls : List T), size (.mk n ks) ≤ N → EvD Try.prog 118 [.agg [.sc (.int .i64 n), .sl (tcs ks) ks.length .any], .agg [.sc (.int .i64 m), .sl (tcs ls) ls.length .any]] (.sc (.bool (beqT (.mk n ks) (.mk m ls)))) := by
  induction N with
  | zero => intro n m ks ls h; rw [size] at h; omega
  | succ N ih =>
    intro n m ks ls hN
    refine EvD.body Try.func118 rfl rfl rfl ?_
    have q := eqf118 ks ls (len_of_size hN hN9) (fun i h1 h2 => by have := ih (by omega) (ks.getD i default).n (ls.getD i default).n (ks.getD i default).ks (ls.getD i default).ks (size_kid hN h1); rwa [T.mk_eta, T.mk_eta] at this)
    refine SQ ?_
    refine DerQ.run (TT 3) ⟨[.agg [(I6 n), tl ks], .agg [(I6 m), tl ls], .ptr 0 0, .ptr 1 0, (B6 false)] ++ UU 12, [⟨[(I6 n), tl ks], 2, .fresh⟩, ⟨[(I6 m), tl ls], 2, .fresh⟩]⟩ (by kernel_rfl) (tt 3) ?_
    refine SQ ?_
    refine DerQ.pre 6 (True ∧ (0 < List.length [(I6 n), tl ks]) ∧ True ∧ (0 < List.length [(I6 m), tl ls]) ∧ True ∧ True ∧ True) ⟨[.agg [(I6 n), tl ks], .agg [(I6 m), tl ls], .ptr 0 0, .ptr 1 0, (B6 false), .ptr 0 0, (I6 n), .ptr 1 0, (I6 m), (B6 (n == m)), (B6 (n == m))] ++ UU 6, [⟨[(I6 n), tl ks], 2, .fresh⟩, ⟨[(I6 m), tl ls], 2, .fresh⟩]⟩ (by kernel_rfl) ⟨trivial, (by simp), trivial, (by simp), trivial, trivial, trivial⟩ ?_
    cases h1 : (n == m)
    · have h1' := ne_of_beq_false h1
      refine DerQ.run (TT 2) ⟨[.agg [(I6 n), tl ks], .agg [(I6 m), tl ls], .ptr 0 0, .ptr 1 0, (B6 false), .ptr 0 0, (I6 n), .ptr 1 0, (I6 m), (B6 false), (B6 false), .tup [], .tup [], .tup [], .tup [], .tup [], (B6 false)], [⟨[(I6 n), tl ks], 2, .fresh⟩, ⟨[(I6 m), tl ls], 2, .fresh⟩]⟩ (by kernel_rfl) (tt 2) ?_
      refine AWP.ret ?_
      refine FI (.sc (.bool false)) ?_
      refine Shrink.all ?_ rfl
      (exact bfalse (fun e => by injection e; omega); done)
    · have h1' := eq_of_beq h1
      refine DerQ.pre 4 (True ∧ (1 < List.length [(I6 n), tl ks]) ∧ True ∧ (1 < List.length [(I6 m), tl ls]) ∧ True) ⟨[.agg [(I6 n), tl ks], .agg [(I6 m), tl ls], .ptr 0 0, .ptr 1 0, (B6 false), .ptr 0 0, (I6 n), .ptr 1 0, (I6 m), (B6 true), (B6 true), .ptr 0 1, tl ks, .ptr 1 1, tl ls, U6, .undef], [⟨[(I6 n), tl ks], 2, .fresh⟩, ⟨[(I6 m), tl ls], 2, .fresh⟩]⟩ (by kernel_rfl) ⟨trivial, (by simp), trivial, (by simp), trivial⟩ ?_
      refine DerQ.callD (q) ⟨[.agg [(I6 n), tl ks], .agg [(I6 m), tl ls], .ptr 0 0, .ptr 1 0, (B6 false), .ptr 0 0, (I6 n), .ptr 1 0, (I6 m), (B6 true), (B6 true), .ptr 0 1, tl ks, .ptr 1 1, tl ls, (B6 (beqTs ks ls)), .undef], [⟨[(I6 n), tl ks], 2, .fresh⟩, ⟨[(I6 m), tl ls], 2, .fresh⟩]⟩ ⟨by kernel_rfl, by kernel_rfl, by kernel_rfl⟩ ?_
      refine DerQ.run (TT 2) ⟨[.agg [(I6 n), tl ks], .agg [(I6 m), tl ls], .ptr 0 0, .ptr 1 0, (B6 (beqTs ks ls)), .ptr 0 0, (I6 n), .ptr 1 0, (I6 m), (B6 true), (B6 true), .ptr 0 1, tl ks, .ptr 1 1, tl ls, (B6 (beqTs ks ls)), (B6 (beqTs ks ls))], [⟨[(I6 n), tl ks], 2, .fresh⟩, ⟨[(I6 m), tl ls], 2, .fresh⟩]⟩ (by kernel_rfl) (tt 2) ?_
      refine AWP.ret ?_
      refine FI (.sc (.bool (beqTs ks ls))) ?_
      refine Shrink.all ?_ rfl
      (exact beqT_mk (by omega); done)
theorem r_same (N : Nat) (hN9 : N ≤ 1000000000) : ∀ (n m : Int) (ks ls : List T), size (.mk n ks) ≤ N → EvD Try.prog 19 [.agg [.sc (.int .i64 n), .sl (tcs ks) ks.length .any], .agg [.sc (.int .i64 m), .sl (tcs ls) ls.length .any]] (.sc (.bool (beqT (.mk n ks) (.mk m ls)))) := by
  induction N with
  | zero => intro n m ks ls h; rw [size] at h; omega
  | succ N ih =>
    intro n m ks ls hN
    refine EvD.body Try.func19 rfl rfl rfl ?_
    have hl := len_of_size hN hN9
    have q := fun (i : Nat) (h1 : i < ks.length) => by have := ih (by omega) (ks.getD i default).n (ls.getD i default).n (ks.getD i default).ks (ls.getD i default).ks (size_kid hN h1); rwa [T.mk_eta, T.mk_eta] at this
    refine SQ ?_
    refine DerQ.run (TT 3) ⟨[.agg [(I6 n), tl ks], .agg [(I6 m), tl ls], .ptr 0 0, .ptr 1 0, (B6 false)] ++ UU 34, [⟨[(I6 n), tl ks], 2, .fresh⟩, ⟨[(I6 m), tl ls], 2, .fresh⟩]⟩ (by kernel_rfl) (tt 3) ?_
    refine AWP.seq (SQ ?_)
    refine DerQ.pre 6 (True ∧ (0 < List.length [(I6 n), tl ks]) ∧ True ∧ (0 < List.length [(I6 m), tl ls]) ∧ True ∧ True ∧ True) ⟨[.agg [(I6 n), tl ks], .agg [(I6 m), tl ls], .ptr 0 0, .ptr 1 0, (B6 false), U6, .ptr 0 0, (I6 n), .ptr 1 0, (I6 m), (B6 (n != m)), (B6 (n != m))] ++ UU 27, [⟨[(I6 n), tl ks], 2, .fresh⟩, ⟨[(I6 m), tl ls], 2, .fresh⟩]⟩ (by kernel_rfl) ⟨trivial, (by simp), trivial, (by simp), trivial, trivial, trivial⟩ ?_
    cases h1 : (n != m)
    · have h1' := bne_eq_false_iff_eq.1 h1
      refine DerQ.run (True ∧ (1 < List.length [(I6 n), tl ks]) ∧ True ∧ True ∧ (1 < List.length [(I6 m), tl ls]) ∧ True ∧ True ∧ True ∧ True) ⟨[.agg [(I6 n), tl ks], .agg [(I6 m), tl ls], .ptr 0 0, .ptr 1 0, (B6 false), U6, .ptr 0 0, (I6 n), .ptr 1 0, (I6 m), (B6 false), (B6 false), .ptr 0 1, tl ks, (I6 (↑(List.length ks) : Int)), .ptr 1 1, tl ls, (I6 (↑(List.length ls) : Int)), (B6 ((↑(List.length ks) : Int) != (↑(List.length ls) : Int))), (B6 ((↑(List.length ks) : Int) != (↑(List.length ls) : Int)))] ++ UU 19, [⟨[(I6 n), tl ks], 2, .fresh⟩, ⟨[(I6 m), tl ls], 2, .fresh⟩]⟩ (by kernel_rfl) ⟨trivial, (by simp), trivial, trivial, (by simp), trivial, trivial, trivial, trivial⟩ ?_
      refine CN ((↑(List.length ks) : Int) != (↑(List.length ls) : Int)) (fun h2 => ?_) (fun h2 => ?_)
      · have h2' := bne_iff_ne.1 h2
        refine SQ ?_
        refine DerQ.run (True ∧ True) ⟨[.agg [(I6 n), tl ks], .agg [(I6 m), tl ls], .ptr 0 0, .ptr 1 0, (B6 false), U6, .ptr 0 0, (I6 n), .ptr 1 0, (I6 m), (B6 false), (B6 false), .ptr 0 1, tl ks, (I6 (↑(List.length ks) : Int)), .ptr 1 1, tl ls, (I6 (↑(List.length ls) : Int)), (B6 ((↑(List.length ks) : Int) != (↑(List.length ls) : Int))), (B6 ((↑(List.length ks) : Int) != (↑(List.length ls) : Int)))] ++ UU 19, [⟨[(I6 n), tl ks], 2, .fresh⟩, ⟨[(I6 m), tl ls], 2, .fresh⟩]⟩ (by kernel_rfl) ⟨trivial, trivial⟩ ?_
        refine AWP.ret ?_
        refine FI (.sc (.bool false)) ?_
        refine Shrink.all ?_ rfl
        (exact bfalse (fun e => by injection e with e1 e2; subst e2; omega); done)
      · have h2' := bne_eq_false_iff_eq.1 h2
        refine AWP.skip (AWP.seq (SQ ?_))
        refine DerQ.run (True ∧ True) ⟨[.agg [(I6 n), tl ks], .agg [(I6 m), tl ls], .ptr 0 0, .ptr 1 0, (B6 false), (I6 0), .ptr 0 0, (I6 n), .ptr 1 0, (I6 m), (B6 false), (B6 false), .ptr 0 1, tl ks, (I6 (↑(List.length ks) : Int)), .ptr 1 1, tl ls, (I6 (↑(List.length ls) : Int)), (B6 ((↑(List.length ks) : Int) != (↑(List.length ls) : Int))), (B6 ((↑(List.length ks) : Int) != (↑(List.length ls) : Int)))] ++ UU 19, [⟨[(I6 n), tl ks], 2, .fresh⟩, ⟨[(I6 m), tl ls], 2, .fresh⟩]⟩ (by kernel_rfl) ⟨trivial, trivial⟩ ?_
        refine AWP.block ?_
        refine AWP.loopM [true, true, true, true, true, true, true, true, true, true, true, true, true, true, true, true, true, true, true, true, false, false, false, false, false, false, false, false, false, false, false, false, false, false, false, false, false, false, false] (fun kk st => ∃ (i : Nat), kk = ks.length - i ∧ i ≤ ks.length ∧ (∀ j, j < i → ks.getD j default = ls.getD j default) ∧ st = ⟨[.agg [(I6 n), tl ks], .agg [(I6 m), tl ls], .ptr 0 0, .ptr 1 0, (B6 false), (I6 (i : Int)), .ptr 0 0, (I6 n), .ptr 1 0, (I6 m), (B6 false), (B6 false), .ptr 0 1, tl ks, (I6 (↑(List.length ks) : Int)), .ptr 1 1, tl ls, (I6 (↑(List.length ls) : Int)), (B6 ((↑(List.length ks) : Int) != (↑(List.length ls) : Int))), (B6 ((↑(List.length ks) : Int) != (↑(List.length ls) : Int))), U6, U6, U6, U6, U6, U6, U6, U6, U6, U6, U6, U6, U6, U6, U6, U6, U6, U6, .undef], [⟨[(I6 n), tl ks], 2, .fresh⟩, ⟨[(I6 m), tl ls], 2, .fresh⟩]⟩) _ ⟨0, rfl, by omega, fun j hj => absurd hj (by omega), rfl⟩ ?_
        rintro kk s ⟨i, rfl, hi, hd, rfl⟩
        refine AWP.seq (SQ ?_)
        refine DerQ.run (True ∧ True ∧ (1 < List.length [(I6 n), tl ks]) ∧ True ∧ True ∧ True) ⟨[.agg [(I6 n), tl ks], .agg [(I6 m), tl ls], .ptr 0 0, .ptr 1 0, (B6 false), (I6 (↑i : Int)), .ptr 0 0, (I6 n), .ptr 1 0, (I6 m), (B6 false), (B6 false), .ptr 0 1, tl ks, (I6 (↑(List.length ks) : Int)), .ptr 1 1, tl ls, (I6 (↑(List.length ls) : Int)), (B6 ((↑(List.length ks) : Int) != (↑(List.length ls) : Int))), (B6 ((↑(List.length ks) : Int) != (↑(List.length ls) : Int))), (I6 (↑i : Int)), .ptr 0 1, tl ks, (I6 (↑(List.length ks) : Int)), (B6 (decide ((↑i : Int) < (↑(List.length ks) : Int))))] ++ UU 14, [⟨[(I6 n), tl ks], 2, .fresh⟩, ⟨[(I6 m), tl ls], 2, .fresh⟩]⟩ (by kernel_rfl) ⟨trivial, trivial, (by simp), trivial, trivial, trivial⟩ ?_
        refine CN (decide ((↑i : Int) < (↑(List.length ks) : Int))) (fun h3 => ?_) (fun h3 => ?_)
        · have h3' := of_decide_eq_true h3
          refine AWP.skip (AWP.seq (AWP.block (AWP.seq ?_)))
          refine AWP.drawX mixed (fun o => [37].contains (o.dst.getD 0)) (by kernel_rfl) ?_
          refine DerX.pre 10 ((True) ∧ ((1 < List.length [(I6 n), tl ks]) ∧ ((True) ∧ ((((0 ≤ (↑i : Int)) ∧ ((↑i : Int) < (↑(List.length ks) : Int))) ∧ (Int.toNat (↑i : Int) * 2 + 2 ≤ List.length (tcs ks))) ∧ ((2 ≤ List.length [List.getD (tcs ks) (Int.toNat (↑i : Int) * 2 + 0) U6, List.getD (tcs ks) (Int.toNat (↑i : Int) * 2 + 1) AVal.undef]) ∧ ((True) ∧ ((1 < List.length [(I6 m), tl ls]) ∧ ((True) ∧ ((((0 ≤ (↑i : Int)) ∧ ((↑i : Int) < (↑(List.length ls) : Int))) ∧ (Int.toNat (↑i : Int) * 2 + 2 ≤ List.length (tcs ls))) ∧ ((2 ≤ List.length [List.getD (tcs ls) (Int.toNat (↑i : Int) * 2 + 0) U6, List.getD (tcs ls) (Int.toNat (↑i : Int) * 2 + 1) AVal.undef]) ∧ (True))))))))))) [.ptr 0 1, tl ks, (I6 (↑i : Int)), .dptr [List.getD (tcs ks) (Int.toNat (↑i : Int) * 2 + 0) U6, List.getD (tcs ks) (Int.toNat (↑i : Int) * 2 + 1) AVal.undef], .agg [List.getD (tcs ks) (Int.toNat (↑i : Int) * 2 + 0) U6, List.getD (tcs ks) (Int.toNat (↑i : Int) * 2 + 1) AVal.undef], .ptr 1 1, tl ls, (I6 (↑i : Int)), .dptr [List.getD (tcs ls) (Int.toNat (↑i : Int) * 2 + 0) U6, List.getD (tcs ls) (Int.toNat (↑i : Int) * 2 + 1) AVal.undef], .agg [List.getD (tcs ls) (Int.toNat (↑i : Int) * 2 + 0) U6, List.getD (tcs ls) (Int.toNat (↑i : Int) * 2 + 1) AVal.undef]] ⟨[.agg [(I6 n), tl ks], .agg [(I6 m), tl ls], .ptr 0 0, .ptr 1 0, (B6 false), (I6 (↑i : Int)), .ptr 0 0, (I6 n), .ptr 1 0, (I6 m), (B6 false), (B6 false), .ptr 0 1, tl ks, (I6 (↑(List.length ks) : Int)), .ptr 1 1, tl ls, (I6 (↑(List.length ls) : Int)), (B6 ((↑(List.length ks) : Int) != (↑(List.length ls) : Int))), (B6 ((↑(List.length ks) : Int) != (↑(List.length ls) : Int))), (I6 (↑i : Int)), .ptr 0 1, tl ks, (I6 (↑(List.length ks) : Int)), (B6 (decide ((↑i : Int) < (↑(List.length ks) : Int)))), U6, U6, .ptr 0 1, tl ks, (I6 (↑i : Int)), .dptr [List.getD (tcs ks) (Int.toNat (↑i : Int) * 2 + 0) U6, List.getD (tcs ks) (Int.toNat (↑i : Int) * 2 + 1) AVal.undef], .agg [List.getD (tcs ks) (Int.toNat (↑i : Int) * 2 + 0) U6, List.getD (tcs ks) (Int.toNat (↑i : Int) * 2 + 1) AVal.undef], .ptr 1 1, tl ls, (I6 (↑i : Int)), .dptr [List.getD (tcs ls) (Int.toNat (↑i : Int) * 2 + 0) U6, List.getD (tcs ls) (Int.toNat (↑i : Int) * 2 + 1) AVal.undef], .agg [List.getD (tcs ls) (Int.toNat (↑i : Int) * 2 + 0) U6, List.getD (tcs ls) (Int.toNat (↑i : Int) * 2 + 1) AVal.undef], U6, .undef], [⟨[(I6 n), tl ks], 2, .fresh⟩, ⟨[(I6 m), tl ls], 2, .fresh⟩]⟩ (by intro ext; kernel_rfl) (by kernel_rfl) ⟨trivial, ⟨(by simp), ⟨trivial, ⟨⟨⟨(by omega), (by omega)⟩, (by (simp [spliceA_length] <;> omega))⟩, ⟨(by simp), ⟨trivial, ⟨(by simp), ⟨trivial, ⟨⟨⟨(by omega), (by omega)⟩, (by (simp [spliceA_length] <;> omega))⟩, ⟨(by simp), trivial⟩⟩⟩⟩⟩⟩⟩⟩⟩⟩ ?_
          rw [Int.toNat_natCast (i)]
          rw [Nat.add_zero (i * 2)]
          rw [Go.Tr.tcs_cells (ls) (i) (by omega)]
          rw [Go.Tr.tcs_cells (ks) (i) (by omega)]
          refine DerX.callD (q i (by omega)) ⟨[.agg [(I6 n), tl ks], .agg [(I6 m), tl ls], .ptr 0 0, .ptr 1 0, (B6 false), (I6 (↑i : Int)), .ptr 0 0, (I6 n), .ptr 1 0, (I6 m), (B6 false), (B6 false), .ptr 0 1, tl ks, (I6 (↑(List.length ks) : Int)), .ptr 1 1, tl ls, (I6 (↑(List.length ls) : Int)), (B6 ((↑(List.length ks) : Int) != (↑(List.length ls) : Int))), (B6 ((↑(List.length ks) : Int) != (↑(List.length ls) : Int))), (I6 (↑i : Int)), .ptr 0 1, tl ks, (I6 (↑(List.length ks) : Int)), (B6 (decide ((↑i : Int) < (↑(List.length ks) : Int)))), U6, U6, .ptr 0 1, tl ks, (I6 (↑i : Int)), .dptr [(I6 (T.n (List.getD ks i default))), tl (T.ks (List.getD ks i default))], .agg [(I6 (T.n (List.getD ks i default))), tl (T.ks (List.getD ks i default))], .ptr 1 1, tl ls, (I6 (↑i : Int)), .dptr [(I6 (T.n (List.getD ls i default))), tl (T.ks (List.getD ls i default))], .agg [(I6 (T.n (List.getD ls i default))), tl (T.ks (List.getD ls i default))], (B6 (beqT (List.getD ks i default) (List.getD ls i default))), .undef], [⟨[(I6 n), tl ks], 2, .fresh⟩, ⟨[(I6 m), tl ls], 2, .fresh⟩]⟩ ⟨by kernel_rfl, by kernel_rfl, by kernel_rfl⟩ ?_
          refine DerX.quiet (True) (B6 (!beqT (List.getD ks i default) (List.getD ls i default))) ⟨[.agg [(I6 n), tl ks], .agg [(I6 m), tl ls], .ptr 0 0, .ptr 1 0, (B6 false), (I6 (↑i : Int)), .ptr 0 0, (I6 n), .ptr 1 0, (I6 m), (B6 false), (B6 false), .ptr 0 1, tl ks, (I6 (↑(List.length ks) : Int)), .ptr 1 1, tl ls, (I6 (↑(List.length ls) : Int)), (B6 ((↑(List.length ks) : Int) != (↑(List.length ls) : Int))), (B6 ((↑(List.length ks) : Int) != (↑(List.length ls) : Int))), (I6 (↑i : Int)), .ptr 0 1, tl ks, (I6 (↑(List.length ks) : Int)), (B6 (decide ((↑i : Int) < (↑(List.length ks) : Int)))), U6, U6, .ptr 0 1, tl ks, (I6 (↑i : Int)), .dptr [(I6 (T.n (List.getD ks i default))), tl (T.ks (List.getD ks i default))], .agg [(I6 (T.n (List.getD ks i default))), tl (T.ks (List.getD ks i default))], .ptr 1 1, tl ls, (I6 (↑i : Int)), .dptr [(I6 (T.n (List.getD ls i default))), tl (T.ks (List.getD ls i default))], .agg [(I6 (T.n (List.getD ls i default))), tl (T.ks (List.getD ls i default))], (B6 (beqT (List.getD ks i default) (List.getD ls i default))), (B6 (!beqT (List.getD ks i default) (List.getD ls i default)))], [⟨[(I6 n), tl ks], 2, .fresh⟩, ⟨[(I6 m), tl ls], 2, .fresh⟩]⟩ (by intro ext; kernel_rfl) ⟨by kernel_rfl, by kernel_rfl⟩ trivial ?_
          refine DerX.nil ?_
          refine CN (!beqT (List.getD ks i default) (List.getD ls i default)) (fun h4 => ?_) (fun h4 => ?_)
          · have h4' := h4
            simp only [Bool.and_eq_true, Bool.and_eq_false_iff, Bool.or_eq_true, Bool.or_eq_false_iff, Bool.not_eq_true', Bool.not_eq_false', beq_iff_eq, beq_eq_false_iff_ne, decide_eq_true_eq, decide_eq_false_iff_not, ne_eq] at h4'
            refine SQ ?_
            refine DerQ.run (True ∧ True) ⟨[.agg [(I6 n), tl ks], .agg [(I6 m), tl ls], .ptr 0 0, .ptr 1 0, (B6 false), (I6 (↑i : Int)), .ptr 0 0, (I6 n), .ptr 1 0, (I6 m), (B6 false), (B6 false), .ptr 0 1, tl ks, (I6 (↑(List.length ks) : Int)), .ptr 1 1, tl ls, (I6 (↑(List.length ls) : Int)), (B6 ((↑(List.length ks) : Int) != (↑(List.length ls) : Int))), (B6 ((↑(List.length ks) : Int) != (↑(List.length ls) : Int))), (I6 (↑i : Int)), .ptr 0 1, tl ks, (I6 (↑(List.length ks) : Int)), (B6 (decide ((↑i : Int) < (↑(List.length ks) : Int)))), U6, U6, .ptr 0 1, tl ks, (I6 (↑i : Int)), .dptr [(I6 (T.n (List.getD ks i default))), tl (T.ks (List.getD ks i default))], .agg [(I6 (T.n (List.getD ks i default))), tl (T.ks (List.getD ks i default))], .ptr 1 1, tl ls, (I6 (↑i : Int)), .dptr [(I6 (T.n (List.getD ls i default))), tl (T.ks (List.getD ls i default))], .agg [(I6 (T.n (List.getD ls i default))), tl (T.ks (List.getD ls i default))], (B6 (beqT (List.getD ks i default) (List.getD ls i default))), (B6 (!beqT (List.getD ks i default) (List.getD ls i default)))], [⟨[(I6 n), tl ks], 2, .fresh⟩, ⟨[(I6 m), tl ls], 2, .fresh⟩]⟩ (by kernel_rfl) ⟨trivial, trivial⟩ ?_
            refine AWP.ret ?_
            refine FI (.sc (.bool false)) ?_
            refine Shrink.all ?_ rfl
            (exact bfalse (fun e => by injection e with e1 e2; subst e2; exact not_of_nbeq (by assumption) rfl); done)
          · have h4' := h4
            simp only [Bool.and_eq_true, Bool.and_eq_false_iff, Bool.or_eq_true, Bool.or_eq_false_iff, Bool.not_eq_true', Bool.not_eq_false', beq_iff_eq, beq_eq_false_iff_ne, decide_eq_true_eq, decide_eq_false_iff_not, ne_eq] at h4'
            refine AWP.skip (AWP.reg ?_)
            refine DerQ.run (TT 3) ⟨[.agg [(I6 n), tl ks], .agg [(I6 m), tl ls], .ptr 0 0, .ptr 1 0, (B6 false), (I6 (IntKind.wrap IntKind.i64 ((↑i : Int) + 1))), .ptr 0 0, (I6 n), .ptr 1 0, (I6 m), (B6 false), (B6 false), .ptr 0 1, tl ks, (I6 (↑(List.length ks) : Int)), .ptr 1 1, tl ls, (I6 (↑(List.length ls) : Int)), (B6 ((↑(List.length ks) : Int) != (↑(List.length ls) : Int))), (B6 ((↑(List.length ks) : Int) != (↑(List.length ls) : Int))), (I6 (↑i : Int)), .ptr 0 1, tl ks, (I6 (↑(List.length ks) : Int)), (B6 (decide ((↑i : Int) < (↑(List.length ks) : Int)))), (I6 (↑i : Int)), (I6 (IntKind.wrap IntKind.i64 ((↑i : Int) + 1))), .ptr 0 1, tl ks, (I6 (↑i : Int)), .dptr [(I6 (T.n (List.getD ks i default))), tl (T.ks (List.getD ks i default))], .agg [(I6 (T.n (List.getD ks i default))), tl (T.ks (List.getD ks i default))], .ptr 1 1, tl ls, (I6 (↑i : Int)), .dptr [(I6 (T.n (List.getD ls i default))), tl (T.ks (List.getD ls i default))], .agg [(I6 (T.n (List.getD ls i default))), tl (T.ks (List.getD ls i default))], (B6 (beqT (List.getD ks i default) (List.getD ls i default))), (B6 (!beqT (List.getD ks i default) (List.getD ls i default)))], [⟨[(I6 n), tl ks], 2, .fresh⟩, ⟨[(I6 m), tl ls], 2, .fresh⟩]⟩ (by kernel_rfl) (tt 3) ?_
            rw [IntWalk.i64_in ((↑i : Int) + 1) (by omega)]
            (exact ⟨_, by omega, i + 1, rfl, by omega, beqTs_snoc hd (of_nbeq (by assumption)), by kernel_rfl⟩; done)
        · have h3' := of_decide_eq_false h3
          refine AWP.exit ?_
          refine SQ ?_
          refine DerQ.run (True ∧ True) ⟨[.agg [(I6 n), tl ks], .agg [(I6 m), tl ls], .ptr 0 0, .ptr 1 0, (B6 true), (I6 (↑i : Int)), .ptr 0 0, (I6 n), .ptr 1 0, (I6 m), (B6 false), (B6 false), .ptr 0 1, tl ks, (I6 (↑(List.length ks) : Int)), .ptr 1 1, tl ls, (I6 (↑(List.length ls) : Int)), (B6 ((↑(List.length ks) : Int) != (↑(List.length ls) : Int))), (B6 ((↑(List.length ks) : Int) != (↑(List.length ls) : Int))), (I6 (↑i : Int)), .ptr 0 1, tl ks, (I6 (↑(List.length ks) : Int)), (B6 (decide ((↑i : Int) < (↑(List.length ks) : Int))))] ++ UU 14, [⟨[(I6 n), tl ks], 2, .fresh⟩, ⟨[(I6 m), tl ls], 2, .fresh⟩]⟩ (by kernel_rfl) ⟨trivial, trivial⟩ ?_
          refine AWP.ret ?_
          refine FI (.sc (.bool true)) ?_
          refine Shrink.all ?_ rfl
          (exact btrue (by rw [show n = m by omega, getD_ext (by omega) (fun j hj => hd j (by omega))]); done)
    · have h1' := bne_iff_ne.1 h1
      refine DerQ.run (True ∧ True) ⟨[.agg [(I6 n), tl ks], .agg [(I6 m), tl ls], .ptr 0 0, .ptr 1 0, (B6 false), U6, .ptr 0 0, (I6 n), .ptr 1 0, (I6 m), (B6 true), (B6 true), .tup [], .tup [], .tup [], .tup [], .tup [], .tup [], .tup [], (B6 true)] ++ UU 19, [⟨[(I6 n), tl ks], 2, .fresh⟩, ⟨[(I6 m), tl ls], 2, .fresh⟩]⟩ (by kernel_rfl) ⟨trivial, trivial⟩ ?_
      refine CN true (fun _ => ?_) (fun h => nomatch h)
      refine SQ ?_
      refine DerQ.run (True ∧ True) ⟨[.agg [(I6 n), tl ks], .agg [(I6 m), tl ls], .ptr 0 0, .ptr 1 0, (B6 false), U6, .ptr 0 0, (I6 n), .ptr 1 0, (I6 m), (B6 true), (B6 true), .tup [], .tup [], .tup [], .tup [], .tup [], .tup [], .tup [], (B6 true)] ++ UU 19, [⟨[(I6 n), tl ks], 2, .fresh⟩, ⟨[(I6 m), tl ls], 2, .fresh⟩]⟩ (by kernel_rfl) ⟨trivial, trivial⟩ ?_
      refine AWP.ret ?_
      refine FI (.sc (.bool false)) ?_
      refine Shrink.all ?_ rfl
      (exact bfalse (fun e => by injection e; omega); done)
end Go.Tr
