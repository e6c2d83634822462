/- Walks and laws. -/
import Derived.Test.YtikllaiggklljaaRc8
import Derived.Test.YtikllaiggklljaaLibB
set_option maxRecDepth 100000
set_option maxHeartbeats 0
set_option linter.unusedSimpArgs false
set_option linter.unusedVariables false
namespace Go.Rec
open Go Go.Abs Go.Proofs Go.Crc Go.Chu
theorem scan_bts : ∀ (k : Nat) (b : List Int) (p : Nat), Bts b → ∀ q ∈ scanF k b p, Bts q.2
  | 0, b, p, hb, q, hq => by simp [scanF] at hq
  | k + 1, b, p, hb, q, hq => by
    cases h : bodyP (b.drop p) with
    | none => rw [scanF_none h] at hq; simp at hq
    | some x =>
      rw [scanF_some h, List.mem_cons] at hq
      rcases hq with rfl | hq
      · have hx : Bts x := by
          unfold bodyP at h
          split at h
          · simp at h
          · split at h
            · simp at h
            · exact opn_bts h (((hb.drop _).drop _).take _)
        exact hx
      · exact scan_bts k b _ hb q hq
theorem fnd_bts {b : List Int} (hb : Bts b) : ∀ x ∈ fnd b, Bts x := by
  intro x hx
  simp only [fnd, List.mem_map] at hx
  obtain ⟨q, hq, rfl⟩ := hx
  exact scan_bts _ _ _ hb q hq
theorem fnd_len (b : List Int) : (fnd b).length ≤ b.length := by simp only [fnd, List.length_map]; exact recs_len b
theorem scan_end_le : ∀ (k : Nat) (b : List Int) (p : Nat), p ≤ b.length → ∀ q ∈ scanF k b p, q.1 ≤ b.length
  | 0, b, p, hp, q, hq => by simp [scanF] at hq
  | k + 1, b, p, hp, q, hq => by
    cases h : bodyP (b.drop p) with
    | none => rw [scanF_none h] at hq; simp at hq
    | some x =>
      have hl := bodyP_len h
      rw [List.length_drop] at hl
      rw [scanF_some h, List.mem_cons] at hq
      rcases hq with rfl | hq
      · show p + 8 + x.length ≤ b.length; omega
      · exact scan_end_le k b _ (by omega) q hq
theorem ato_le (b : List Int) : ato b ≤ b.length := by
  unfold ato
  rcases List.eq_nil_or_concat (recs b) with h | ⟨t', y, h⟩
  · rw [h]; simp [endof]
  · rw [List.concat_eq_append] at h
    rw [h, endof_snoc]
    exact scan_end_le _ _ 0 (by omega) y (by show y ∈ recs b; rw [h]; simp)
theorem l_same (a : List (List Int)) (h : a.length ≤ 1000000) (hb : ∀ x ∈ a, Bts x) : EvD Try.prog 16 [.sl (bss a) a.length .any, .sl (bss a) a.length .any] (.sc (.bool true)) := by
  have := r_lists a a h hb hb
  rwa [decide_eq_true rfl] at this
theorem few_yes {l : List (List Int)} (h : fewP l) : EvD Try.prog 12 [.sl (bss l) l.length .any] (.sc (.bool true)) := by
  have := r_few l; rwa [decide_eq_true h] at this
theorem few_not {l : List (List Int)} (h : ¬ fewP l) : EvD Try.prog 12 [.sl (bss l) l.length .any] (.sc (.bool false)) := by
  have := r_few l; rwa [decide_eq_false h] at this
theorem recordGoes (l : List (List Int)) (r : List Int) (hl : ∀ x ∈ l, Bts x) (hr : Bts r) : EvD Try.prog 3 [.sl (bss l) l.length .any, .sl (u8s r) r.length .any] (.sc (.bool true)) := by
  by_cases hf : fewP l
  · have fw := few_yes hf
    by_cases hg : r.length ≤ 6000
    · have d1 := c_laid l hf
      have hll := lay_len l
      have hf1 := hf.1
      have hf2 := hf.2
      have hB : Bts (lay l) := lay_bts hl
      have s1 := c_found r (by omega) hr
      have s2 := c_found (lay l ++ r) (by rw [List.length_append]; omega) (hB.append hr)
      rw [fnd_lay r l (few_len hf), ato_lay r l (few_len hf), List.length_append, List.length_append] at s2
      have hfl := fnd_len r
      have ls := l_same (l ++ fnd r) (by rw [List.length_append]; omega) (fun x hx => (List.mem_append.1 hx).elim (hl x) (fnd_bts hr x))
      rw [List.length_append] at ls
      have hat : ato r ≤ r.length := ato_le r
      generalize fnd r = F at s1 s2 ls hfl
      generalize ato r = T at s1 s2 hat
      generalize lay l = B at d1 s2 hll hB
      refine EvD.body Try.func3 rfl rfl rfl ?_
      refine AWP.seq ?_
      refine TO ⟨[.sl (bss l) (List.length l) .any, .sl (u8s r) (List.length r) .any] ++ UU 59, []⟩ ?_
      refine AWP.reg (RT 1 ?_)
      refine AWP.seq (AWP.seq ?_)
      refine TO ⟨[.sl (bss l) (List.length l) .any, .sl (u8s r) (List.length r) .any, U6, U6, (B6 false)] ++ UU 56, []⟩ ?_
      refine AWP.reg (PT 1 1 ?_)
      refine CD (fw) ?_
      refine RT 6 ?_
      refine KL (NN 12 7) ⟨[.sl (bss l) (List.length l) .any, .sl (u8s r) (List.length r) .any, U6, U6, (B6 false)] ++ UU 14 ++ [(B6 (decide ((↑(List.length r) : Int) > 6000)))] ++ UU 41, []⟩ ?_
      refine CN (decide ((↑(List.length r) : Int) > 6000)) (fun h1 => ?_) (fun h1 => ?_)
      · have h1' := of_decide_eq_true h1
        exfalso; omega
      · have h1' := of_decide_eq_false h1
        refine AWP.skip (SQ (PT 1 1 ?_))
        refine CD (d1) ?_
        refine RT 7 ?_
        refine AWP.seq (AWP.seq (KL ([6, 19] ++ NN 21 6) ⟨[.sl (bss l) (List.length l) .any, .sl (u8s r) (List.length r) .any, U6, U6, (B6 false), .sl (u8s B) (List.length B) .any, U6, (B6 true)] ++ UU 53, []⟩ ?_))
        refine AWP.reg (RT 2 ?_)
        refine KL [7, 27] ⟨[.sl (bss l) (List.length l) .any, .sl (u8s r) (List.length r) .any, U6, U6, (B6 false), .sl (u8s B) (List.length B) .any] ++ UU 22 ++ [(B6 false)] ++ UU 32, []⟩ ?_
        refine CN false (fun h => nomatch h) (fun _ => ?_)
        refine AWP.skip (SQ (PT 1 1 ?_))
        refine CD (s1) ?_
        refine RT 5 ?_
        refine AWP.seq (KL (NN 28 6) ⟨[.sl (bss l) (List.length l) .any, .sl (u8s r) (List.length r) .any, U6, U6, (B6 false), .sl (u8s B) (List.length B) .any, U6, U6, .sl (bss F) (List.length F) .any, (I6 (↑T : Int))] ++ UU 51, []⟩ ?_)
        refine AWP.reg ?_
        refine DerQ.pre 5 (True ∧ True ∧ ((List.length (u8s B) = List.length B * 1) ∧ (List.length B ≤ 1073741824)) ∧ True ∧ ((List.length (u8s r) = List.length r * 1) ∧ (((1 : Nat) = (1 : Nat)) ∧ ((List.length B * 1 = List.length (u8s B)) ∧ ((List.length B + List.length r ≤ 1073741824) ∧ ((dataAll (u8s B ++ u8s r) = true) ∧ (∀ (i : Nat), i < List.length (u8s r) → AVal.one (List.getD (u8s r) i AVal.undef) = true)))))) ∧ True) ⟨[.sl (bss l) (List.length l) .any, .sl (u8s r) (List.length r) .any, U6, U6, (B6 false), .sl (u8s B) (List.length B) .any, U6, U6, .sl (bss F) (List.length F) .any, (I6 (↑T : Int))] ++ UU 25 ++ [.sl [] 0 .cap0, .sl (u8s B) (List.length B) .any, .row 0 0 (List.length B), .sl (u8s r) (List.length r) .any, .row 0 0 (List.length B + List.length r)] ++ UU 21, [⟨u8s B ++ u8s r, 1, .grown⟩]⟩ (by kernel_rfl) ⟨trivial, trivial, ⟨(by simp), (by omega)⟩, trivial, ⟨(by simp), ⟨(by omega), ⟨(by simp), ⟨(by omega), ⟨(by (simp only [byteV_map, dataAll_append, dataAll_u8s, Bool.and_self])), (by exact u8s_one _)⟩⟩⟩⟩⟩, trivial⟩ ?_
        rw [Go.Abs.u8s_append (B) (r)]
        refine DerQ.callF (s2) [0] [.row 0 0 (List.length B + List.length r)] [.sl (List.take ((List.length B + List.length r) * 1) (List.drop 0 (u8s (B ++ r)))) (List.length B + List.length r) .any] ((dataAll (u8s (B ++ r)) = true) ∧ ((AVal.sl (List.take ((List.length B + List.length r) * 1) (List.drop 0 (u8s (B ++ r)))) (List.length B + List.length r) SlK.any = AVal.sl (u8s (B ++ r)) (List.length B + List.length r) SlK.any) ∧ (True))) ((dataAll (u8s (B ++ r)) = true) ∧ (True)) [⟨u8s (B ++ r), 1, .frozen⟩] ⟨[.sl (bss l) (List.length l) .any, .sl (u8s r) (List.length r) .any, U6, U6, (B6 false), .sl (u8s B) (List.length B) .any, U6, U6, .sl (bss F) (List.length F) .any, (I6 (↑T : Int))] ++ UU 25 ++ [.sl [] 0 .cap0, .sl (u8s B) (List.length B) .any, .row 0 0 (List.length B), .sl (u8s r) (List.length r) .any, .row 0 0 (List.length B + List.length r), .tup [.sl (bss (l ++ F)) (List.length l + List.length F) .any, (I6 (↑(List.length B + T) : Int))]] ++ UU 20, [⟨u8s (B ++ r), 1, .frozen⟩]⟩ ⟨by kernel_rfl, by kernel_rfl, by kernel_rfl, by kernel_rfl, by kernel_rfl, by kernel_rfl⟩ ⟨(by exact dataAll_u8s _), ⟨(by (rw [List.drop_zero, Nat.mul_one, List.take_of_length_le (by simp <;> omega)])), trivial⟩⟩ ⟨(by exact dataAll_u8s _), trivial⟩ ?_
        refine DerQ.run (TT 5) ⟨[.sl (bss l) (List.length l) .any, .sl (u8s r) (List.length r) .any, U6, U6, (B6 false), .sl (u8s B) (List.length B) .any, U6, U6, .sl (bss F) (List.length F) .any, (I6 (↑T : Int)), .sl (bss (l ++ F)) (List.length l + List.length F) .any, (I6 (↑(List.length B + T) : Int))] ++ UU 22 ++ [.tup [.sl (bss (l ++ F)) (List.length l + List.length F) .any, (I6 (↑(List.length B + T) : Int))], .sl [] 0 .cap0, .sl (u8s B) (List.length B) .any, .row 0 0 (List.length B), .sl (u8s r) (List.length r) .any, .row 0 0 (List.length B + List.length r), .tup [.sl (bss (l ++ F)) (List.length l + List.length F) .any, (I6 (↑(List.length B + T) : Int))], .sl (bss (l ++ F)) (List.length l + List.length F) .any, (I6 (↑(List.length B + T) : Int))] ++ UU 18, [⟨u8s (B ++ r), 1, .frozen⟩]⟩ (by kernel_rfl) (tt 5) ?_
        refine AWP.seq (KL ([1] ++ NN 34 9) ⟨[.sl (bss l) (List.length l) .any, U6, U6, U6, (B6 false), .sl (u8s B) (List.length B) .any, U6, U6, .sl (bss F) (List.length F) .any, (I6 (↑T : Int)), .sl (bss (l ++ F)) (List.length l + List.length F) .any, (I6 (↑(List.length B + T) : Int))] ++ UU 49, [⟨u8s (B ++ r), 1, .frozen⟩]⟩ ?_)
        refine AWP.reg ?_
        refine DerQ.pre 6 (True ∧ True ∧ True ∧ ((List.length (bss l) = List.length l * 1) ∧ (List.length l ≤ 1073741824)) ∧ True ∧ ((List.length (bss F) = List.length F * 1) ∧ (((1 : Nat) = (1 : Nat)) ∧ ((List.length l * 1 = List.length (bss l)) ∧ ((List.length l + List.length F ≤ 1073741824) ∧ ((dataAll (bss l ++ bss F) = true) ∧ (∀ (i : Nat), i < List.length (bss F) → AVal.one (List.getD (bss F) i AVal.undef) = true)))))) ∧ True) ⟨[.sl (bss l) (List.length l) .any, U6, U6, U6, (B6 false), .sl (u8s B) (List.length B) .any, U6, U6, .sl (bss F) (List.length F) .any, (I6 (↑T : Int)), .sl (bss (l ++ F)) (List.length l + List.length F) .any, (I6 (↑(List.length B + T) : Int))] ++ UU 31 ++ [.sl (bss (l ++ F)) (List.length l + List.length F) .any, .sl [] 0 .cap0, .sl (bss l) (List.length l) .any, .row 1 0 (List.length l), .sl (bss F) (List.length F) .any, .row 1 0 (List.length l + List.length F)] ++ UU 12, [⟨u8s (B ++ r), 1, .frozen⟩, ⟨bss l ++ bss F, 1, .grown⟩]⟩ (by kernel_rfl) ⟨trivial, trivial, trivial, ⟨(by simp), (by omega)⟩, trivial, ⟨(by simp), ⟨(by omega), ⟨(by simp), ⟨(by omega), ⟨(by (rw [bss_append]; exact dataAll_bss _)), (by (exact bss_one _))⟩⟩⟩⟩⟩, trivial⟩ ?_
        rw [Go.Chu.bss_append (l) (F)]
        refine DerQ.callS (ls) [.sl (bss (l ++ F)) (List.length l + List.length F) .any, .row 1 0 (List.length l + List.length F)] ((AVal.data (AVal.sl (bss (l ++ F)) (List.length l + List.length F) SlK.any) = true) ∧ ((AVal.anyA (AVal.sl (bss (l ++ F)) (List.length l + List.length F) SlK.any) = AVal.sl (bss (l ++ F)) (List.length l + List.length F) SlK.any) ∧ ((dataAll (bss (l ++ F)) = true) ∧ ((AVal.sl (List.take ((List.length l + List.length F) * 1) (List.drop 0 (bss (l ++ F)))) (List.length l + List.length F) SlK.any = AVal.sl (bss (l ++ F)) (List.length l + List.length F) SlK.any) ∧ (True))))) ⟨[.sl (bss l) (List.length l) .any, U6, U6, U6, (B6 false), .sl (u8s B) (List.length B) .any, U6, U6, .sl (bss F) (List.length F) .any, (I6 (↑T : Int)), .sl (bss (l ++ F)) (List.length l + List.length F) .any, (I6 (↑(List.length B + T) : Int))] ++ UU 31 ++ [.sl (bss (l ++ F)) (List.length l + List.length F) .any, .sl [] 0 .cap0, .sl (bss l) (List.length l) .any, .row 1 0 (List.length l), .sl (bss F) (List.length F) .any, .row 1 0 (List.length l + List.length F), (B6 true)] ++ UU 11, [⟨u8s (B ++ r), 1, .frozen⟩, ⟨bss (l ++ F), 1, .grown⟩]⟩ ⟨by kernel_rfl, by kernel_rfl, by kernel_rfl, by kernel_rfl, by kernel_rfl⟩ ⟨(by rfl), ⟨(by rfl), ⟨(by (exact dataAll_bss _)), ⟨(by (rw [List.drop_zero, Nat.mul_one, List.take_of_length_le (by simp <;> omega)])), trivial⟩⟩⟩⟩ ?_
        refine DerQ.pre 9 (TT 9) ⟨[.sl (bss l) (List.length l) .any, U6, U6, U6, (B6 false), .sl (u8s B) (List.length B) .any, U6, U6, .sl (bss F) (List.length F) .any, (I6 (↑T : Int)), .sl (bss (l ++ F)) (List.length l + List.length F) .any, (I6 (↑(List.length B + T) : Int))] ++ UU 31 ++ [.sl (bss (l ++ F)) (List.length l + List.length F) .any, .sl [] 0 .cap0, .sl (bss l) (List.length l) .any, .row 1 0 (List.length l), .sl (bss F) (List.length F) .any, .row 1 0 (List.length l + List.length F), (B6 true), (B6 true), (I6 (↑(List.length B + T) : Int)), .sl (u8s B) (List.length B) .any, (I6 (↑(List.length B) : Int)), (I6 (↑T : Int)), (I6 (IntKind.wrap IntKind.i64 ((↑(List.length B) : Int) + (↑T : Int)))), (B6 ((↑(List.length B + T) : Int) == IntKind.wrap IntKind.i64 ((↑(List.length B) : Int) + (↑T : Int)))), (B6 ((↑(List.length B + T) : Int) == IntKind.wrap IntKind.i64 ((↑(List.length B) : Int) + (↑T : Int)))), (B6 ((↑(List.length B + T) : Int) == IntKind.wrap IntKind.i64 ((↑(List.length B) : Int) + (↑T : Int)))), U6, .undef], [⟨u8s (B ++ r), 1, .frozen⟩, ⟨bss (l ++ F), 1, .grown⟩]⟩ (by kernel_rfl) (tt 9) ?_
        rw [IntWalk.i64_in ((↑(List.length B) : Int) + (↑T : Int)) (by omega)]
        cases h2 : ((↑(List.length B + T) : Int) == (↑(List.length B) : Int) + (↑T : Int))
        · have h2' := ne_of_beq_false h2
          exfalso; omega
        · have h2' := eq_of_beq h2
          refine DerQ.callD (heads) ⟨[.sl (bss l) (List.length l) .any, U6, U6, U6, (B6 false), .sl (u8s B) (List.length B) .any, U6, U6, .sl (bss F) (List.length F) .any, (I6 (↑T : Int)), .sl (bss (l ++ F)) (List.length l + List.length F) .any, (I6 (↑(List.length B + T) : Int))] ++ UU 31 ++ [.sl (bss (l ++ F)) (List.length l + List.length F) .any, .sl [] 0 .cap0, .sl (bss l) (List.length l) .any, .row 1 0 (List.length l), .sl (bss F) (List.length F) .any, .row 1 0 (List.length l + List.length F), (B6 true), (B6 true), (I6 (↑(List.length B + T) : Int)), .sl (u8s B) (List.length B) .any, (I6 (↑(List.length B) : Int)), (I6 (↑T : Int)), (I6 ((↑(List.length B) : Int) + (↑T : Int))), (B6 true), (B6 true), (B6 true), (B6 true), .undef], [⟨u8s (B ++ r), 1, .frozen⟩, ⟨bss (l ++ F), 1, .grown⟩]⟩ ⟨by kernel_rfl, by kernel_rfl, by kernel_rfl⟩ ?_
          refine DerQ.run (TT 2) ⟨[.sl (bss l) (List.length l) .any, U6, U6, U6, (B6 true), .sl (u8s B) (List.length B) .any, U6, U6, .sl (bss F) (List.length F) .any, (I6 (↑T : Int)), .sl (bss (l ++ F)) (List.length l + List.length F) .any, (I6 (↑(List.length B + T) : Int))] ++ UU 31 ++ [.sl (bss (l ++ F)) (List.length l + List.length F) .any, .sl [] 0 .cap0, .sl (bss l) (List.length l) .any, .row 1 0 (List.length l), .sl (bss F) (List.length F) .any, .row 1 0 (List.length l + List.length F), (B6 true), (B6 true), (I6 (↑(List.length B + T) : Int)), .sl (u8s B) (List.length B) .any, (I6 (↑(List.length B) : Int)), (I6 (↑T : Int)), (I6 ((↑(List.length B) : Int) + (↑T : Int))), (B6 true), (B6 true), (B6 true), (B6 true), (B6 true)], [⟨u8s (B ++ r), 1, .frozen⟩, ⟨bss (l ++ F), 1, .grown⟩]⟩ (by kernel_rfl) (tt 2) ?_
          refine KL ([0, 5, 8, 9, 10, 11] ++ NN 43 18) ⟨[U6, U6, U6, U6, (B6 true)] ++ UU 56, [⟨u8s (B ++ r), 1, .frozen⟩, ⟨bss (l ++ F), 1, .grown⟩]⟩ ?_
          refine AWP.ret FA
    · refine EvD.body Try.func3 rfl rfl rfl ?_
      refine AWP.seq ?_
      refine TO ⟨[.sl (bss l) (List.length l) .any, .sl (u8s r) (List.length r) .any] ++ UU 59, []⟩ ?_
      refine AWP.reg (RT 1 ?_)
      refine AWP.seq (AWP.seq ?_)
      refine TO ⟨[.sl (bss l) (List.length l) .any, .sl (u8s r) (List.length r) .any, U6, U6, (B6 false)] ++ UU 56, []⟩ ?_
      refine AWP.reg (PT 1 1 ?_)
      refine CD (fw) ?_
      refine RT 6 ?_
      refine KL (NN 12 7) ⟨[.sl (bss l) (List.length l) .any, .sl (u8s r) (List.length r) .any, U6, U6, (B6 false)] ++ UU 14 ++ [(B6 (decide ((↑(List.length r) : Int) > 6000)))] ++ UU 41, []⟩ ?_
      refine CN (decide ((↑(List.length r) : Int) > 6000)) (fun h1 => ?_) (fun h1 => ?_)
      · have h1' := of_decide_eq_true h1
        refine SQ (CD (heads) ?_)
        refine RT 1 ?_
        refine AWP.ret FA
      · have h1' := of_decide_eq_false h1
        exfalso; omega
  · have fw := few_not hf
    refine EvD.body Try.func3 rfl rfl rfl ?_
    refine AWP.seq ?_
    refine TO ⟨[.sl (bss l) (List.length l) .any, .sl (u8s r) (List.length r) .any] ++ UU 59, []⟩ ?_
    refine AWP.reg (RT 1 ?_)
    refine AWP.seq (AWP.seq ?_)
    refine TO ⟨[.sl (bss l) (List.length l) .any, .sl (u8s r) (List.length r) .any, U6, U6, (B6 false)] ++ UU 56, []⟩ ?_
    refine AWP.reg (PT 1 1 ?_)
    refine CD (fw) ?_
    refine RT 3 ?_
    refine KL (NN 12 7) ⟨[.sl (bss l) (List.length l) .any, .sl (u8s r) (List.length r) .any, U6, U6, (B6 false)] ++ UU 14 ++ [(B6 true)] ++ UU 41, []⟩ ?_
    refine CN true (fun _ => ?_) (fun h => nomatch h)
    refine SQ (CD (heads) ?_)
    refine RT 1 ?_
    refine AWP.ret FA
end Go.Rec
