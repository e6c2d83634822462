/- Walks and laws. -/
import Derived.Test.YtikllaiggklljaaRc8
import Derived.Test.YtikllaiggklljaaLibB
set_option maxRecDepth 100000
set_option maxHeartbeats 0
set_option linter.unusedSimpArgs false
set_option linter.unusedVariables false
namespace Go.Rec
open Go Go.Abs Go.Proofs Go.Crc Go.Chu
theorem scan_bts : ∀ (k : Nat) (b : List Int) (p : Nat), Bts b → ∀ q ∈ scanF k b p, Bts q.2
  | 0, b, p, hb, q, hq => by simp [scanF] at hq
  | k + 1, b, p, hb, q, hq => by
    cases h : bodyP (b.drop p) with
    | none => rw [scanF_none h] at hq; simp at hq
    | some x =>
      rw [scanF_some h, List.mem_cons] at hq
      rcases hq with rfl | hq
      · have hx : Bts x := by
          unfold bodyP at h
          split at h
          · simp at h
          · split at h
            · simp at h
            · exact opn_bts h (((hb.drop _).drop _).take _)
        exact hx
      · exact scan_bts k b _ hb q hq
theorem fnd_bts {b : List Int} (hb : Bts b) : ∀ x ∈ fnd b, Bts x := by
  intro x hx
  simp only [fnd, List.mem_map] at hx
  obtain ⟨q, hq, rfl⟩ := hx
  exact scan_bts _ _ _ hb q hq
theorem fnd_len (b : List Int) : (fnd b).length ≤ b.length := by simp only [fnd, List.length_map]; exact recs_len b
theorem l_same (a : List (List Int)) (h : a.length ≤ 1000000) (hb : ∀ x ∈ a, Bts x) : EvD Try.prog 16 [.sl (bss a) a.length .any, .sl (bss a) a.length .any] (.sc (.bool true)) := by
  have := r_lists a a h hb hb
  rwa [decide_eq_true rfl] at this
theorem b_same (a : List Int) (hb : Bts a) : EvD Try.prog 20 [.sl (u8s a) a.length .any, .sl (u8s a) a.length .any] (.sc (.bool true)) := by
  have := r_bytes a a a.length a.length hb hb rfl rfl
  rwa [beq_self_eq_true] at this
theorem recordTells (b x : List Int) (hb : Bts b) (hx : Bts x) : EvD Try.prog 4 [.sl (u8s b) b.length .any, .sl (u8s x) x.length .any] (.sc (.bool true)) := by
  by_cases hg : b.length ≤ 6000 ∧ x.length ≤ 6000
  · obtain ⟨h1, h2⟩ := hg
    have hbp : Bts (b ++ recd x) := hb.append (recd_bts hx)
    have p1 := put_ok b x (by omega) (by omega)
    have p2 := rput_ok b x (by omega) (by omega)
    have rb := b_same _ hbp
    generalize b ++ recd x = P at p1 p2 rb
    have s1 := c_found b (by omega) hb
    have s2 := r_found b (by omega) hb
    have ls := l_same (fnd b) (Nat.le_trans (fnd_len b) (by omega)) (fnd_bts hb)
    generalize fnd b = F at s1 s2 ls
    have z1 := c_size x (by omega)
    have z2 := r_size x
    rw [if_pos (by omega)] at z2
    refine EvD.body Try.func4 rfl rfl rfl ?_
    refine AWP.seq ?_
    refine TO ⟨[.sl (u8s b) (List.length b) .any, .sl (u8s x) (List.length x) .any] ++ UU 70, []⟩ ?_
    refine AWP.reg (RT 1 ?_)
    refine AWP.seq (AWP.seq ?_)
    refine TO ⟨[.sl (u8s b) (List.length b) .any, .sl (u8s x) (List.length x) .any, U6, U6, (B6 false)] ++ UU 67, []⟩ ?_
    refine AWP.reg (PT 4 4 ?_)
    refine DerQ.to ⟨[.sl (u8s b) (List.length b) .any, .sl (u8s x) (List.length x) .any, U6, U6, (B6 false)] ++ UU 8 ++ [.sl (u8s b) (List.length b) .any, (I6 (↑(List.length b) : Int)), (B6 (decide ((↑(List.length b) : Int) > 6000))), (B6 (decide ((↑(List.length b) : Int) > 6000)))] ++ UU 55, []⟩ (by kernel_rfl) ?_
    cases h3 : (decide ((↑(List.length b) : Int) > 6000))
    · have h3' := of_decide_eq_false h3
      refine RT 4 ?_
      refine KL (NN 13 7) ⟨[.sl (u8s b) (List.length b) .any, .sl (u8s x) (List.length x) .any, U6, U6, (B6 false)] ++ UU 15 ++ [(B6 (decide ((↑(List.length x) : Int) > 6000)))] ++ UU 51, []⟩ ?_
      refine CN (decide ((↑(List.length x) : Int) > 6000)) (fun h4 => ?_) (fun h4 => ?_)
      · have h4' := of_decide_eq_true h4
        exfalso; omega
      · have h4' := of_decide_eq_false h4
        refine AWP.skip (SQ (PT 2 2 ?_))
        refine CD (p1) ?_
        refine RT 5 ?_
        refine AWP.seq (KL ([20] ++ NN 22 6) ⟨[.sl (u8s b) (List.length b) .any, .sl (u8s x) (List.length x) .any, U6, U6, (B6 false), .sl (u8s P) (List.length P) .any, (I6 0)] ++ UU 65, []⟩ ?_)
        refine AWP.reg (PT 2 2 ?_)
        refine CD (p2) ?_
        refine RT 5 ?_
        refine AWP.seq (KL (NN 28 6) ⟨[.sl (u8s b) (List.length b) .any, .sl (u8s x) (List.length x) .any, U6, U6, (B6 false), .sl (u8s P) (List.length P) .any, (I6 0), .sl (u8s P) (List.length P) .any, (I6 0)] ++ UU 63, []⟩ ?_)
        refine AWP.reg (PT 1 1 ?_)
        refine CD (s1) ?_
        refine RT 5 ?_
        refine AWP.seq (KL (NN 34 5) ⟨[.sl (u8s b) (List.length b) .any, .sl (u8s x) (List.length x) .any, U6, U6, (B6 false), .sl (u8s P) (List.length P) .any, (I6 0), .sl (u8s P) (List.length P) .any, (I6 0), .sl (bss F) (List.length F) .any, (I6 (↑(ato b) : Int))] ++ UU 61, []⟩ ?_)
        refine AWP.reg (PT 1 1 ?_)
        refine CD (s2) ?_
        refine RT 5 ?_
        refine AWP.seq (KL ([0] ++ NN 39 5) ⟨[U6, .sl (u8s x) (List.length x) .any, U6, U6, (B6 false), .sl (u8s P) (List.length P) .any, (I6 0), .sl (u8s P) (List.length P) .any, (I6 0), .sl (bss F) (List.length F) .any, (I6 (↑(ato b) : Int)), .sl (bss F) (List.length F) .any, (I6 (↑(ato b) : Int))] ++ UU 59, []⟩ ?_)
        refine AWP.reg (PT 2 2 ?_)
        refine CD (rb) ?_
        refine PT 8 8 ?_
        refine CD (ls) ?_
        refine PT 7 7 ?_
        refine DerQ.to ⟨[U6, .sl (u8s x) (List.length x) .any, U6, U6, (B6 false), .sl (u8s P) (List.length P) .any, (I6 0), .sl (u8s P) (List.length P) .any, (I6 0), .sl (bss F) (List.length F) .any, (I6 (↑(ato b) : Int)), .sl (bss F) (List.length F) .any, (I6 (↑(ato b) : Int))] ++ UU 31 ++ [.sl (u8s P) (List.length P) .any, .sl (u8s P) (List.length P) .any, (B6 true), (B6 true), (I6 0), (I6 0), (B6 true), (B6 true), (B6 true), .sl (bss F) (List.length F) .any, .sl (bss F) (List.length F) .any, (B6 true), (B6 true), (B6 true), (I6 (↑(ato b) : Int)), (I6 (↑(ato b) : Int)), (B6 ((↑(ato b) : Int) == (↑(ato b) : Int))), (B6 ((↑(ato b) : Int) == (↑(ato b) : Int))), (B6 ((↑(ato b) : Int) == (↑(ato b) : Int)))] ++ UU 9, []⟩ (by kernel_rfl) ?_
        cases h5 : ((↑(ato b) : Int) == (↑(ato b) : Int))
        · have h5' := ne_of_beq_false h5
          exfalso; omega
        · have h5' := eq_of_beq h5
          refine PT 1 1 ?_
          refine CD (z1) ?_
          refine PT 1 1 ?_
          refine CD (z2) ?_
          refine PT 3 3 ?_
          refine DerQ.to ⟨[U6, .sl (u8s x) (List.length x) .any, U6, U6, (B6 false), .sl (u8s P) (List.length P) .any, (I6 0), .sl (u8s P) (List.length P) .any, (I6 0), .sl (bss F) (List.length F) .any, (I6 (↑(ato b) : Int)), .sl (bss F) (List.length F) .any, (I6 (↑(ato b) : Int))] ++ UU 31 ++ [.sl (u8s P) (List.length P) .any, .sl (u8s P) (List.length P) .any, (B6 true), (B6 true), (I6 0), (I6 0), (B6 true), (B6 true), (B6 true), .sl (bss F) (List.length F) .any, .sl (bss F) (List.length F) .any, (B6 true), (B6 true), (B6 true), (I6 (↑(ato b) : Int)), (I6 (↑(ato b) : Int)), (B6 true), (B6 true), (B6 true), .sl (u8s x) (List.length x) .any, (I6 ((↑(List.length x) : Int) + 8)), .sl (u8s x) (List.length x) .any, (I6 ((↑(List.length x) : Int) + 8)), (B6 ((↑(List.length x) : Int) + 8 == (↑(List.length x) : Int) + 8)), (B6 ((↑(List.length x) : Int) + 8 == (↑(List.length x) : Int) + 8)), (B6 ((↑(List.length x) : Int) + 8 == (↑(List.length x) : Int) + 8)), U6, .undef], []⟩ (by kernel_rfl) ?_
          cases h6 : ((↑(List.length x) : Int) + 8 == (↑(List.length x) : Int) + 8)
          · have h6' := ne_of_beq_false h6
            exfalso; omega
          · have h6' := eq_of_beq h6
            refine CD (heads) ?_
            refine RT 2 ?_
            refine AWP.ret FA
    · have h3' := of_decide_eq_true h3
      exfalso; omega
  · refine EvD.body Try.func4 rfl rfl rfl ?_
    refine AWP.seq ?_
    refine TO ⟨[.sl (u8s b) (List.length b) .any, .sl (u8s x) (List.length x) .any] ++ UU 70, []⟩ ?_
    refine AWP.reg (RT 1 ?_)
    refine AWP.seq (AWP.seq ?_)
    refine TO ⟨[.sl (u8s b) (List.length b) .any, .sl (u8s x) (List.length x) .any, U6, U6, (B6 false)] ++ UU 67, []⟩ ?_
    refine AWP.reg (PT 4 4 ?_)
    refine DerQ.to ⟨[.sl (u8s b) (List.length b) .any, .sl (u8s x) (List.length x) .any, U6, U6, (B6 false)] ++ UU 8 ++ [.sl (u8s b) (List.length b) .any, (I6 (↑(List.length b) : Int)), (B6 (decide ((↑(List.length b) : Int) > 6000))), (B6 (decide ((↑(List.length b) : Int) > 6000)))] ++ UU 55, []⟩ (by kernel_rfl) ?_
    cases h1 : (decide ((↑(List.length b) : Int) > 6000))
    · have h1' := of_decide_eq_false h1
      refine RT 4 ?_
      refine KL (NN 13 7) ⟨[.sl (u8s b) (List.length b) .any, .sl (u8s x) (List.length x) .any, U6, U6, (B6 false)] ++ UU 15 ++ [(B6 (decide ((↑(List.length x) : Int) > 6000)))] ++ UU 51, []⟩ ?_
      refine CN (decide ((↑(List.length x) : Int) > 6000)) (fun h2 => ?_) (fun h2 => ?_)
      · have h2' := of_decide_eq_true h2
        refine SQ (CD (heads) ?_)
        refine RT 1 ?_
        refine AWP.ret FA
      · have h2' := of_decide_eq_false h2
        exfalso; omega
    · have h1' := of_decide_eq_true h1
      refine RT 1 ?_
      refine KL (NN 13 7) ⟨[.sl (u8s b) (List.length b) .any, .sl (u8s x) (List.length x) .any, U6, U6, (B6 false)] ++ UU 15 ++ [(B6 true)] ++ UU 51, []⟩ ?_
      refine CN true (fun _ => ?_) (fun h => nomatch h)
      refine SQ (CD (heads) ?_)
      refine RT 1 ?_
      refine AWP.ret FA
end Go.Rec
