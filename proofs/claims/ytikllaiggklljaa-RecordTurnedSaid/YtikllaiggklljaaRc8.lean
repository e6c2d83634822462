/- Walks and laws. -/
import Derived.Test.YtikllaiggklljaaRc7
import Derived.Test.YtikllaiggklljaaLibB
set_option maxRecDepth 100000
set_option maxHeartbeats 0
set_option linter.unusedSimpArgs false
set_option linter.unusedVariables false
namespace Go.Rec
open Go Go.Abs Go.Proofs Go.Crc Go.Chu
theorem c_found (b : List Int) (hx : b.length ≤ 100000) (hb : Bts b) : EvD Try.prog 15 [.sl (u8s b) b.length .any] (.tup [.sl (bss (fnd b)) (fnd b).length .any, .sc (.int .i64 (ato b : Int))]) := by
  have := c_scan b hx hb
  rw [show (fnd b).length = (recs b).length by simp [fnd]]
  exact this
theorem b8_bts (y : Int) : 0 ≤ b8 y ∧ b8 y < 256 := by simp only [b8, IntKind.wrap_u8]; omega
theorem hd4_bts (n : Nat) : Bts (hd4 n) := fun x hx => by
  simp only [hd4, List.mem_cons, List.not_mem_nil, or_false] at hx
  rcases hx with rfl | rfl | rfl | rfl <;> exact b8_bts _
theorem recd_bts {x : List Int} (h : Bts x) : Bts (recd x) := by
  rw [recd_eq2]; exact (hd4_bts _).append (h.append (laid_bts _))
theorem lay_bts : ∀ {l : List (List Int)}, (∀ x ∈ l, Bts x) → Bts (lay l)
  | [], _ => Bts.nil
  | x :: l, h => by
    have e : lay (x :: l) = recd x ++ lay l := by simp [lay]
    rw [e]; exact (recd_bts (h x (by simp))).append (lay_bts fun y hy => h y (by simp [hy]))
theorem ba : Bts [97] := Bts.of_all _ rfl
theorem bbc : Bts [98, 99] := Bts.of_all _ rfl
theorem two_bts : ∀ x ∈ [[(97 : Int)], [98, 99]], Bts x := fun x hx => by
  simp only [List.mem_cons, List.not_mem_nil, or_false] at hx
  rcases hx with rfl | rfl
  · exact ba
  · exact bbc
theorem one_bts : ∀ x ∈ [[(97 : Int)]], Bts x := fun x hx => two_bts x (by simp at hx ⊢; exact .inl hx)
theorem hp1 : ∃ A : List Int, A = recd [97] ∧ A.length = 9 ∧ EvD Try.prog 17 [.sl [] 0 .any, .sl [.sc (.int .u8 97)] 1 .any] (.tup [.sl (u8s A) 9 .any, .sc (.int .i64 0)]) :=
  ⟨_, rfl, by rw [recd_len]; rfl, put_ok [] [97] (by decide) (by decide)⟩
theorem hp2 {A : List Int} (hA : A = recd [97]) : ∃ C : List Int, C = lay [[97], [98, 99]] ∧ C.length = 19 ∧ EvD Try.prog 17 [.sl (u8s A) 9 .any, .sl [.sc (.int .u8 98), .sc (.int .u8 99)] 2 .any] (.tup [.sl (u8s C) 19 .any, .sc (.int .i64 0)]) := by
  have hl : A.length = 9 := by rw [hA, recd_len]; rfl
  have e : lay [[97], [98, 99]] = A ++ recd [98, 99] := by rw [hA]; simp [lay]
  have h := put_ok A [98, 99] (by omega) (by decide)
  have hl2 : (A ++ recd [98, 99]).length = 19 := by rw [List.length_append, hl, recd_len]; rfl
  rw [hl2, hl] at h
  exact ⟨_, e.symm ▸ rfl, hl2, h⟩
theorem few2 : fewP [[97], [98, 99]] := by decide
theorem hs1 {C : List Int} (hC : C = lay [[97], [98, 99]]) (hl : C.length = 19) : EvD Try.prog 15 [.sl (u8s C) 19 .any] (.tup [.sl [.sl [.sc (.int .u8 97)] 1 .any, .sl [.sc (.int .u8 98), .sc (.int .u8 99)] 2 .any] 2 .any, .sc (.int .i64 19)]) := by
  have h := c_found C (by omega) (by rw [hC]; exact lay_bts two_bts)
  have e1 := fnd_lay [] _ (few_len few2)
  have e2 := ato_lay [] _ (few_len few2)
  rw [List.append_nil, ← hC, fnd_none [] (bodyP_short _ (by decide)), List.append_nil] at e1
  rw [List.append_nil, ← hC, ato_none [] (bodyP_short _ (by decide)), hl] at e2
  rw [e1, e2, hl] at h
  exact h
theorem hs2 {C : List Int} (hC : C = lay [[97], [98, 99]]) (hl : C.length = 19) : EvD Try.prog 15 [.sl (u8s (List.take 18 C)) 18 .any] (.tup [.sl [.sl [.sc (.int .u8 97)] 1 .any] 1 .any, .sc (.int .i64 9)]) := by
  have hb : Bts C := by rw [hC]; exact lay_bts two_bts
  have h := c_found (List.take 18 C) (by rw [List.length_take]; omega) (hb.take _)
  have l1 : (lay [[97]]).length = 9 := by rw [lay_len]; rfl
  obtain ⟨e1, e2⟩ := cut_fnd [[97], [98, 99]] few2 18 1 (by decide) (fun _ => by show 18 < (lay [[97], [98, 99]]).length; rw [← hC, hl]; omega) (by show (lay [[97]]).length ≤ 18; rw [l1]; omega) (by rw [← hC, hl]; omega)
  rw [← hC] at e1 e2
  have e3 : (lay (List.take 1 [[97], [98, 99]])).length = 9 := l1
  rw [e1, e2, e3, List.length_take, hl] at h
  exact h
theorem hL2 : EvD Try.prog 16 [.sl [.sl [.sc (.int .u8 97)] 1 .any, .sl [.sc (.int .u8 98), .sc (.int .u8 99)] 2 .any] 2 .any, .sl [.sl [.sc (.int .u8 97)] 1 .any, .sl [.sc (.int .u8 98), .sc (.int .u8 99)] 2 .any] 2 .any] (.sc (.bool true)) := r_lists [[97], [98, 99]] [[97], [98, 99]] (by decide) two_bts two_bts
theorem hL1 : EvD Try.prog 16 [.sl [.sl [.sc (.int .u8 97)] 1 .any] 1 .any, .sl [.sl [.sc (.int .u8 97)] 1 .any] 1 .any] (.sc (.bool true)) := r_lists [[97]] [[97]] (by decide) one_bts one_bts
theorem hz1 : EvD Try.prog 21 [.sl [.sc (.int .u8 97)] 1 .any] (.sc (.int .i64 9)) := c_size [97] (by decide)
theorem rep_u8 (n : Nat) : repA [constA (Value.int .u8 0)] n = u8s (List.replicate n 0) := by
  induction n with
  | zero => rfl
  | succ n ih => rw [List.replicate_succ]; show _ :: repA _ n = _ :: u8s _; rw [ih]; rfl
theorem heads : EvD Try.prog 13 [] (.sc (.bool true)) := by
  obtain ⟨A, hA, lA, p1⟩ := hp1
  obtain ⟨C, hC, lC, p2⟩ := hp2 hA
  have s1 := hs1 hC lC
  have s2 := hs2 hC lC
  refine EvD.body Try.func13 rfl rfl rfl ?_
  refine AWP.seq ?_
  refine TO ⟨[.undef] ++ UU 90, []⟩ ?_
  refine AWP.reg (RT 1 ?_)
  refine AWP.seq ?_
  refine TO ⟨[(B6 false)] ++ UU 90, []⟩ ?_
  refine AWP.reg ?_
  refine DerQ.lit [.sc (.int .u8 97)] 1 1 ⟨[(B6 false)] ++ UU 11 ++ [.row 0 0 1] ++ UU 78, [⟨[.sc (.int .u8 97)], 1, .fresh⟩]⟩ ⟨[(B6 false)] ++ UU 11 ++ [.row 0 0 1, .sl [.sc (.int .u8 97)] 1 .any] ++ UU 77, [⟨[.sc (.int .u8 97)], 1, .frozen⟩]⟩ ⟨by kernel_rfl, by kernel_rfl, by kernel_rfl, by kernel_rfl, by kernel_rfl, by kernel_rfl, by kernel_rfl, by kernel_rfl, by kernel_rfl, by kernel_rfl⟩ ?_
  refine DerQ.callEI (p1) ⟨by kernel_rfl, by kernel_rfl⟩ ?_
  refine RT 5 ?_
  refine AWP.seq (KL (NN 11 6) ⟨[(B6 false), .sl (u8s A) 9 .any, (I6 0)] ++ UU 88, [⟨[.sc (.int .u8 97)], 1, .frozen⟩]⟩ ?_)
  refine AWP.reg (PT 1 1 ?_)
  refine DerQ.lit [.sc (.int .u8 98), .sc (.int .u8 99)] 2 1 ⟨[(B6 false), .sl (u8s A) 9 .any, (I6 0)] ++ UU 15 ++ [.sl (u8s A) 9 .any, .row 1 0 2] ++ UU 71, [⟨[.sc (.int .u8 97)], 1, .frozen⟩, ⟨[.sc (.int .u8 98), .sc (.int .u8 99)], 1, .fresh⟩]⟩ ⟨[(B6 false), .sl (u8s A) 9 .any, (I6 0)] ++ UU 15 ++ [.sl (u8s A) 9 .any, .row 1 0 2, .sl [.sc (.int .u8 98), .sc (.int .u8 99)] 2 .any] ++ UU 70, [⟨[.sc (.int .u8 97)], 1, .frozen⟩, ⟨[.sc (.int .u8 98), .sc (.int .u8 99)], 1, .frozen⟩]⟩ ⟨by kernel_rfl, by kernel_rfl, by kernel_rfl, by kernel_rfl, by kernel_rfl, by kernel_rfl, by kernel_rfl, by kernel_rfl, by kernel_rfl, by kernel_rfl⟩ ?_
  refine CD (p2) ?_
  refine RT 5 ?_
  refine AWP.seq (KL (NN 17 7) ⟨[(B6 false), .sl (u8s A) 9 .any, (I6 0), .sl (u8s C) 19 .any, (I6 0)] ++ UU 86, [⟨[.sc (.int .u8 97)], 1, .frozen⟩, ⟨[.sc (.int .u8 98), .sc (.int .u8 99)], 1, .frozen⟩]⟩ ?_)
  refine AWP.reg (PT 1 1 ?_)
  refine CD (s1) ?_
  refine RT 5 ?_
  refine AWP.seq (KL (NN 24 5) ⟨[(B6 false), .sl (u8s A) 9 .any, (I6 0), .sl (u8s C) 19 .any, (I6 0), .sl [.sl [.sc (.int .u8 97)] 1 .any, .sl [.sc (.int .u8 98), .sc (.int .u8 99)] 2 .any] 2 .any, (I6 19)] ++ UU 84, [⟨[.sc (.int .u8 97)], 1, .frozen⟩, ⟨[.sc (.int .u8 98), .sc (.int .u8 99)], 1, .frozen⟩]⟩ ?_)
  refine AWP.reg ?_
  refine DerQ.pre 6 (True ∧ True ∧ True ∧ True ∧ True ∧ ((((0 : Int) ≤ (0 : Int)) ∧ (((0 : Int) ≤ (18 : Int)) ∧ (((18 : Int) ≤ (19 : Int)) ∧ ((19 : Int) ≤ (19 : Int))))) ∧ (18 ≤ List.length (u8s C))) ∧ True) ⟨[(B6 false), .sl (u8s A) 9 .any, (I6 0), .sl (u8s C) 19 .any, (I6 0), .sl [.sl [.sc (.int .u8 97)] 1 .any, .sl [.sc (.int .u8 98), .sc (.int .u8 99)] 2 .any] 2 .any, (I6 19)] ++ UU 23 ++ [.sl (u8s C) 19 .any, .sl (u8s C) 19 .any, (I6 19), (I6 18), (I6 18), .sl (List.take 18 (List.drop 0 (u8s C))) 18 .any] ++ UU 55, [⟨[.sc (.int .u8 97)], 1, .frozen⟩, ⟨[.sc (.int .u8 98), .sc (.int .u8 99)], 1, .frozen⟩]⟩ (by kernel_rfl) ⟨trivial, trivial, trivial, trivial, trivial, ⟨⟨(by omega), ⟨(by omega), ⟨(by omega), (by omega)⟩⟩⟩, (by (simp [spliceA_length] <;> omega))⟩, trivial⟩ ?_
  rw [List.drop_zero]
  rw [Go.Abs.u8s_take ((18 : Nat)) (C)]
  refine CD (s2) ?_
  refine RT 5 ?_
  refine AWP.seq (KL (NN 29 10) ⟨[(B6 false), .sl (u8s A) 9 .any, (I6 0), .sl (u8s C) 19 .any, (I6 0), .sl [.sl [.sc (.int .u8 97)] 1 .any, .sl [.sc (.int .u8 98), .sc (.int .u8 99)] 2 .any] 2 .any, (I6 19), .sl [.sl [.sc (.int .u8 97)] 1 .any] 1 .any, (I6 9)] ++ UU 82, [⟨[.sc (.int .u8 97)], 1, .frozen⟩, ⟨[.sc (.int .u8 98), .sc (.int .u8 99)], 1, .frozen⟩]⟩ ?_)
  refine AWP.reg ?_
  refine DerQ.pre 1 (((((0 : Int) ≤ (60001 : Int)) ∧ ((60001 : Int) ≤ (1073741824 : Int))) ∧ ((60001 : Int) = (60001 : Int))) ∧ True) ⟨[(B6 false), .sl (u8s A) 9 .any, (I6 0), .sl (u8s C) 19 .any, (I6 0), .sl [.sl [.sc (.int .u8 97)] 1 .any, .sl [.sc (.int .u8 98), .sc (.int .u8 99)] 2 .any] 2 .any, (I6 19), .sl [.sl [.sc (.int .u8 97)] 1 .any] 1 .any, (I6 9)] ++ UU 31 ++ [.row 2 0 60001] ++ UU 50, [⟨[.sc (.int .u8 97)], 1, .frozen⟩, ⟨[.sc (.int .u8 98), .sc (.int .u8 99)], 1, .frozen⟩, ⟨repA [constA (Value.int .u8 0)] 60001, 1, .fresh⟩]⟩ (by kernel_rfl) ⟨⟨⟨(by omega), (by omega)⟩, (by omega)⟩, trivial⟩ ?_
  rw [rep_u8]
  have lZ : (List.replicate 60001 (0 : Int)).length = 60001 := List.length_replicate
  generalize List.replicate 60001 (0 : Int) = Z at lZ ⊢
  have p3 : EvD Try.prog 17 [.sl [] 0 .any, .sl (u8s Z) 60001 .any] (.tup [.sl [] 0 .any, .sc (.int .i64 2)]) := by
    have h := put_big [] Z (by omega)
    rw [lZ] at h
    exact h
  refine DerQ.callF (p3) [2] [.sl [] 0 .nil, .row 2 0 60001] [.sl [] 0 .nil, .sl (List.take 60001 (List.drop 0 (u8s Z))) 60001 .any] ((AVal.data (AVal.sl [] (0 : Nat) SlK.nil) = true) ∧ ((AVal.anyA (AVal.sl [] (0 : Nat) SlK.nil) = AVal.sl [] (0 : Nat) SlK.any) ∧ ((dataAll (u8s Z) = true) ∧ ((AVal.sl (List.take 60001 (List.drop 0 (u8s Z))) 60001 SlK.any = AVal.sl (u8s Z) 60001 SlK.any) ∧ (True))))) ((dataAll (u8s Z) = true) ∧ (True)) [⟨[.sc (.int .u8 97)], 1, .frozen⟩, ⟨[.sc (.int .u8 98), .sc (.int .u8 99)], 1, .frozen⟩, ⟨u8s Z, 1, .frozen⟩] ⟨[(B6 false), .sl (u8s A) 9 .any, (I6 0), .sl (u8s C) 19 .any, (I6 0), .sl [.sl [.sc (.int .u8 97)] 1 .any, .sl [.sc (.int .u8 98), .sc (.int .u8 99)] 2 .any] 2 .any, (I6 19), .sl [.sl [.sc (.int .u8 97)] 1 .any] 1 .any, (I6 9)] ++ UU 31 ++ [.row 2 0 60001, .tup [.sl [] 0 .any, (I6 2)]] ++ UU 49, [⟨[.sc (.int .u8 97)], 1, .frozen⟩, ⟨[.sc (.int .u8 98), .sc (.int .u8 99)], 1, .frozen⟩, ⟨u8s Z, 1, .frozen⟩]⟩ ⟨by kernel_rfl, by kernel_rfl, by kernel_rfl, by kernel_rfl, by kernel_rfl, by kernel_rfl⟩ ⟨(by decide), ⟨(by rfl), ⟨(by exact dataAll_u8s _), ⟨(by (rw [List.drop_zero, List.take_of_length_le (by rw [u8s_length, lZ]; decide)])), trivial⟩⟩⟩⟩ ⟨(by exact dataAll_u8s _), trivial⟩ ?_
  refine RT 5 ?_
  refine AWP.seq (KL ([9] ++ NN 39 5) ⟨[(B6 false), .sl (u8s A) 9 .any, (I6 0), .sl (u8s C) 19 .any, (I6 0), .sl [.sl [.sc (.int .u8 97)] 1 .any, .sl [.sc (.int .u8 98), .sc (.int .u8 99)] 2 .any] 2 .any, (I6 19), .sl [.sl [.sc (.int .u8 97)] 1 .any] 1 .any, (I6 9), U6, (I6 2)] ++ UU 80, [⟨[.sc (.int .u8 97)], 1, .frozen⟩, ⟨[.sc (.int .u8 98), .sc (.int .u8 99)], 1, .frozen⟩, ⟨u8s Z, 1, .frozen⟩]⟩ ?_)
  refine AWP.reg (PT 16 16 ?_)
  refine DerQ.lit [.sc (.int .u8 97)] 1 1 ⟨[(B6 false), .sl (u8s A) 9 .any, (I6 0), .sl (u8s C) 19 .any, (I6 0), .sl [.sl [.sc (.int .u8 97)] 1 .any, .sl [.sc (.int .u8 98), .sc (.int .u8 99)] 2 .any] 2 .any, (I6 19), .sl [.sl [.sc (.int .u8 97)] 1 .any] 1 .any, (I6 9), U6, (I6 2)] ++ UU 33 ++ [(I6 0), (B6 true), (B6 true), (I6 0), (B6 true), (B6 true), (B6 true), (I6 2), (B6 true), (B6 true), (B6 true), .sl (u8s A) 9 .any, (I6 9), (B6 true), (B6 true), (B6 true), .row 3 0 1] ++ UU 30, [⟨[.sc (.int .u8 97)], 1, .frozen⟩, ⟨[.sc (.int .u8 98), .sc (.int .u8 99)], 1, .frozen⟩, ⟨u8s Z, 1, .frozen⟩, ⟨[.sc (.int .u8 97)], 1, .fresh⟩]⟩ ⟨[(B6 false), .sl (u8s A) 9 .any, (I6 0), .sl (u8s C) 19 .any, (I6 0), .sl [.sl [.sc (.int .u8 97)] 1 .any, .sl [.sc (.int .u8 98), .sc (.int .u8 99)] 2 .any] 2 .any, (I6 19), .sl [.sl [.sc (.int .u8 97)] 1 .any] 1 .any, (I6 9), U6, (I6 2)] ++ UU 33 ++ [(I6 0), (B6 true), (B6 true), (I6 0), (B6 true), (B6 true), (B6 true), (I6 2), (B6 true), (B6 true), (B6 true), .sl (u8s A) 9 .any, (I6 9), (B6 true), (B6 true), (B6 true), .row 3 0 1, .sl [.sc (.int .u8 97)] 1 .any] ++ UU 29, [⟨[.sc (.int .u8 97)], 1, .frozen⟩, ⟨[.sc (.int .u8 98), .sc (.int .u8 99)], 1, .frozen⟩, ⟨u8s Z, 1, .frozen⟩, ⟨[.sc (.int .u8 97)], 1, .frozen⟩]⟩ ⟨by kernel_rfl, by kernel_rfl, by kernel_rfl, by kernel_rfl, by kernel_rfl, by kernel_rfl, by kernel_rfl, by kernel_rfl, by kernel_rfl, by kernel_rfl⟩ ?_
  refine CD (hz1) ?_
  refine PT 4 4 ?_
  refine DerQ.lit [.sc (.int .u8 97)] 1 1 ⟨[(B6 false), .sl (u8s A) 9 .any, (I6 0), .sl (u8s C) 19 .any, (I6 0), .sl [.sl [.sc (.int .u8 97)] 1 .any, .sl [.sc (.int .u8 98), .sc (.int .u8 99)] 2 .any] 2 .any, (I6 19), .sl [.sl [.sc (.int .u8 97)] 1 .any] 1 .any, (I6 9), U6, (I6 2)] ++ UU 33 ++ [(I6 0), (B6 true), (B6 true), (I6 0), (B6 true), (B6 true), (B6 true), (I6 2), (B6 true), (B6 true), (B6 true), .sl (u8s A) 9 .any, (I6 9), (B6 true), (B6 true), (B6 true), .row 3 0 1, .sl [.sc (.int .u8 97)] 1 .any, (I6 9), (B6 true), (B6 true), (B6 true), .sl [.sl [.sc (.int .u8 97)] 1 .any, .sl [.sc (.int .u8 98), .sc (.int .u8 99)] 2 .any] 2 .any, .row 4 0 1] ++ UU 23, [⟨[.sc (.int .u8 97)], 1, .frozen⟩, ⟨[.sc (.int .u8 98), .sc (.int .u8 99)], 1, .frozen⟩, ⟨u8s Z, 1, .frozen⟩, ⟨[.sc (.int .u8 97)], 1, .frozen⟩, ⟨[.sc (.int .u8 97)], 1, .fresh⟩]⟩ ⟨[(B6 false), .sl (u8s A) 9 .any, (I6 0), .sl (u8s C) 19 .any, (I6 0), .sl [.sl [.sc (.int .u8 97)] 1 .any, .sl [.sc (.int .u8 98), .sc (.int .u8 99)] 2 .any] 2 .any, (I6 19), .sl [.sl [.sc (.int .u8 97)] 1 .any] 1 .any, (I6 9), U6, (I6 2)] ++ UU 33 ++ [(I6 0), (B6 true), (B6 true), (I6 0), (B6 true), (B6 true), (B6 true), (I6 2), (B6 true), (B6 true), (B6 true), .sl (u8s A) 9 .any, (I6 9), (B6 true), (B6 true), (B6 true), .row 3 0 1, .sl [.sc (.int .u8 97)] 1 .any, (I6 9), (B6 true), (B6 true), (B6 true), .sl [.sl [.sc (.int .u8 97)] 1 .any, .sl [.sc (.int .u8 98), .sc (.int .u8 99)] 2 .any] 2 .any, .row 4 0 1, .sl [.sc (.int .u8 97)] 1 .any] ++ UU 22, [⟨[.sc (.int .u8 97)], 1, .frozen⟩, ⟨[.sc (.int .u8 98), .sc (.int .u8 99)], 1, .frozen⟩, ⟨u8s Z, 1, .frozen⟩, ⟨[.sc (.int .u8 97)], 1, .frozen⟩, ⟨[.sc (.int .u8 97)], 1, .frozen⟩]⟩ ⟨by kernel_rfl, by kernel_rfl, by kernel_rfl, by kernel_rfl, by kernel_rfl, by kernel_rfl, by kernel_rfl, by kernel_rfl, by kernel_rfl, by kernel_rfl⟩ ?_
  refine DerQ.lit [.sc (.int .u8 98), .sc (.int .u8 99)] 2 1 ⟨[(B6 false), .sl (u8s A) 9 .any, (I6 0), .sl (u8s C) 19 .any, (I6 0), .sl [.sl [.sc (.int .u8 97)] 1 .any, .sl [.sc (.int .u8 98), .sc (.int .u8 99)] 2 .any] 2 .any, (I6 19), .sl [.sl [.sc (.int .u8 97)] 1 .any] 1 .any, (I6 9), U6, (I6 2)] ++ UU 33 ++ [(I6 0), (B6 true), (B6 true), (I6 0), (B6 true), (B6 true), (B6 true), (I6 2), (B6 true), (B6 true), (B6 true), .sl (u8s A) 9 .any, (I6 9), (B6 true), (B6 true), (B6 true), .row 3 0 1, .sl [.sc (.int .u8 97)] 1 .any, (I6 9), (B6 true), (B6 true), (B6 true), .sl [.sl [.sc (.int .u8 97)] 1 .any, .sl [.sc (.int .u8 98), .sc (.int .u8 99)] 2 .any] 2 .any, .row 4 0 1, .sl [.sc (.int .u8 97)] 1 .any, .row 5 0 2] ++ UU 21, [⟨[.sc (.int .u8 97)], 1, .frozen⟩, ⟨[.sc (.int .u8 98), .sc (.int .u8 99)], 1, .frozen⟩, ⟨u8s Z, 1, .frozen⟩, ⟨[.sc (.int .u8 97)], 1, .frozen⟩, ⟨[.sc (.int .u8 97)], 1, .frozen⟩, ⟨[.sc (.int .u8 98), .sc (.int .u8 99)], 1, .fresh⟩]⟩ ⟨[(B6 false), .sl (u8s A) 9 .any, (I6 0), .sl (u8s C) 19 .any, (I6 0), .sl [.sl [.sc (.int .u8 97)] 1 .any, .sl [.sc (.int .u8 98), .sc (.int .u8 99)] 2 .any] 2 .any, (I6 19), .sl [.sl [.sc (.int .u8 97)] 1 .any] 1 .any, (I6 9), U6, (I6 2)] ++ UU 33 ++ [(I6 0), (B6 true), (B6 true), (I6 0), (B6 true), (B6 true), (B6 true), (I6 2), (B6 true), (B6 true), (B6 true), .sl (u8s A) 9 .any, (I6 9), (B6 true), (B6 true), (B6 true), .row 3 0 1, .sl [.sc (.int .u8 97)] 1 .any, (I6 9), (B6 true), (B6 true), (B6 true), .sl [.sl [.sc (.int .u8 97)] 1 .any, .sl [.sc (.int .u8 98), .sc (.int .u8 99)] 2 .any] 2 .any, .row 4 0 1, .sl [.sc (.int .u8 97)] 1 .any, .row 5 0 2, .sl [.sc (.int .u8 98), .sc (.int .u8 99)] 2 .any] ++ UU 20, [⟨[.sc (.int .u8 97)], 1, .frozen⟩, ⟨[.sc (.int .u8 98), .sc (.int .u8 99)], 1, .frozen⟩, ⟨u8s Z, 1, .frozen⟩, ⟨[.sc (.int .u8 97)], 1, .frozen⟩, ⟨[.sc (.int .u8 97)], 1, .frozen⟩, ⟨[.sc (.int .u8 98), .sc (.int .u8 99)], 1, .frozen⟩]⟩ ⟨by kernel_rfl, by kernel_rfl, by kernel_rfl, by kernel_rfl, by kernel_rfl, by kernel_rfl, by kernel_rfl, by kernel_rfl, by kernel_rfl, by kernel_rfl⟩ ?_
  refine PT 1 1 ?_
  refine DerQ.callEI (hL2) ⟨by kernel_rfl, by kernel_rfl⟩ ?_
  refine PT 9 9 ?_
  refine DerQ.lit [.sc (.int .u8 97)] 1 1 ⟨[(B6 false), .sl (u8s A) 9 .any, (I6 0), .sl (u8s C) 19 .any, (I6 0), .sl [.sl [.sc (.int .u8 97)] 1 .any, .sl [.sc (.int .u8 98), .sc (.int .u8 99)] 2 .any] 2 .any, (I6 19), .sl [.sl [.sc (.int .u8 97)] 1 .any] 1 .any, (I6 9), U6, (I6 2)] ++ UU 33 ++ [(I6 0), (B6 true), (B6 true), (I6 0), (B6 true), (B6 true), (B6 true), (I6 2), (B6 true), (B6 true), (B6 true), .sl (u8s A) 9 .any, (I6 9), (B6 true), (B6 true), (B6 true), .row 3 0 1, .sl [.sc (.int .u8 97)] 1 .any, (I6 9), (B6 true), (B6 true), (B6 true), .sl [.sl [.sc (.int .u8 97)] 1 .any, .sl [.sc (.int .u8 98), .sc (.int .u8 99)] 2 .any] 2 .any, .row 4 0 1, .sl [.sc (.int .u8 97)] 1 .any, .row 5 0 2, .sl [.sc (.int .u8 98), .sc (.int .u8 99)] 2 .any, .sl [.sl [.sc (.int .u8 97)] 1 .any, .sl [.sc (.int .u8 98), .sc (.int .u8 99)] 2 .any] 2 .nn, (B6 true), (B6 true), (B6 true), (I6 19), .sl (u8s C) 19 .any, (I6 19), (B6 true), (B6 true), (B6 true), .sl [.sl [.sc (.int .u8 97)] 1 .any] 1 .any, .row 6 0 1] ++ UU 8, [⟨[.sc (.int .u8 97)], 1, .frozen⟩, ⟨[.sc (.int .u8 98), .sc (.int .u8 99)], 1, .frozen⟩, ⟨u8s Z, 1, .frozen⟩, ⟨[.sc (.int .u8 97)], 1, .frozen⟩, ⟨[.sc (.int .u8 97)], 1, .frozen⟩, ⟨[.sc (.int .u8 98), .sc (.int .u8 99)], 1, .frozen⟩, ⟨[.sc (.int .u8 97)], 1, .fresh⟩]⟩ ⟨[(B6 false), .sl (u8s A) 9 .any, (I6 0), .sl (u8s C) 19 .any, (I6 0), .sl [.sl [.sc (.int .u8 97)] 1 .any, .sl [.sc (.int .u8 98), .sc (.int .u8 99)] 2 .any] 2 .any, (I6 19), .sl [.sl [.sc (.int .u8 97)] 1 .any] 1 .any, (I6 9), U6, (I6 2)] ++ UU 33 ++ [(I6 0), (B6 true), (B6 true), (I6 0), (B6 true), (B6 true), (B6 true), (I6 2), (B6 true), (B6 true), (B6 true), .sl (u8s A) 9 .any, (I6 9), (B6 true), (B6 true), (B6 true), .row 3 0 1, .sl [.sc (.int .u8 97)] 1 .any, (I6 9), (B6 true), (B6 true), (B6 true), .sl [.sl [.sc (.int .u8 97)] 1 .any, .sl [.sc (.int .u8 98), .sc (.int .u8 99)] 2 .any] 2 .any, .row 4 0 1, .sl [.sc (.int .u8 97)] 1 .any, .row 5 0 2, .sl [.sc (.int .u8 98), .sc (.int .u8 99)] 2 .any, .sl [.sl [.sc (.int .u8 97)] 1 .any, .sl [.sc (.int .u8 98), .sc (.int .u8 99)] 2 .any] 2 .nn, (B6 true), (B6 true), (B6 true), (I6 19), .sl (u8s C) 19 .any, (I6 19), (B6 true), (B6 true), (B6 true), .sl [.sl [.sc (.int .u8 97)] 1 .any] 1 .any, .row 6 0 1, .sl [.sc (.int .u8 97)] 1 .any] ++ UU 7, [⟨[.sc (.int .u8 97)], 1, .frozen⟩, ⟨[.sc (.int .u8 98), .sc (.int .u8 99)], 1, .frozen⟩, ⟨u8s Z, 1, .frozen⟩, ⟨[.sc (.int .u8 97)], 1, .frozen⟩, ⟨[.sc (.int .u8 97)], 1, .frozen⟩, ⟨[.sc (.int .u8 98), .sc (.int .u8 99)], 1, .frozen⟩, ⟨[.sc (.int .u8 97)], 1, .frozen⟩]⟩ ⟨by kernel_rfl, by kernel_rfl, by kernel_rfl, by kernel_rfl, by kernel_rfl, by kernel_rfl, by kernel_rfl, by kernel_rfl, by kernel_rfl, by kernel_rfl⟩ ?_
  refine PT 1 1 ?_
  refine DerQ.callEI (hL1) ⟨by kernel_rfl, by kernel_rfl⟩ ?_
  refine RT 6 ?_
  refine AWP.ret FA
end Go.Rec
