/- Walks and laws. -/
import Derived.Test.YtikllaiggklljaaRc4
set_option maxRecDepth 100000
set_option maxHeartbeats 0
set_option linter.unusedSimpArgs false
set_option linter.unusedVariables false
namespace Go.Rec
open Go Go.Abs Go.Proofs Go.Crc Go.Chu
theorem r_lists (a b : List (List Int)) (hn : a.length ≤ 1000000) (ha : ∀ x ∈ a, Bts x) (hb : ∀ x ∈ b, Bts x) : EvD Try.prog 16 [.sl (bss a) a.length .any, .sl (bss b) b.length .any] (.sc (.bool (decide (a = b)))) := by
  refine EvD.body Try.func16 rfl rfl rfl ?_
  refine AWP.seq ?_
  refine TO ⟨[.sl (bss a) (List.length a) .any, .sl (bss b) (List.length b) .any] ++ UU 26, []⟩ ?_
  refine AWP.reg (RT 1 ?_)
  refine AWP.seq (AWP.seq ?_)
  refine TO ⟨[.sl (bss a) (List.length a) .any, .sl (bss b) (List.length b) .any, U6, U6, (B6 false)] ++ UU 23, []⟩ ?_
  refine AWP.reg (RT 5 ?_)
  refine KL [6, 7, 8, 9] ⟨[.sl (bss a) (List.length a) .any, .sl (bss b) (List.length b) .any, U6, U6, (B6 false)] ++ UU 5 ++ [(B6 ((↑(List.length a) : Int) != (↑(List.length b) : Int)))] ++ UU 17, []⟩ ?_
  refine CN ((↑(List.length a) : Int) != (↑(List.length b) : Int)) (fun h1 => ?_) (fun h1 => ?_)
  · have h1' := bne_iff_ne.1 h1
    refine SQ (RT 1 ?_)
    refine AWP.ret ?_
    refine FI (B6 false) ?_
    refine Shrink.all ?_ rfl
    (exact dec_no (fun hc => by subst hc; simp at *); done)
  · have h1' := bne_eq_false_iff_eq.1 h1
    refine AWP.skip (AWP.seq (SQ (RT 1 ?_)))
    refine AWP.block (KL [10] ⟨[.sl (bss a) (List.length a) .any, .sl (bss b) (List.length b) .any, U6, U6, (B6 false), (I6 0)] ++ UU 22, []⟩ ?_)
    refine AWP.loopM [true, true, false, false, true, true, false, false, false, false, false, false, false, false, false, false, false, false, false, false, false, false, false, false, false, false, false, false] (fun kk st => ∃ (i : Nat), kk = a.length - i ∧ i ≤ a.length ∧ (∀ j, j < i → a.getD j [] = b.getD j []) ∧ st = ⟨[.sl (bss a) (List.length a) .any, .sl (bss b) (List.length b) .any, U6, U6, (B6 false), (I6 (i : Int)), U6, U6, U6, U6, U6, U6, U6, U6, U6, U6, U6, U6, U6, U6, U6, U6, U6, U6, U6, U6, U6, .undef], []⟩) _ ⟨0, rfl, by omega, fun j hj => absurd hj (by omega), by kernel_rfl⟩ ?_
    rintro kk s ⟨i, rfl, hi, hd, rfl⟩
    have ga := BB.get ha i
    have gb := BB.get hb i
    refine AWP.seq (SQ (RT 4 ?_))
    refine KL [11, 12, 13] ⟨[.sl (bss a) (List.length a) .any, .sl (bss b) (List.length b) .any, U6, U6, (B6 false), (I6 (↑i : Int))] ++ UU 8 ++ [(B6 (decide ((↑i : Int) < (↑(List.length a) : Int))))] ++ UU 13, []⟩ ?_
    refine CN (decide ((↑i : Int) < (↑(List.length a) : Int))) (fun h2 => ?_) (fun h2 => ?_)
    · have h2' := of_decide_eq_true h2
      refine AWP.skip (AWP.seq (AWP.block (AWP.seq ?_)))
      refine AWP.drawX mixed (fun _ => false) (by kernel_rfl) ?_
      refine DerX.pre 4 ((True) ∧ ((True) ∧ ((((0 ≤ (↑i : Int)) ∧ ((↑i : Int) < (↑(List.length a) : Int))) ∧ (Int.toNat (↑i : Int) * 1 + 1 ≤ List.length (bss a))) ∧ (((0 : Nat) < (1 : Nat)) ∧ (True))))) [.sl (bss a) (List.length a) .any, (I6 (↑i : Int)), .dptr [List.getD (bss a) (Int.toNat (↑i : Int) * 1 + 0) AVal.undef], List.getD [List.getD (bss a) (Int.toNat (↑i : Int) * 1 + 0) AVal.undef] 0 AVal.undef] ⟨[.sl (bss a) (List.length a) .any, .sl (bss b) (List.length b) .any, U6, U6, (B6 false), (I6 (↑i : Int))] ++ UU 8 ++ [(B6 (decide ((↑i : Int) < (↑(List.length a) : Int)))), U6, U6, .sl (bss a) (List.length a) .any, (I6 (↑i : Int)), .dptr [List.getD (bss a) (Int.toNat (↑i : Int) * 1 + 0) AVal.undef], List.getD (bss a) (Int.toNat (↑i : Int) * 1 + 0) AVal.undef] ++ UU 7, []⟩ (by intro ext; kernel_rfl) (by kernel_rfl) ⟨trivial, ⟨trivial, ⟨⟨⟨(by omega), (by omega)⟩, (by (simp [spliceA_length] <;> omega))⟩, ⟨(by omega), trivial⟩⟩⟩⟩ ?_
      rw [Int.toNat_natCast (i)]
      rw [Nat.mul_one (i)]
      rw [Nat.add_zero (i)]
      rw [Go.Chu.bss_getD (a) (i) (by omega)]
      refine DerX.pre 5 (((List.length (List.getD a i []) = List.length (u8s (List.getD a i []))) ∧ (∀ (i_1 : Nat), i_1 < List.length (u8s (List.getD a i [])) → isByteA (List.getD (u8s (List.getD a i [])) i_1 AVal.undef) = true)) ∧ ((True) ∧ ((True) ∧ ((((0 ≤ (↑i : Int)) ∧ ((↑i : Int) < (↑(List.length b) : Int))) ∧ (Int.toNat (↑i : Int) * 1 + 1 ≤ List.length (bss b))) ∧ (((0 : Nat) < (1 : Nat)) ∧ (True)))))) [(S6 (strOf (u8s (List.getD a i [])))), .sl (bss b) (List.length b) .any, (I6 (↑i : Int)), .dptr [List.getD (bss b) (Int.toNat (↑i : Int) * 1 + 0) AVal.undef], List.getD [List.getD (bss b) (Int.toNat (↑i : Int) * 1 + 0) AVal.undef] 0 AVal.undef] ⟨[.sl (bss a) (List.length a) .any, .sl (bss b) (List.length b) .any, U6, U6, (B6 false), (I6 (↑i : Int))] ++ UU 8 ++ [(B6 (decide ((↑i : Int) < (↑(List.length a) : Int)))), U6, U6, .sl (bss a) (List.length a) .any, (I6 (↑i : Int)), .dptr [.sl (u8s (List.getD a i [])) (List.length (List.getD a i [])) .any], .sl (u8s (List.getD a i [])) (List.length (List.getD a i [])) .any, (S6 (strOf (u8s (List.getD a i [])))), .sl (bss b) (List.length b) .any, (I6 (↑i : Int)), .dptr [List.getD (bss b) (Int.toNat (↑i : Int) * 1 + 0) AVal.undef], List.getD (bss b) (Int.toNat (↑i : Int) * 1 + 0) U6, U6, .undef], []⟩ (by intro ext; kernel_rfl) (by kernel_rfl) ⟨⟨(by simp), (by exact u8s_isByte _)⟩, ⟨trivial, ⟨trivial, ⟨⟨⟨(by omega), (by omega)⟩, (by (simp [spliceA_length] <;> omega))⟩, ⟨(by omega), trivial⟩⟩⟩⟩⟩ ?_
      rw [Int.toNat_natCast (i)]
      rw [Nat.mul_one (i)]
      rw [Nat.add_zero (i)]
      rw [Go.Chu.bss_getD (b) (i) (by omega)]
      refine DerX.preI 2 (((List.length (List.getD b i []) = List.length (u8s (List.getD b i []))) ∧ (∀ (i_1 : Nat), i_1 < List.length (u8s (List.getD b i [])) → isByteA (List.getD (u8s (List.getD b i [])) i_1 AVal.undef) = true)) ∧ ((True) ∧ (True))) (by intro ext; kernel_rfl) ⟨⟨(by simp), (by exact u8s_isByte _)⟩, ⟨trivial, trivial⟩⟩ ?_
      refine DerX.nil ?_
      refine KL ([14] ++ NN 17 10) ⟨[.sl (bss a) (List.length a) .any, .sl (bss b) (List.length b) .any, U6, U6, (B6 false), (I6 (↑i : Int))] ++ UU 21 ++ [(B6 (!ByteArray.toList (strOf (u8s (List.getD a i []))) == ByteArray.toList (strOf (u8s (List.getD b i [])))))], []⟩ ?_
      refine CN (!ByteArray.toList (strOf (u8s (List.getD a i []))) == ByteArray.toList (strOf (u8s (List.getD b i [])))) (fun h3 => ?_) (fun h3 => ?_)
      · have h3' := h3
        simp only [Bool.and_eq_true, Bool.and_eq_false_iff, Bool.or_eq_true, Bool.or_eq_false_iff, Bool.not_eq_true', Bool.not_eq_false', beq_iff_eq, beq_eq_false_iff_ne, decide_eq_true_eq, decide_eq_false_iff_not, ne_eq] at h3'
        refine SQ (RT 1 ?_)
        refine AWP.ret ?_
        refine FI (B6 false) ?_
        refine Shrink.all ?_ rfl
        (exact dec_no (fun hc => by subst hc; simp at *); done)
      · have h3' := h3
        simp only [Bool.and_eq_true, Bool.and_eq_false_iff, Bool.or_eq_true, Bool.or_eq_false_iff, Bool.not_eq_true', Bool.not_eq_false', beq_iff_eq, beq_eq_false_iff_ne, decide_eq_true_eq, decide_eq_false_iff_not, ne_eq] at h3'
        refine AWP.skip (AWP.reg ?_)
        refine DerQ.run (TT 3) ⟨[.sl (bss a) (List.length a) .any, .sl (bss b) (List.length b) .any, U6, U6, (B6 false), (I6 (IntKind.wrap IntKind.i64 ((↑i : Int) + 1)))] ++ UU 9 ++ [(I6 (↑i : Int)), (I6 (IntKind.wrap IntKind.i64 ((↑i : Int) + 1)))] ++ UU 10 ++ [(B6 (!ByteArray.toList (strOf (u8s (List.getD a i []))) == ByteArray.toList (strOf (u8s (List.getD b i [])))))], []⟩ (by kernel_rfl) (tt 3) ?_
        rw [IntWalk.i64_in ((↑i : Int) + 1) (by omega)]
        (exact ⟨_, by omega, i + 1, rfl, by omega, succ_all hd (by have h4 := h3; rw [Go.Abs.strOf_beq _ _ ga gb] at h4; simpa using h4), by kernel_rfl⟩; done)
    · have h2' := of_decide_eq_false h2
      refine AWP.exit ?_
      refine AWP.seq (KL [0, 1, 5, 14] ⟨[U6, U6, U6, U6, (B6 false)] ++ UU 23, []⟩ ?_)
      refine AWP.reg (RT 1 ?_)
      refine AWP.ret ?_
      refine FI (B6 true) ?_
      refine Shrink.all ?_ rfl
      (exact dec_yes (lists_eq a b (by omega) (fun j hj => hd j (by omega))); done)
theorem r_openV (xs : List Int) (n : Nat) (hn : n = xs.length) (hx : xs.length ≤ 1000000) (hb : Bts xs) : EvD Try.prog 52 [.sl (u8s xs) n .any] (.tup [.sl (u8s (oV (opn xs))) (oV (opn xs)).length .any, .sc (.bool (opn xs).isSome)]) := by
  have := r_open xs n hn hx hb
  cases h : opn xs with
  | none => rw [h] at this; exact this
  | some a => rw [h] at this; exact this
theorem be_round2 (b : List Int) (p i : Nat) (h : i < 4) (hl : p + 4 ≤ b.length) : 256 * be (List.take i (List.drop p b)) + List.getD b (Int.toNat ((p : Int) + (i : Int))) 0 = be (List.take (i + 1) (List.drop p b)) := by
  rw [be_take (b.drop p) i (by rw [List.length_drop]; omega), show Int.toNat ((p : Int) + (i : Int)) = p + i by omega]
  congr 1
  rw [List.getD_eq_getElem?_getD, List.getD_eq_getElem?_getD, List.getElem?_drop]
theorem scan_fin {b : List Int} {pre : List (Nat × List Int)} {k p : Nat} (hr : recs b = pre ++ scanF k b p) (hp : p ≤ b.length) (hk : b.length < p + k) (h : bodyP (b.drop p) = none) : recs b = pre := by
  obtain ⟨k, rfl⟩ : ∃ j, k = j + 1 := ⟨k - 1, by omega⟩
  rw [hr, scanF_none h, List.append_nil]
theorem r_fin {b : List Int} {pre : List (Nat × List Int)} {p : Nat} (h : recs b = pre) (he : endof pre = p) : AVal.anyA (.tup [.sl (List.take (pre.length * 1) (List.drop 0 (bods pre))) pre.length .any, .sc (.int .i64 (p : Int))]) = .tup [.sl (bods (recs b)) (recs b).length .any, .sc (.int .i64 (endof (recs b) : Int))] := by
  rw [h, he, List.drop_zero, Nat.mul_one, List.take_of_length_le (by rw [bods_length]; omega)]; rfl
theorem body_at {b : List Int} {p : Nat} (hb : Bts b) (h8 : (p : Int) ≤ (b.length : Int) - 8) (h1 : ¬ be (List.take 4 (List.drop p b)) > 60000) (h2 : ¬ be (List.take 4 (List.drop p b)) > (b.length : Int) - (p : Int) - 8) :
    bodyP (b.drop p) = opn (List.take (Int.toNat ((p : Int) + 8 + be (List.take 4 (List.drop p b))) - Int.toNat ((p : Int) + 4)) (List.drop (Int.toNat ((p : Int) + 4)) b)) := by
  have b3 := be_small 4 (b.drop p) (hb.drop p) (by omega)
  rw [bodyP_open _ (by rw [List.length_drop]; omega) (by omega) (by rw [List.length_drop]; omega), List.drop_drop]
  congr 2 <;> omega
theorem rs_round {b : List Int} {pre : List (Nat × List Int)} {k p : Nat} (hb : Bts b) (hr : recs b = pre ++ scanF k b p) (hp : p ≤ b.length) (hk : b.length < p + k) (h8 : (p : Int) ≤ (b.length : Int) - 8) (h1 : ¬ be (List.take 4 (List.drop p b)) > 60000) (h2 : ¬ be (List.take 4 (List.drop p b)) > (b.length : Int) - (p : Int) - 8)
    (h3 : (opn (List.take (Int.toNat ((p : Int) + 8 + be (List.take 4 (List.drop p b))) - Int.toNat ((p : Int) + 4)) (List.drop (Int.toNat ((p : Int) + 4)) b))).isSome = true) :
    ∃ (q : Nat) (y : List Int), oV (opn (List.take (Int.toNat ((p : Int) + 8 + be (List.take 4 (List.drop p b))) - Int.toNat ((p : Int) + 4)) (List.drop (Int.toNat ((p : Int) + 4)) b))) = y ∧ recs b = (pre ++ [(q, y)]) ++ scanF (k - 1) b q ∧ q ≤ b.length ∧ b.length < q + (k - 1) ∧ endof (pre ++ [(q, y)]) = q ∧ (p : Int) + 8 + be (List.take 4 (List.drop p b)) = (q : Int) := by
  have hbo := body_at hb h8 h1 h2
  have b3 := be_small 4 (b.drop p) (hb.drop p) (by omega)
  obtain ⟨x, hx⟩ := Option.isSome_iff_exists.1 h3
  have hlen := (opn_some hx).2
  rw [List.length_take, List.length_drop] at hlen
  rw [hx] at hbo
  obtain ⟨k, rfl⟩ : ∃ j, k = j + 1 := ⟨k - 1, by omega⟩
  refine ⟨p + 8 + x.length, x, by rw [hx]; rfl, ?_, by omega, by omega, endof_snoc _ _, by omega⟩
  rw [hr, scanF_some hbo, List.append_assoc]; rfl
theorem bods_snoc2 (l : List (Nat × List Int)) (q : Nat) (y : List Int) : bods l ++ [AVal.sl (u8s y) (List.length y) SlK.any] = bods (l ++ [(q, y)]) := bods_snoc l (q, y)
theorem snoc_len (l : List (Nat × List Int)) (q : Nat) (y : List Int) : List.length l + 1 = List.length (l ++ [(q, y)]) := by simp
theorem pre_len {b : List Int} {pre t : List (Nat × List Int)} (h : recs b = pre ++ t) : pre.length ≤ b.length := by
  have h1 := recs_len b
  rw [h, List.length_append] at h1; omega
theorem r_scan (b : List Int) (hx : b.length ≤ 100000) (hb : Bts b) : EvD Try.prog 19 [.sl (u8s b) b.length .any] (.tup [.sl (bods (recs b)) (recs b).length .any, .sc (.int .i64 (endof (recs b) : Int))]) := by
  refine EvD.body Try.func19 rfl rfl (by simp [AVal.data, dataAll]) ?_
  refine AWP.seq ?_
  refine TO ⟨[.sl (u8s b) (List.length b) .any] ++ UU 63, []⟩ ?_
  refine AWP.reg (RT 2 ?_)
  refine AWP.seq ?_
  refine TO ⟨[.sl (u8s b) (List.length b) .any, U6, .sl [] 0 .nil, (I6 0)] ++ UU 60, []⟩ ?_
  refine AWP.reg (RT 1 ?_)
  refine AWP.seq ?_
  refine TO ⟨[.sl (u8s b) (List.length b) .any, U6, .sl [] 0 .nil, (I6 0), .sl [] 0 .nil] ++ UU 59, []⟩ ?_
  refine AWP.reg (RT 1 ?_)
  refine AWP.seq (AWP.block ?_)
  refine TO ⟨[.sl (u8s b) (List.length b) .any, U6, .sl [] 0 .nil, (I6 0), .sl [] 0 .nil, (I6 0)] ++ UU 58, []⟩ ?_
  refine AWP.virt 4 1 ⟨[.sl (u8s b) (List.length b) .any, U6, .sl [] 0 .nil, (I6 0), .row 0 0 0, (I6 0)] ++ UU 58, [⟨[], 1, .fresh⟩]⟩ ⟨by kernel_rfl, by kernel_rfl⟩ ?_
  refine AWP.grow 0 ⟨[], 1, .fresh⟩ ⟨[.sl (u8s b) (List.length b) .any, U6, .sl [] 0 .nil, (I6 0), .row 0 0 0, (I6 0), U6, U6, U6, U6, U6, U6, U6, U6, U6, U6, U6, U6, U6, U6, U6, U6, U6, U6, U6, U6, U6, U6, U6, U6, U6, U6, U6, U6, U6, U6, U6, U6, U6, U6, U6, U6, U6, U6, U6, U6, U6, U6, U6, U6, U6, U6, U6, U6, U6, U6, U6, U6, U6, U6, U6, U6, U6, .undef], [⟨[], 1, .grown⟩]⟩ ⟨by kernel_rfl, by kernel_rfl⟩ rfl rfl ?_
  refine AWP.loopM [true, false, true, true, true, true, false, false, false, false, false, false, false, false, false, false, false, false, false, false, false, false, false, false, false, false, false, false, false, false, false, false, false, false, false, false, false, false, false, false, false, false, false, false, false, false, false, false, false, false, false, false, false, false, false, false, false, false, false, false, false, false, false, false] (fun kk st => ∃ (pre : List (Nat × List Int)) (p k : Nat), kk = k ∧ recs b = pre ++ scanF k b p ∧ p ≤ b.length ∧ b.length < p + k ∧ endof pre = p ∧ st = ⟨[.sl (u8s b) (List.length b) .any, U6, .sl [] 0 .nil, (I6 0), .row 0 0 pre.length, (I6 (p : Int)), U6, U6, U6, U6, U6, U6, U6, U6, U6, U6, U6, U6, U6, U6, U6, U6, U6, U6, U6, U6, U6, U6, U6, U6, U6, U6, U6, U6, U6, U6, U6, U6, U6, U6, U6, U6, U6, U6, U6, U6, U6, U6, U6, U6, U6, U6, U6, U6, U6, U6, U6, U6, U6, U6, U6, U6, U6, .undef], [⟨bods pre, 1, .grown⟩]⟩) _ ⟨[], 0, b.length + 1, rfl, rfl, by omega, by omega, rfl, by kernel_rfl⟩ ?_
  rintro kk s ⟨pre, p, k, rfl, hr, hp, hk, he, rfl⟩
  refine AWP.seq (SQ ?_)
  refine DerQ.run (TT 5) ⟨[.sl (u8s b) (List.length b) .any, U6, .sl [] 0 .nil, (I6 0), .row 0 0 (List.length pre), (I6 (↑p : Int)), U6, U6, U6, U6, (I6 (↑p : Int)), .sl (u8s b) (List.length b) .any, (I6 (↑(List.length b) : Int)), (I6 (IntKind.wrap IntKind.i64 ((↑(List.length b) : Int) - 8))), (B6 (decide ((↑p : Int) ≤ IntKind.wrap IntKind.i64 ((↑(List.length b) : Int) - 8))))] ++ UU 49, [⟨bods pre, 1, .grown⟩]⟩ (by kernel_rfl) (tt 5) ?_
  rw [IntWalk.i64_in ((↑(List.length b) : Int) - 8) (by omega)]
  refine KL [10, 11, 12, 13] ⟨[.sl (u8s b) (List.length b) .any, U6, .sl [] 0 .nil, (I6 0), .row 0 0 (List.length pre), (I6 (↑p : Int))] ++ UU 8 ++ [(B6 (decide ((↑p : Int) ≤ (↑(List.length b) : Int) - 8)))] ++ UU 49, [⟨bods pre, 1, .grown⟩]⟩ ?_
  refine CN (decide ((↑p : Int) ≤ (↑(List.length b) : Int) - 8)) (fun h1 => ?_) (fun h1 => ?_)
  · have h1' := of_decide_eq_true h1
    refine AWP.skip (AWP.block (SQ (RT 1 ?_)))
    refine AWP.seq (AWP.seq (KL [14] ⟨[.sl (u8s b) (List.length b) .any, U6, .sl [] 0 .nil, (I6 0), .row 0 0 (List.length pre), (I6 (↑p : Int)), (I6 0)] ++ UU 57, [⟨bods pre, 1, .grown⟩]⟩ ?_))
    refine AWP.reg (RT 1 ?_)
    refine AWP.block ?_
    refine TO ⟨[.sl (u8s b) (List.length b) .any, U6, .sl [] 0 .nil, (I6 0), .row 0 0 (List.length pre), (I6 (↑p : Int)), (I6 0), (I6 0)] ++ UU 56, [⟨bods pre, 1, .grown⟩]⟩ ?_
    refine AWP.loopM [true, false, true, true, true, true, true, true, false, false, false, false, false, false, false, false, false, false, false, false, false, false, false, false, false, false, false, false, false, false, false, false, false, false, false, false, false, false, false, false, false, false, false, false, false, false, false, false, false, false, false, false, false, false, false, false, false, false, false, false, false, false, false, false] (fun kk st => ∃ (i : Nat), kk = 4 - i ∧ i ≤ 4 ∧ st = ⟨[.sl (u8s b) (List.length b) .any, U6, .sl [] 0 .nil, (I6 0), .row 0 0 (List.length pre), (I6 (↑p : Int)), (I6 (be (List.take i (List.drop p b)))), (I6 (i : Int)), U6, U6, U6, U6, U6, U6, U6, U6, U6, U6, U6, U6, U6, U6, U6, U6, U6, U6, U6, U6, U6, U6, U6, U6, U6, U6, U6, U6, U6, U6, U6, U6, U6, U6, U6, U6, U6, U6, U6, U6, U6, U6, U6, U6, U6, U6, U6, U6, U6, U6, U6, U6, U6, U6, U6, .undef], [⟨bods pre, 1, .grown⟩]⟩) _ ⟨0, rfl, by omega, by kernel_rfl⟩ ?_
    rintro kk s ⟨i, rfl, hi, rfl⟩
    have b3 := be_small i (b.drop p) (hb.drop p) (by omega)
    have c3 := hb.get (Int.toNat ((p : Int) + (i : Int)))
    refine AWP.seq (SQ (RT 2 ?_))
    refine KL [15] ⟨[.sl (u8s b) (List.length b) .any, U6, .sl [] 0 .nil, (I6 0), .row 0 0 (List.length pre), (I6 (↑p : Int)), (I6 (be (List.take i (List.drop p b)))), (I6 (↑i : Int))] ++ UU 8 ++ [(B6 (decide ((↑i : Int) < 4)))] ++ UU 47, [⟨bods pre, 1, .grown⟩]⟩ ?_
    refine CN (decide ((↑i : Int) < 4)) (fun h2 => ?_) (fun h2 => ?_)
    · have h2' := of_decide_eq_true h2
      refine AWP.skip (AWP.seq (AWP.block (AWP.reg ?_)))
      refine DerQ.pre 8 (True ∧ True ∧ True ∧ True ∧ True ∧ True ∧ (((0 ≤ IntKind.wrap IntKind.i64 ((↑p : Int) + (↑i : Int))) ∧ (IntKind.wrap IntKind.i64 ((↑p : Int) + (↑i : Int)) < (↑(List.length b) : Int))) ∧ (Int.toNat (IntKind.wrap IntKind.i64 ((↑p : Int) + (↑i : Int))) * 1 + 1 ≤ List.length (u8s b))) ∧ 0 < 1 ∧ True) ⟨[.sl (u8s b) (List.length b) .any, U6, .sl [] 0 .nil, (I6 0), .row 0 0 (List.length pre), (I6 (↑p : Int)), (I6 (be (List.take i (List.drop p b)))), (I6 (↑i : Int))] ++ UU 8 ++ [(B6 (decide ((↑i : Int) < 4))), U6, U6, (I6 (be (List.take i (List.drop p b)))), (I6 (IntKind.wrap IntKind.i64 (256 * be (List.take i (List.drop p b))))), .sl (u8s b) (List.length b) .any, (I6 (↑p : Int)), (I6 (↑i : Int)), (I6 (IntKind.wrap IntKind.i64 ((↑p : Int) + (↑i : Int)))), .dptr [List.getD (u8s b) (Int.toNat (IntKind.wrap IntKind.i64 ((↑p : Int) + (↑i : Int))) * 1 + 0) AVal.undef], List.getD [List.getD (u8s b) (Int.toNat (IntKind.wrap IntKind.i64 ((↑p : Int) + (↑i : Int))) * 1 + 0) AVal.undef] 0 AVal.undef] ++ UU 37, [⟨bods pre, 1, .grown⟩]⟩ (by kernel_rfl) ⟨trivial, trivial, trivial, trivial, trivial, trivial, ⟨⟨(by (rw [IntWalk.i64_in _ (by omega)]; omega)), (by (rw [IntWalk.i64_in _ (by omega)]; omega))⟩, (by (rw [IntWalk.i64_in _ (by omega)]; simp <;> omega))⟩, (by omega), trivial⟩ ?_
      rw [IntWalk.i64_in (256 * be (List.take i (List.drop p b))) (by omega)]
      rw [IntWalk.i64_in ((↑p : Int) + (↑i : Int)) (by omega)]
      rw [Nat.mul_one (Int.toNat ((↑p : Int) + (↑i : Int)))]
      rw [Nat.add_zero (Int.toNat ((↑p : Int) + (↑i : Int)))]
      rw [Go.Abs.u8s_getD (b) (Int.toNat ((↑p : Int) + (↑i : Int))) (by omega)]
      refine DerQ.run (TT 3) ⟨[.sl (u8s b) (List.length b) .any, U6, .sl [] 0 .nil, (I6 0), .row 0 0 (List.length pre), (I6 (↑p : Int)), (I6 (IntKind.wrap IntKind.i64 (256 * be (List.take i (List.drop p b)) + IntKind.wrap IntKind.i64 (List.getD b (Int.toNat ((↑p : Int) + (↑i : Int))) 0)))), (I6 (↑i : Int))] ++ UU 8 ++ [(B6 (decide ((↑i : Int) < 4))), U6, U6, (I6 (be (List.take i (List.drop p b)))), (I6 (256 * be (List.take i (List.drop p b)))), .sl (u8s b) (List.length b) .any, (I6 (↑p : Int)), (I6 (↑i : Int)), (I6 ((↑p : Int) + (↑i : Int))), .dptr [.sc (.int .u8 (List.getD b (Int.toNat ((↑p : Int) + (↑i : Int))) 0))], .sc (.int .u8 (List.getD b (Int.toNat ((↑p : Int) + (↑i : Int))) 0)), (I6 (IntKind.wrap IntKind.i64 (List.getD b (Int.toNat ((↑p : Int) + (↑i : Int))) 0))), (I6 (IntKind.wrap IntKind.i64 (256 * be (List.take i (List.drop p b)) + IntKind.wrap IntKind.i64 (List.getD b (Int.toNat ((↑p : Int) + (↑i : Int))) 0))))] ++ UU 35, [⟨bods pre, 1, .grown⟩]⟩ (by kernel_rfl) (tt 3) ?_
      rw [IntWalk.i64_in (List.getD b (Int.toNat ((↑p : Int) + (↑i : Int))) 0) (by omega)]
      rw [IntWalk.i64_in (256 * be (List.take i (List.drop p b)) + List.getD b (Int.toNat ((↑p : Int) + (↑i : Int))) 0) (by omega)]
      refine KL ([16] ++ NN 19 10) ⟨[.sl (u8s b) (List.length b) .any, U6, .sl [] 0 .nil, (I6 0), .row 0 0 (List.length pre), (I6 (↑p : Int)), (I6 (256 * be (List.take i (List.drop p b)) + List.getD b (Int.toNat ((↑p : Int) + (↑i : Int))) 0)), (I6 (↑i : Int))] ++ UU 56, [⟨bods pre, 1, .grown⟩]⟩ ?_
      refine AWP.reg ?_
      refine DerQ.run (TT 3) ⟨[.sl (u8s b) (List.length b) .any, U6, .sl [] 0 .nil, (I6 0), .row 0 0 (List.length pre), (I6 (↑p : Int)), (I6 (256 * be (List.take i (List.drop p b)) + List.getD b (Int.toNat ((↑p : Int) + (↑i : Int))) 0)), (I6 (IntKind.wrap IntKind.i64 ((↑i : Int) + 1)))] ++ UU 9 ++ [(I6 (↑i : Int)), (I6 (IntKind.wrap IntKind.i64 ((↑i : Int) + 1)))] ++ UU 45, [⟨bods pre, 1, .grown⟩]⟩ (by kernel_rfl) (tt 3) ?_
      rw [IntWalk.i64_in ((↑i : Int) + 1) (by omega)]
      (rw [be_round2 b p i (by omega) (by omega)]; exact ⟨_, by omega, i + 1, rfl, by omega, by kernel_rfl⟩; done)
    · have h2' := of_decide_eq_false h2
      refine AWP.exit ?_
      refine AWP.seq (SQ (PT 3 3 ?_))
      refine DerQ.to ⟨[.sl (u8s b) (List.length b) .any, U6, .sl [] 0 .nil, (I6 0), .row 0 0 (List.length pre), (I6 (↑p : Int)), (I6 (be (List.take i (List.drop p b)))), (I6 (↑i : Int))] ++ UU 8 ++ [(B6 (decide ((↑i : Int) < 4)))] ++ UU 12 ++ [(I6 (be (List.take i (List.drop p b)))), (B6 (decide (be (List.take i (List.drop p b)) > 60000))), (B6 (decide (be (List.take i (List.drop p b)) > 60000)))] ++ UU 32, [⟨bods pre, 1, .grown⟩]⟩ (by kernel_rfl) ?_
      cases h3 : (decide (be (List.take i (List.drop p b)) > 60000))
      · have h3' := of_decide_eq_false h3
        refine DerQ.run (TT 8) ⟨[.sl (u8s b) (List.length b) .any, U6, .sl [] 0 .nil, (I6 0), .row 0 0 (List.length pre), (I6 (↑p : Int)), (I6 (be (List.take i (List.drop p b)))), (I6 (↑i : Int))] ++ UU 8 ++ [(B6 (decide ((↑i : Int) < 4)))] ++ UU 12 ++ [(I6 (be (List.take i (List.drop p b)))), (B6 false), (B6 false), (I6 (be (List.take i (List.drop p b)))), .sl (u8s b) (List.length b) .any, (I6 (↑(List.length b) : Int)), (I6 (↑p : Int)), (I6 (IntKind.wrap IntKind.i64 ((↑(List.length b) : Int) - (↑p : Int)))), (I6 (IntKind.wrap IntKind.i64 (IntKind.wrap IntKind.i64 ((↑(List.length b) : Int) - (↑p : Int)) - 8))), (B6 (decide (be (List.take i (List.drop p b)) > IntKind.wrap IntKind.i64 (IntKind.wrap IntKind.i64 ((↑(List.length b) : Int) - (↑p : Int)) - 8)))), (B6 (decide (be (List.take i (List.drop p b)) > IntKind.wrap IntKind.i64 (IntKind.wrap IntKind.i64 ((↑(List.length b) : Int) - (↑p : Int)) - 8))))] ++ UU 24, [⟨bods pre, 1, .grown⟩]⟩ (by kernel_rfl) (tt 8) ?_
        rw [IntWalk.i64_in ((↑(List.length b) : Int) - (↑p : Int)) (by omega)]
        rw [IntWalk.i64_in ((↑(List.length b) : Int) - (↑p : Int) - 8) (by omega)]
        refine KL ([7, 16] ++ NN 29 10) ⟨[.sl (u8s b) (List.length b) .any, U6, .sl [] 0 .nil, (I6 0), .row 0 0 (List.length pre), (I6 (↑p : Int)), (I6 (be (List.take i (List.drop p b))))] ++ UU 32 ++ [(B6 (decide (be (List.take i (List.drop p b)) > (↑(List.length b) : Int) - (↑p : Int) - 8)))] ++ UU 24, [⟨bods pre, 1, .grown⟩]⟩ ?_
        refine CN (decide (be (List.take i (List.drop p b)) > (↑(List.length b) : Int) - (↑p : Int) - 8)) (fun h4 => ?_) (fun h4 => ?_)
        · have h4' := of_decide_eq_true h4
          refine AWP.exit ?_
          refine SQ (RT 4 ?_)
          refine AWP.ret ?_
          refine FI (.tup [.row 0 0 (List.length pre), (I6 (↑p : Int))]) ?_
          refine Shrink.dataK [0] ((dataAll (bods pre) = true) ∧ (True)) (.tup [.sl (List.take (List.length pre * 1) (List.drop 0 (bods pre))) (List.length pre) .any, (I6 (↑p : Int))]) (by kernel_rfl) ⟨(by (exact bods_data _)), trivial⟩ ?_ rfl
          ((have hi2 : i = 4 := by omega); subst hi2; exact r_fin (scan_fin hr hp hk (bodyP_big _ (by rw [List.length_drop]; omega) (by rw [List.length_drop]; omega))) he; done)
        · have h4' := of_decide_eq_false h4
          refine AWP.skip (SQ ?_)
          refine DerQ.pre 8 (True ∧ True ∧ True ∧ True ∧ True ∧ True ∧ True ∧ (((0 ≤ IntKind.wrap IntKind.i64 ((↑p : Int) + 4)) ∧ ((IntKind.wrap IntKind.i64 ((↑p : Int) + 4) ≤ IntKind.wrap IntKind.i64 (IntKind.wrap IntKind.i64 ((↑p : Int) + 8) + be (List.take i (List.drop p b)))) ∧ ((IntKind.wrap IntKind.i64 (IntKind.wrap IntKind.i64 ((↑p : Int) + 8) + be (List.take i (List.drop p b))) ≤ (↑(List.length b) : Int)) ∧ ((↑(List.length b) : Int) ≤ (↑(List.length b) : Int))))) ∧ (Int.toNat (IntKind.wrap IntKind.i64 (IntKind.wrap IntKind.i64 ((↑p : Int) + 8) + be (List.take i (List.drop p b)))) * 1 ≤ List.length (u8s b))) ∧ True) ⟨[.sl (u8s b) (List.length b) .any, U6, .sl [] 0 .nil, (I6 0), .row 0 0 (List.length pre), (I6 (↑p : Int)), (I6 (be (List.take i (List.drop p b))))] ++ UU 32 ++ [(B6 (decide (be (List.take i (List.drop p b)) > (↑(List.length b) : Int) - (↑p : Int) - 8))), U6, .sl (u8s b) (List.length b) .any, (I6 (↑p : Int)), (I6 (IntKind.wrap IntKind.i64 ((↑p : Int) + 4))), (I6 (↑p : Int)), (I6 (IntKind.wrap IntKind.i64 ((↑p : Int) + 8))), (I6 (be (List.take i (List.drop p b)))), (I6 (IntKind.wrap IntKind.i64 (IntKind.wrap IntKind.i64 ((↑p : Int) + 8) + be (List.take i (List.drop p b))))), .sl (List.take ((Int.toNat (IntKind.wrap IntKind.i64 (IntKind.wrap IntKind.i64 ((↑p : Int) + 8) + be (List.take i (List.drop p b)))) - Int.toNat (IntKind.wrap IntKind.i64 ((↑p : Int) + 4))) * 1) (List.drop (Int.toNat (IntKind.wrap IntKind.i64 ((↑p : Int) + 4)) * 1) (u8s b))) (Int.toNat (IntKind.wrap IntKind.i64 (IntKind.wrap IntKind.i64 ((↑p : Int) + 8) + be (List.take i (List.drop p b)))) - Int.toNat (IntKind.wrap IntKind.i64 ((↑p : Int) + 4))) .any] ++ UU 15, [⟨bods pre, 1, .grown⟩]⟩ (by kernel_rfl) ⟨trivial, trivial, trivial, trivial, trivial, trivial, trivial, ⟨⟨(by (rw [IntWalk.i64_in _ (by omega)]; omega)), ⟨(by ((try rw [IntWalk.i64_in ((p : Int) + 4) (by omega)]); (try rw [IntWalk.i64_in ((p : Int) + 8) (by omega)]); (try rw [IntWalk.i64_in ((p : Int) + 8 + be (List.take i (List.drop p b))) (by omega)]); omega)), ⟨(by ((try rw [IntWalk.i64_in ((p : Int) + 4) (by omega)]); (try rw [IntWalk.i64_in ((p : Int) + 8) (by omega)]); (try rw [IntWalk.i64_in ((p : Int) + 8 + be (List.take i (List.drop p b))) (by omega)]); omega)), (by omega)⟩⟩⟩, (by ((try rw [IntWalk.i64_in ((p : Int) + 4) (by omega)]); (try rw [IntWalk.i64_in ((p : Int) + 8) (by omega)]); (try rw [IntWalk.i64_in ((p : Int) + 8 + be (List.take i (List.drop p b))) (by omega)]); rw [u8s_length]; omega))⟩, trivial⟩ ?_
          rw [IntWalk.i64_in ((↑p : Int) + 4) (by omega)]
          rw [IntWalk.i64_in ((↑p : Int) + 8) (by omega)]
          rw [IntWalk.i64_in ((↑p : Int) + 8 + be (List.take i (List.drop p b))) (by omega)]
          rw [Nat.mul_one (Int.toNat ((↑p : Int) + 8 + be (List.take i (List.drop p b))) - Int.toNat ((↑p : Int) + 4))]
          rw [Nat.mul_one (Int.toNat ((↑p : Int) + 4))]
          rw [Go.Abs.u8s_drop (Int.toNat ((↑p : Int) + 4)) (b)]
          rw [Go.Abs.u8s_take (Int.toNat ((↑p : Int) + 8 + be (List.take i (List.drop p b))) - Int.toNat ((↑p : Int) + 4)) (List.drop (Int.toNat ((↑p : Int) + 4)) b)]
          refine DerQ.callD (r_openV (List.take (Int.toNat ((↑p : Int) + 8 + be (List.take i (List.drop p b))) - Int.toNat ((↑p : Int) + 4)) (List.drop (Int.toNat ((↑p : Int) + 4)) b)) (Int.toNat ((↑p : Int) + 8 + be (List.take i (List.drop p b))) - Int.toNat ((↑p : Int) + 4)) (by (simp [spliceA_length] <;> omega)) (by (simp [spliceA_length] <;> omega)) (by (repeat (first | assumption | apply Bts.take | apply Bts.drop | apply Bts.append)))) ⟨[.sl (u8s b) (List.length b) .any, U6, .sl [] 0 .nil, (I6 0), .row 0 0 (List.length pre), (I6 (↑p : Int)), (I6 (be (List.take i (List.drop p b))))] ++ UU 32 ++ [(B6 (decide (be (List.take i (List.drop p b)) > (↑(List.length b) : Int) - (↑p : Int) - 8))), U6, .sl (u8s b) (List.length b) .any, (I6 (↑p : Int)), (I6 ((↑p : Int) + 4)), (I6 (↑p : Int)), (I6 ((↑p : Int) + 8)), (I6 (be (List.take i (List.drop p b)))), (I6 ((↑p : Int) + 8 + be (List.take i (List.drop p b)))), .sl (u8s (List.take (Int.toNat ((↑p : Int) + 8 + be (List.take i (List.drop p b))) - Int.toNat ((↑p : Int) + 4)) (List.drop (Int.toNat ((↑p : Int) + 4)) b))) (Int.toNat ((↑p : Int) + 8 + be (List.take i (List.drop p b))) - Int.toNat ((↑p : Int) + 4)) .any, .tup [.sl (u8s (oV (opn (List.take (Int.toNat ((↑p : Int) + 8 + be (List.take i (List.drop p b))) - Int.toNat ((↑p : Int) + 4)) (List.drop (Int.toNat ((↑p : Int) + 4)) b))))) (List.length (oV (opn (List.take (Int.toNat ((↑p : Int) + 8 + be (List.take i (List.drop p b))) - Int.toNat ((↑p : Int) + 4)) (List.drop (Int.toNat ((↑p : Int) + 4)) b))))) .any, (B6 (Option.isSome (opn (List.take (Int.toNat ((↑p : Int) + 8 + be (List.take i (List.drop p b))) - Int.toNat ((↑p : Int) + 4)) (List.drop (Int.toNat ((↑p : Int) + 4)) b)))))]] ++ UU 14, [⟨bods pre, 1, .grown⟩]⟩ ⟨by kernel_rfl, by kernel_rfl, by kernel_rfl⟩ ?_
          refine DerQ.run (TT 5) ⟨[.sl (u8s b) (List.length b) .any, U6, .sl [] 0 .nil, (I6 0), .row 0 0 (List.length pre), (I6 (↑p : Int)), (I6 (be (List.take i (List.drop p b)))), U6, .sl (u8s (oV (opn (List.take (Int.toNat ((↑p : Int) + 8 + be (List.take i (List.drop p b))) - Int.toNat ((↑p : Int) + 4)) (List.drop (Int.toNat ((↑p : Int) + 4)) b))))) (List.length (oV (opn (List.take (Int.toNat ((↑p : Int) + 8 + be (List.take i (List.drop p b))) - Int.toNat ((↑p : Int) + 4)) (List.drop (Int.toNat ((↑p : Int) + 4)) b))))) .any, (B6 (Option.isSome (opn (List.take (Int.toNat ((↑p : Int) + 8 + be (List.take i (List.drop p b))) - Int.toNat ((↑p : Int) + 4)) (List.drop (Int.toNat ((↑p : Int) + 4)) b)))))] ++ UU 29 ++ [(B6 (decide (be (List.take i (List.drop p b)) > (↑(List.length b) : Int) - (↑p : Int) - 8))), .tup [.sl (u8s (oV (opn (List.take (Int.toNat ((↑p : Int) + 8 + be (List.take i (List.drop p b))) - Int.toNat ((↑p : Int) + 4)) (List.drop (Int.toNat ((↑p : Int) + 4)) b))))) (List.length (oV (opn (List.take (Int.toNat ((↑p : Int) + 8 + be (List.take i (List.drop p b))) - Int.toNat ((↑p : Int) + 4)) (List.drop (Int.toNat ((↑p : Int) + 4)) b))))) .any, (B6 (Option.isSome (opn (List.take (Int.toNat ((↑p : Int) + 8 + be (List.take i (List.drop p b))) - Int.toNat ((↑p : Int) + 4)) (List.drop (Int.toNat ((↑p : Int) + 4)) b)))))], .sl (u8s b) (List.length b) .any, (I6 (↑p : Int)), (I6 ((↑p : Int) + 4)), (I6 (↑p : Int)), (I6 ((↑p : Int) + 8)), (I6 (be (List.take i (List.drop p b)))), (I6 ((↑p : Int) + 8 + be (List.take i (List.drop p b)))), .sl (u8s (List.take (Int.toNat ((↑p : Int) + 8 + be (List.take i (List.drop p b))) - Int.toNat ((↑p : Int) + 4)) (List.drop (Int.toNat ((↑p : Int) + 4)) b))) (Int.toNat ((↑p : Int) + 8 + be (List.take i (List.drop p b))) - Int.toNat ((↑p : Int) + 4)) .any, .tup [.sl (u8s (oV (opn (List.take (Int.toNat ((↑p : Int) + 8 + be (List.take i (List.drop p b))) - Int.toNat ((↑p : Int) + 4)) (List.drop (Int.toNat ((↑p : Int) + 4)) b))))) (List.length (oV (opn (List.take (Int.toNat ((↑p : Int) + 8 + be (List.take i (List.drop p b))) - Int.toNat ((↑p : Int) + 4)) (List.drop (Int.toNat ((↑p : Int) + 4)) b))))) .any, (B6 (Option.isSome (opn (List.take (Int.toNat ((↑p : Int) + 8 + be (List.take i (List.drop p b))) - Int.toNat ((↑p : Int) + 4)) (List.drop (Int.toNat ((↑p : Int) + 4)) b)))))], .sl (u8s (oV (opn (List.take (Int.toNat ((↑p : Int) + 8 + be (List.take i (List.drop p b))) - Int.toNat ((↑p : Int) + 4)) (List.drop (Int.toNat ((↑p : Int) + 4)) b))))) (List.length (oV (opn (List.take (Int.toNat ((↑p : Int) + 8 + be (List.take i (List.drop p b))) - Int.toNat ((↑p : Int) + 4)) (List.drop (Int.toNat ((↑p : Int) + 4)) b))))) .any, (B6 (Option.isSome (opn (List.take (Int.toNat ((↑p : Int) + 8 + be (List.take i (List.drop p b))) - Int.toNat ((↑p : Int) + 4)) (List.drop (Int.toNat ((↑p : Int) + 4)) b)))))] ++ UU 12, [⟨bods pre, 1, .grown⟩]⟩ (by kernel_rfl) (tt 5) ?_
          refine AWP.seq (AWP.seq (KL (NN 39 13) ⟨[.sl (u8s b) (List.length b) .any, U6, .sl [] 0 .nil, (I6 0), .row 0 0 (List.length pre), (I6 (↑p : Int)), (I6 (be (List.take i (List.drop p b)))), U6, .sl (u8s (oV (opn (List.take (Int.toNat ((↑p : Int) + 8 + be (List.take i (List.drop p b))) - Int.toNat ((↑p : Int) + 4)) (List.drop (Int.toNat ((↑p : Int) + 4)) b))))) (List.length (oV (opn (List.take (Int.toNat ((↑p : Int) + 8 + be (List.take i (List.drop p b))) - Int.toNat ((↑p : Int) + 4)) (List.drop (Int.toNat ((↑p : Int) + 4)) b))))) .any, (B6 (Option.isSome (opn (List.take (Int.toNat ((↑p : Int) + 8 + be (List.take i (List.drop p b))) - Int.toNat ((↑p : Int) + 4)) (List.drop (Int.toNat ((↑p : Int) + 4)) b)))))] ++ UU 54, [⟨bods pre, 1, .grown⟩]⟩ ?_))
          refine AWP.reg ?_
          refine DerQ.run (TT 2) ⟨[.sl (u8s b) (List.length b) .any, U6, .sl [] 0 .nil, (I6 0), .row 0 0 (List.length pre), (I6 (↑p : Int)), (I6 (be (List.take i (List.drop p b)))), U6, .sl (u8s (oV (opn (List.take (Int.toNat ((↑p : Int) + 8 + be (List.take i (List.drop p b))) - Int.toNat ((↑p : Int) + 4)) (List.drop (Int.toNat ((↑p : Int) + 4)) b))))) (List.length (oV (opn (List.take (Int.toNat ((↑p : Int) + 8 + be (List.take i (List.drop p b))) - Int.toNat ((↑p : Int) + 4)) (List.drop (Int.toNat ((↑p : Int) + 4)) b))))) .any, (B6 (Option.isSome (opn (List.take (Int.toNat ((↑p : Int) + 8 + be (List.take i (List.drop p b))) - Int.toNat ((↑p : Int) + 4)) (List.drop (Int.toNat ((↑p : Int) + 4)) b)))))] ++ UU 42 ++ [(B6 (Option.isSome (opn (List.take (Int.toNat ((↑p : Int) + 8 + be (List.take i (List.drop p b))) - Int.toNat ((↑p : Int) + 4)) (List.drop (Int.toNat ((↑p : Int) + 4)) b))))), (B6 (!Option.isSome (opn (List.take (Int.toNat ((↑p : Int) + 8 + be (List.take i (List.drop p b))) - Int.toNat ((↑p : Int) + 4)) (List.drop (Int.toNat ((↑p : Int) + 4)) b)))))] ++ UU 10, [⟨bods pre, 1, .grown⟩]⟩ (by kernel_rfl) (tt 2) ?_
          refine CN (!Option.isSome (opn (List.take (Int.toNat ((↑p : Int) + 8 + be (List.take i (List.drop p b))) - Int.toNat ((↑p : Int) + 4)) (List.drop (Int.toNat ((↑p : Int) + 4)) b)))) (fun h5 => ?_) (fun h5 => ?_)
          · have h5' := h5
            simp only [Bool.and_eq_true, Bool.and_eq_false_iff, Bool.or_eq_true, Bool.or_eq_false_iff, Bool.not_eq_true', Bool.not_eq_false', beq_iff_eq, beq_eq_false_iff_ne, decide_eq_true_eq, decide_eq_false_iff_not, ne_eq] at h5'
            refine AWP.exit ?_
            refine AWP.seq (KL [0, 6, 8, 9, 52, 53] ⟨[U6, U6, .sl [] 0 .nil, (I6 0), .row 0 0 (List.length pre), (I6 (↑p : Int))] ++ UU 58, [⟨bods pre, 1, .grown⟩]⟩ ?_)
            refine AWP.reg (RT 4 ?_)
            refine AWP.ret ?_
            refine FI (.tup [.row 0 0 (List.length pre), (I6 (↑p : Int))]) ?_
            refine Shrink.dataK [0] ((dataAll (bods pre) = true) ∧ (True)) (.tup [.sl (List.take (List.length pre * 1) (List.drop 0 (bods pre))) (List.length pre) .any, (I6 (↑p : Int))]) (by kernel_rfl) ⟨(by (exact bods_data _)), trivial⟩ ?_ rfl
            ((have hi2 : i = 4 := by omega); subst hi2; exact r_fin (scan_fin hr hp hk (by rw [body_at hb (by omega) (by omega) (by omega)]; simp_all)) he; done)
          · have h5' := h5
            simp only [Bool.and_eq_true, Bool.and_eq_false_iff, Bool.or_eq_true, Bool.or_eq_false_iff, Bool.not_eq_true', Bool.not_eq_false', beq_iff_eq, beq_eq_false_iff_ne, decide_eq_true_eq, decide_eq_false_iff_not, ne_eq] at h5'
            refine AWP.skip (SQ ?_)
            refine DerQ.run (True ∧ True ∧ True ∧ (((1 : Nat) = (1 : Nat)) ∧ (((1 : Nat) = (1 : Nat)) ∧ ((List.length pre * 1 = List.length (bods pre)) ∧ ((List.length pre + 1 ≤ 1073741824) ∧ ((dataAll (bods pre ++ [AVal.sl (u8s (oV (opn (List.take (Int.toNat ((↑p : Int) + 8 + be (List.take i (List.drop p b))) - Int.toNat ((↑p : Int) + 4)) (List.drop (Int.toNat ((↑p : Int) + 4)) b))))) (List.length (oV (opn (List.take (Int.toNat ((↑p : Int) + 8 + be (List.take i (List.drop p b))) - Int.toNat ((↑p : Int) + 4)) (List.drop (Int.toNat ((↑p : Int) + 4)) b))))) SlK.any]) = true) ∧ (∀ (i_1 : Nat), i_1 < 1 → AVal.one (List.getD [AVal.sl (u8s (oV (opn (List.take (Int.toNat ((↑p : Int) + 8 + be (List.take i (List.drop p b))) - Int.toNat ((↑p : Int) + 4)) (List.drop (Int.toNat ((↑p : Int) + 4)) b))))) (List.length (oV (opn (List.take (Int.toNat ((↑p : Int) + 8 + be (List.take i (List.drop p b))) - Int.toNat ((↑p : Int) + 4)) (List.drop (Int.toNat ((↑p : Int) + 4)) b))))) SlK.any] i_1 AVal.undef) = true)))))) ∧ True ∧ True) ⟨[.sl (u8s b) (List.length b) .any, U6, .sl [] 0 .nil, (I6 0), .row 0 0 (List.length pre + 1), (I6 (↑p : Int)), (I6 (be (List.take i (List.drop p b)))), U6, .sl (u8s (oV (opn (List.take (Int.toNat ((↑p : Int) + 8 + be (List.take i (List.drop p b))) - Int.toNat ((↑p : Int) + 4)) (List.drop (Int.toNat ((↑p : Int) + 4)) b))))) (List.length (oV (opn (List.take (Int.toNat ((↑p : Int) + 8 + be (List.take i (List.drop p b))) - Int.toNat ((↑p : Int) + 4)) (List.drop (Int.toNat ((↑p : Int) + 4)) b))))) .any, (B6 (Option.isSome (opn (List.take (Int.toNat ((↑p : Int) + 8 + be (List.take i (List.drop p b))) - Int.toNat ((↑p : Int) + 4)) (List.drop (Int.toNat ((↑p : Int) + 4)) b)))))] ++ UU 42 ++ [(B6 (Option.isSome (opn (List.take (Int.toNat ((↑p : Int) + 8 + be (List.take i (List.drop p b))) - Int.toNat ((↑p : Int) + 4)) (List.drop (Int.toNat ((↑p : Int) + 4)) b))))), (B6 (!Option.isSome (opn (List.take (Int.toNat ((↑p : Int) + 8 + be (List.take i (List.drop p b))) - Int.toNat ((↑p : Int) + 4)) (List.drop (Int.toNat ((↑p : Int) + 4)) b))))), .row 0 0 (List.length pre), .sl (u8s (oV (opn (List.take (Int.toNat ((↑p : Int) + 8 + be (List.take i (List.drop p b))) - Int.toNat ((↑p : Int) + 4)) (List.drop (Int.toNat ((↑p : Int) + 4)) b))))) (List.length (oV (opn (List.take (Int.toNat ((↑p : Int) + 8 + be (List.take i (List.drop p b))) - Int.toNat ((↑p : Int) + 4)) (List.drop (Int.toNat ((↑p : Int) + 4)) b))))) .any, .sl [.sl (u8s (oV (opn (List.take (Int.toNat ((↑p : Int) + 8 + be (List.take i (List.drop p b))) - Int.toNat ((↑p : Int) + 4)) (List.drop (Int.toNat ((↑p : Int) + 4)) b))))) (List.length (oV (opn (List.take (Int.toNat ((↑p : Int) + 8 + be (List.take i (List.drop p b))) - Int.toNat ((↑p : Int) + 4)) (List.drop (Int.toNat ((↑p : Int) + 4)) b))))) .any] 1 .nn, .row 0 0 (List.length pre + 1)] ++ UU 6, [⟨bods pre ++ [AVal.sl (u8s (oV (opn (List.take (Int.toNat ((↑p : Int) + 8 + be (List.take i (List.drop p b))) - Int.toNat ((↑p : Int) + 4)) (List.drop (Int.toNat ((↑p : Int) + 4)) b))))) (List.length (oV (opn (List.take (Int.toNat ((↑p : Int) + 8 + be (List.take i (List.drop p b))) - Int.toNat ((↑p : Int) + 4)) (List.drop (Int.toNat ((↑p : Int) + 4)) b))))) SlK.any], 1, .grown⟩]⟩ (by kernel_rfl) ⟨trivial, trivial, trivial, ⟨(by omega), ⟨(by omega), ⟨(by (rw [bods_length, Nat.mul_one])), ⟨(by ((have hpl := pre_len hr); omega)), ⟨(by (rw [bods_snoc2 _ 0]; exact bods_data _)), (by (exact one_sl _ _ _))⟩⟩⟩⟩⟩, trivial, trivial⟩ ?_
            refine KL ([8, 9] ++ NN 52 6) ⟨[.sl (u8s b) (List.length b) .any, U6, .sl [] 0 .nil, (I6 0), .row 0 0 (List.length pre + 1), (I6 (↑p : Int)), (I6 (be (List.take i (List.drop p b))))] ++ UU 57, [⟨bods pre ++ [AVal.sl (u8s (oV (opn (List.take (Int.toNat ((↑p : Int) + 8 + be (List.take i (List.drop p b))) - Int.toNat ((↑p : Int) + 4)) (List.drop (Int.toNat ((↑p : Int) + 4)) b))))) (List.length (oV (opn (List.take (Int.toNat ((↑p : Int) + 8 + be (List.take i (List.drop p b))) - Int.toNat ((↑p : Int) + 4)) (List.drop (Int.toNat ((↑p : Int) + 4)) b))))) SlK.any], 1, .grown⟩]⟩ ?_
            refine AWP.reg ?_
            refine DerQ.run (TT 5) ⟨[.sl (u8s b) (List.length b) .any, U6, .sl [] 0 .nil, (I6 0), .row 0 0 (List.length pre + 1), (I6 (IntKind.wrap IntKind.i64 (IntKind.wrap IntKind.i64 ((↑p : Int) + 8) + be (List.take i (List.drop p b))))), (I6 (be (List.take i (List.drop p b))))] ++ UU 51 ++ [(I6 (↑p : Int)), (I6 (IntKind.wrap IntKind.i64 ((↑p : Int) + 8))), (I6 (be (List.take i (List.drop p b)))), (I6 (IntKind.wrap IntKind.i64 (IntKind.wrap IntKind.i64 ((↑p : Int) + 8) + be (List.take i (List.drop p b))))), U6, .undef], [⟨bods pre ++ [AVal.sl (u8s (oV (opn (List.take (Int.toNat ((↑p : Int) + 8 + be (List.take i (List.drop p b))) - Int.toNat ((↑p : Int) + 4)) (List.drop (Int.toNat ((↑p : Int) + 4)) b))))) (List.length (oV (opn (List.take (Int.toNat ((↑p : Int) + 8 + be (List.take i (List.drop p b))) - Int.toNat ((↑p : Int) + 4)) (List.drop (Int.toNat ((↑p : Int) + 4)) b))))) SlK.any], 1, .grown⟩]⟩ (by kernel_rfl) (tt 5) ?_
            rw [IntWalk.i64_in ((↑p : Int) + 8) (by omega)]
            ((have hi2 : i = 4 := by omega); subst hi2; obtain ⟨q, y, q0, q1, q2, q3, q4, q5⟩ := rs_round hb hr hp hk (by omega) (by omega) (by omega) (by simp_all); rw [q0, IntWalk.i64_in ((p : Int) + 8 + be (List.take 4 (List.drop p b))) (by omega), q5, bods_snoc2 pre q y, snoc_len pre q y]; exact ⟨_, by omega, pre ++ [(q, y)], q, kk - 1, rfl, q1, q2, q3, q4, by kernel_rfl⟩; done)
      · have h3' := of_decide_eq_true h3
        refine RT 1 ?_
        refine KL ([7, 16] ++ NN 29 10) ⟨[.sl (u8s b) (List.length b) .any, U6, .sl [] 0 .nil, (I6 0), .row 0 0 (List.length pre), (I6 (↑p : Int)), (I6 (be (List.take i (List.drop p b))))] ++ UU 32 ++ [(B6 true)] ++ UU 24, [⟨bods pre, 1, .grown⟩]⟩ ?_
        refine CN true (fun _ => ?_) (fun h => nomatch h)
        refine AWP.exit ?_
        refine SQ (RT 4 ?_)
        refine AWP.ret ?_
        refine FI (.tup [.row 0 0 (List.length pre), (I6 (↑p : Int))]) ?_
        refine Shrink.dataK [0] ((dataAll (bods pre) = true) ∧ (True)) (.tup [.sl (List.take (List.length pre * 1) (List.drop 0 (bods pre))) (List.length pre) .any, (I6 (↑p : Int))]) (by kernel_rfl) ⟨(by (exact bods_data _)), trivial⟩ ?_ rfl
        ((have hi2 : i = 4 := by omega); subst hi2; exact r_fin (scan_fin hr hp hk (bodyP_big _ (by rw [List.length_drop]; omega) (by rw [List.length_drop]; omega))) he; done)
  · have h1' := of_decide_eq_false h1
    refine AWP.exit ?_
    refine SQ (RT 4 ?_)
    refine AWP.ret ?_
    refine FI (.tup [.row 0 0 (List.length pre), (I6 (↑p : Int))]) ?_
    refine Shrink.dataK [0] ((dataAll (bods pre) = true) ∧ (True)) (.tup [.sl (List.take (List.length pre * 1) (List.drop 0 (bods pre))) (List.length pre) .any, (I6 (↑p : Int))]) (by kernel_rfl) ⟨(by (exact bods_data _)), trivial⟩ ?_ rfl
    (exact r_fin (scan_fin hr hp hk (bodyP_short _ (by rw [List.length_drop]; omega))) he; done)
end Go.Rec
