/- Walks and laws. -/
import Derived.Test.YtikllaiggklljaaDk0
import Derived.Test.YtikllaiggklljaaLibC
set_option maxRecDepth 100000
set_option maxHeartbeats 0
set_option linter.unusedSimpArgs false
set_option linter.unusedVariables false
namespace Go.Dk
open Go Go.Abs Go.Proofs
theorem toNat_prev (i : Nat) (h : 0 < i) : Int.toNat ((↑i : Int) - 1) = i - 1 := by omega
theorem named (s : ByteArray) : EvD Try.prog 73 [.sc (.string s)] (.sc (.bool (decide (namedP s)))) := by
  refine EvD.body Try.func73 rfl (by simp [dataAll, AVal.data, *]) (by simp [dataAll, AVal.data, *]) ?_
  refine AWP.seq ?_
  refine TO ⟨[(S6 s)] ++ UU 9, []⟩ ?_
  refine AWP.reg (RT 1 ?_)
  refine AWP.seq ?_
  refine TO ⟨[(S6 s), U6, (B6 false)] ++ UU 7, []⟩ ?_
  refine AWP.reg ?_
  refine DerQ.pre 3 (TT 3) ⟨[(S6 s), U6, (B6 false), (S6 s), (B6 (!ByteArray.toList s == ByteArray.toList { data := #[] })), (B6 (!ByteArray.toList s == ByteArray.toList { data := #[] })), U6, U6, U6, .undef], []⟩ (by kernel_rfl) (tt 3) ?_
  rw [Go.Abs.nil_beq (s)]
  rw [Go.Abs.nn_size (s)]
  cases h1 : (decide ¬ByteArray.size s = 0)
  · have h1' := of_decide_eq_false h1
    refine RT 2 ?_
    refine AWP.ret ?_
    refine FI (B6 false) ?_
    refine Shrink.all ?_ rfl
    ((first | refine congrArg B6 ?_ | refine congrArg I6 ?_ | congr 2); rw [Bool.eq_iff_iff]; simp [namedP, *] <;> omega; done)
  · have h1' := of_decide_eq_true h1
    refine RT 5 ?_
    refine AWP.ret ?_
    refine FI (B6 (decide ((↑(ByteArray.size s) : Int) ≤ 16))) ?_
    refine Shrink.all ?_ rfl
    ((first | refine congrArg B6 ?_ | refine congrArg I6 ?_ | congr 2); rw [Bool.eq_iff_iff]; simp [namedP, *] <;> omega; done)
theorem isnan (s : ByteArray) : EvD Try.prog 98 [.sc (.string s)] (.sc (.bool false)) := by
  refine EvD.body Try.func98 rfl (by simp [dataAll, AVal.data, *]) (by simp [dataAll, AVal.data, *]) ?_
  refine AWP.seq ?_
  refine TO ⟨[(S6 s)] ++ UU 5, []⟩ ?_
  refine AWP.reg (RT 1 ?_)
  refine AWP.seq ?_
  refine TO ⟨[(S6 s), U6, (B6 false), U6, U6, .undef], []⟩ ?_
  refine AWP.reg ?_
  refine DerQ.run (TT 4) ⟨[(S6 s), U6, (B6 (!ByteArray.toList s == ByteArray.toList s)), (S6 s), (S6 s), (B6 (!ByteArray.toList s == ByteArray.toList s))], []⟩ (by kernel_rfl) (tt 4) ?_
  rw [Go.Abs.str_beq (s) (s)]
  refine KL [0, 3, 4, 5] ⟨[U6, U6, (B6 (!decide (s = s))), U6, U6, .undef], []⟩ ?_
  refine AWP.ret ?_
  refine FI (B6 (!decide (s = s))) ?_
  refine Shrink.all ?_ rfl
  (simp only [AVal.anyA, anyAll, List.drop_zero, Nat.mul_one, u8s_append, u8s_take, u8s_drop]; rfl)
theorem gt_of {a b : ByteArray} (h : (!(decide (ltB a b) || decide (a = b))) = true) : ltB b a := by
  refine ltB_tri fun e => ?_
  rcases e with e | e <;> simp [e] at h
theorem no_gt {a b : ByteArray} (h1 : ¬ ltB a b) (h : (!(decide (ltB a b) || decide (a = b))) = false) : ¬ ltB b a := by
  have : a = b := by simpa [h1] using h
  subst this; exact ltB_irr a
theorem nle {a b : ByteArray} (h : ¬ ltB a b ∧ ¬ a = b) : ¬ leB a b := fun e => e.elim h.1 h.2
def cmpB (a b : ByteArray) : Int := if ltB a b then -1 else if ltB b a then 1 else 0
theorem compare (a b : ByteArray) : EvD Try.prog 90 [.sc (.string a), .sc (.string b)] (.sc (.int .i64 (cmpB a b))) := by
  unfold cmpB
  refine EvD.body Try.func90 rfl (by simp [dataAll, AVal.data, *]) (by simp [dataAll, AVal.data, *]) ?_
  refine AWP.seq ?_
  refine TO ⟨[(S6 a), (S6 b)] ++ UU 18, []⟩ ?_
  refine AWP.reg (RT 1 ?_)
  refine AWP.seq ?_
  refine TO ⟨[(S6 a), (S6 b), U6, U6, (I6 0)] ++ UU 15, []⟩ ?_
  refine AWP.reg (PT 1 1 ?_)
  refine CD (isnan a) ?_
  refine RT 1 ?_
  refine AWP.seq (KL [7, 8] ⟨[(S6 a), (S6 b), U6, U6, (I6 0), (B6 false)] ++ UU 14, []⟩ ?_)
  refine AWP.reg (PT 1 1 ?_)
  refine CD (isnan b) ?_
  refine RT 1 ?_
  refine AWP.seq (AWP.seq (KL [9, 10] ⟨[(S6 a), (S6 b), U6, U6, (I6 0), (B6 false), (B6 false)] ++ UU 13, []⟩ ?_))
  refine AWP.reg (RT 1 ?_)
  refine KL [5] ⟨[(S6 a), (S6 b), U6, U6, (I6 0), U6, (B6 false), U6, U6, U6, U6, (B6 false)] ++ UU 8, []⟩ ?_
  refine CN false (fun h => nomatch h) (fun _ => ?_)
  refine AWP.skip (AWP.seq (SQ (RT 1 ?_)))
  refine KL [6, 11] ⟨[(S6 a), (S6 b), U6, U6, (I6 0)] ++ UU 8 ++ [(B6 false)] ++ UU 6, []⟩ ?_
  refine CN false (fun h => nomatch h) (fun _ => ?_)
  refine AWP.skip (AWP.seq (SQ ?_))
  refine DerQ.run (TT 3) ⟨[(S6 a), (S6 b), U6, U6, (I6 0)] ++ UU 8 ++ [(B6 false), (S6 a), (S6 b), (B6 (Op.bytesLess (ByteArray.toList a) (ByteArray.toList b))), U6, U6, .undef], []⟩ (by kernel_rfl) (tt 3) ?_
  rw [Go.Dk.lt_dec (a) (b)]
  refine CN (decide (ltB a b)) (fun h1 => ?_) (fun h1 => ?_)
  · have h1' := of_decide_eq_true h1
    refine AWP.seq (KL [13, 14, 15, 16] ⟨[(S6 a), (S6 b), U6, U6, (I6 0)] ++ UU 15, []⟩ ?_)
    refine AWP.reg (RT 1 ?_)
    refine AWP.ret ?_
    refine FI (I6 (-1)) ?_
    refine Shrink.all ?_ rfl
    (rw [if_pos (by assumption)]; done)
  · have h1' := of_decide_eq_false h1
    refine KL [13, 14, 15, 16] ⟨[(S6 a), (S6 b), U6, U6, (I6 0)] ++ UU 15, []⟩ ?_
    refine AWP.skip (AWP.seq (SQ ?_))
    refine DerQ.run (TT 3) ⟨[(S6 a), (S6 b), U6, U6, (I6 0)] ++ UU 12 ++ [(S6 a), (S6 b), (B6 (!(Op.bytesLess (ByteArray.toList a) (ByteArray.toList b) || ByteArray.toList a == ByteArray.toList b)))], []⟩ (by kernel_rfl) (tt 3) ?_
    rw [Go.Dk.lt_dec (a) (b)]
    rw [Go.Abs.str_beq (a) (b)]
    refine KL [0, 1, 17, 18] ⟨[U6, U6, U6, U6, (I6 0)] ++ UU 14 ++ [(B6 (!(decide (ltB a b) || decide (a = b))))], []⟩ ?_
    refine CN (!(decide (ltB a b) || decide (a = b))) (fun h2 => ?_) (fun h2 => ?_)
    · have h2' := h2
      simp only [Bool.and_eq_true, Bool.and_eq_false_iff, Bool.or_eq_true, Bool.or_eq_false_iff, Bool.not_eq_true', Bool.not_eq_false', beq_iff_eq, beq_eq_false_iff_ne, decide_eq_true_eq, decide_eq_false_iff_not, ne_eq] at h2'
      refine SQ (RT 1 ?_)
      refine AWP.ret ?_
      refine FI (I6 1) ?_
      refine Shrink.all ?_ rfl
      (rw [if_neg (by assumption), if_pos (gt_of (by assumption))]; done)
    · have h2' := h2
      simp only [Bool.and_eq_true, Bool.and_eq_false_iff, Bool.or_eq_true, Bool.or_eq_false_iff, Bool.not_eq_true', Bool.not_eq_false', beq_iff_eq, beq_eq_false_iff_ne, decide_eq_true_eq, decide_eq_false_iff_not, ne_eq] at h2'
      refine AWP.skip (SQ (RT 1 ?_))
      refine AWP.ret ?_
      refine FI (I6 0) ?_
      refine Shrink.all ?_ rfl
      (rw [if_neg (by assumption), if_neg (no_gt (by assumption) (by assumption))]; done)
theorem place1 (f : FileD) (s : ByteArray) : EvD Try.prog 89 [.agg (fic f), .sc (.string s)] (.sc (.int .i64 (cmpB f.nm s))) := by
  refine EvD.body Try.func89 rfl (by simp [dataAll, AVal.data, fic]) (by simp [dataAll, AVal.data, *]) ?_
  refine AWP.seq ?_
  refine TO ⟨[.agg [(S6 f.nm), .sl (u8s f.d) (List.length f.d) .any, (I6 (f.sf))], (S6 s)] ++ UU 7, []⟩ ?_
  refine AWP.reg (RT 2 ?_)
  refine AWP.seq (KL [0] ⟨[U6, (S6 s), .ptr 0 0, U6, (I6 0), U6, U6, U6, .undef], [⟨[(S6 f.nm), .sl (u8s f.d) (List.length f.d) .any, (I6 (f.sf))], 3, .fresh⟩]⟩ ?_)
  refine AWP.reg (PI 3 (True ∧ 0 < 3 ∧ True ∧ True) ⟨trivial, (by omega), trivial, trivial⟩ ?_)
  refine CD (compare f.nm s) ?_
  refine RT 1 ?_
  refine AWP.ret FA
theorem bcloneA (xs : List Int) (hx : xs.length ≤ 100000000) : EvA Try.prog 57 [.sl (u8s xs) xs.length .any] (fun k => .row k 0 xs.length) (fun _ => [⟨u8s xs, 1, .fresh⟩]) := by
  refine EvA.split [] ?_ ?_
  · intro h h0
    have e : xs = [] := List.eq_nil_of_length_eq_zero h0
    subst e
    refine EvA.body Try.func57 rfl rfl (by intro k; simp [AVal.ren]) (by intro k; exact ren_row (dataAll_u8s _) k) ?_
    refine AWP.seq ?_
    refine TO ⟨[.sl [] 0 .nil] ++ UU 7, []⟩ ?_
    refine AWP.reg (RT 1 ?_)
    refine AWP.seq (AWP.seq ?_)
    refine TO ⟨[.sl [] 0 .nil, U6, .sl [] 0 .nil] ++ UU 5, []⟩ ?_
    refine AWP.reg (RT 2 ?_)
    refine KL [3] ⟨[.sl [] 0 .nil, U6, .sl [] 0 .nil, U6, (B6 true), U6, U6, .undef], []⟩ ?_
    refine CN true (fun _ => ?_) (fun h => nomatch h)
    refine SQ (RT 1 ?_)
    refine AWP.ret ?_
    refine FI (.sl [] 0 .nil) ?_
    (exact Shrink.virt 1 (.inl rfl); done)
  · refine EvA.body Try.func57 rfl rfl (by intro k; simp [AVal.ren]) (by intro k; exact ren_row (dataAll_u8s _) k) ?_
    refine AWP.seq ?_
    refine TO ⟨[.sl (u8s xs) (List.length xs) .nn] ++ UU 7, []⟩ ?_
    refine AWP.reg (RT 1 ?_)
    refine AWP.seq (AWP.seq ?_)
    refine TO ⟨[.sl (u8s xs) (List.length xs) .nn, U6, .sl [] 0 .nil] ++ UU 5, []⟩ ?_
    refine AWP.reg (RT 2 ?_)
    refine KL [3] ⟨[.sl (u8s xs) (List.length xs) .nn, U6, .sl [] 0 .nil, U6, (B6 false), U6, U6, .undef], []⟩ ?_
    refine CN false (fun h => nomatch h) (fun _ => ?_)
    refine AWP.skip (SQ (RI (True ∧ True ∧ ((List.length (u8s xs) = List.length xs * 1) ∧ (List.length xs ≤ 1073741824)) ∧ True ∧ True) ⟨trivial, trivial, ⟨(by simp), (by omega)⟩, trivial, trivial⟩ ?_))
    refine AWP.ret ?_
    refine FI (.row 0 0 (List.length xs)) ?_
    exact Shrink.refl _ _ _
theorem bclone (xs : List Int) (hx : xs.length ≤ 100000000) : EvD Try.prog 57 [.sl (u8s xs) xs.length .any] (.sl (u8s xs) xs.length .any) := (bcloneA xs hx).toSl (.inl rfl) rfl rfl
theorem ficlone (l : List FileD) (hx : l.length ≤ 100000) : EvA Try.prog 86 [.sl (fisc l) l.length .any] (fun k => .row k 0 l.length) (fun _ => [⟨fisc l, 3, .fresh⟩]) := by
  refine EvA.split [] ?_ ?_
  · intro h h0
    have e : l = [] := List.eq_nil_of_length_eq_zero h0
    subst e
    refine EvA.body Try.func86 rfl rfl (by intro k; simp [AVal.ren]) (by intro k; exact ren_row rfl k) ?_
    refine AWP.seq ?_
    refine TO ⟨[.sl [] 0 .nil] ++ UU 7, []⟩ ?_
    refine AWP.reg (RT 1 ?_)
    refine AWP.seq (AWP.seq ?_)
    refine TO ⟨[.sl [] 0 .nil, U6, .sl [] 0 .nil] ++ UU 5, []⟩ ?_
    refine AWP.reg (RT 2 ?_)
    refine KL [3] ⟨[.sl [] 0 .nil, U6, .sl [] 0 .nil, U6, (B6 true), U6, U6, .undef], []⟩ ?_
    refine CN true (fun _ => ?_) (fun h => nomatch h)
    refine SQ (RT 1 ?_)
    refine AWP.ret ?_
    refine FI (.sl [] 0 .nil) ?_
    (exact Shrink.virt 3 (.inl rfl); done)
  · refine EvA.body Try.func86 rfl rfl (by intro k; simp [AVal.ren]) (by intro k; exact ren_row (fisc_data _) k) ?_
    refine AWP.seq ?_
    refine TO ⟨[.sl (fisc l) (List.length l) .nn] ++ UU 7, []⟩ ?_
    refine AWP.reg (RT 1 ?_)
    refine AWP.seq (AWP.seq ?_)
    refine TO ⟨[.sl (fisc l) (List.length l) .nn, U6, .sl [] 0 .nil] ++ UU 5, []⟩ ?_
    refine AWP.reg (RT 2 ?_)
    refine KL [3] ⟨[.sl (fisc l) (List.length l) .nn, U6, .sl [] 0 .nil, U6, (B6 false), U6, U6, .undef], []⟩ ?_
    refine CN false (fun h => nomatch h) (fun _ => ?_)
    refine AWP.skip (SQ (RI (True ∧ True ∧ ((List.length (fisc l) = List.length l * 3) ∧ (List.length l ≤ 1073741824)) ∧ True ∧ True) ⟨trivial, trivial, ⟨(by simp), (by omega)⟩, trivial, trivial⟩ ?_))
    refine AWP.ret ?_
    refine FI (.row 0 0 (List.length l)) ?_
    exact Shrink.refl _ _ _
theorem check (l : List FileD) (room arm : Int) (dead : Bool) (hx : l.length ≤ 1000000000000000) : EvD Try.prog 47 [.agg [.sl (fisc l) l.length .any, .sc (.int .i64 room), .sc (.int .i64 arm), .sc (.bool dead)]] (.sc (.bool (decide (okD room arm l)))) := by
  refine EvD.body Try.func47 rfl (by simp [dataAll, AVal.data, *]) (by simp [dataAll, AVal.data, *]) ?_
  refine AWP.seq ?_
  refine TO ⟨[.agg [.sl (fisc l) (List.length l) .any, (I6 room), (I6 arm), (B6 dead)]] ++ UU 80, []⟩ ?_
  refine AWP.reg (RT 2 ?_)
  refine AWP.seq (AWP.seq (KL [0] ⟨[U6, .ptr 0 0, (B6 false)] ++ UU 78, [⟨[.sl (fisc l) (List.length l) .any, (I6 room), (I6 arm), (B6 dead)], 4, .fresh⟩]⟩ ?_))
  refine AWP.reg (PI 4 (True ∧ 1 < 4 ∧ True ∧ True ∧ True) ⟨trivial, (by omega), trivial, trivial, trivial⟩ ?_)
  refine DerQ.to ⟨[U6, .ptr 0 0, (B6 false), U6, U6, U6, .ptr 0 1, (I6 room), (B6 (decide (room < 0))), (B6 (decide (room < 0)))] ++ UU 71, [⟨[.sl (fisc l) (List.length l) .any, (I6 room), (I6 arm), (B6 dead)], 4, .fresh⟩]⟩ (by kernel_rfl) ?_
  cases h1 : (decide (room < 0))
  · have h1' := of_decide_eq_false h1
    refine PI 5 (True ∧ 1 < 4 ∧ True ∧ True ∧ True ∧ True) ⟨trivial, (by omega), trivial, trivial, trivial, trivial⟩ ?_
    refine DerQ.to ⟨[U6, .ptr 0 0, (B6 false), U6, U6, U6, .ptr 0 1, (I6 room), (B6 false), (B6 false), .ptr 0 1, (I6 room), (B6 (decide (room > 1048576))), (B6 (decide (room > 1048576))), (B6 (decide (room > 1048576)))] ++ UU 66, [⟨[.sl (fisc l) (List.length l) .any, (I6 room), (I6 arm), (B6 dead)], 4, .fresh⟩]⟩ (by kernel_rfl) ?_
    cases h2 : (decide (room > 1048576))
    · have h2' := of_decide_eq_false h2
      refine PI 5 (True ∧ 2 < 4 ∧ True ∧ True ∧ True ∧ True) ⟨trivial, (by omega), trivial, trivial, trivial, trivial⟩ ?_
      refine DerQ.to ⟨[U6, .ptr 0 0, (B6 false), U6, U6, U6, .ptr 0 1, (I6 room), (B6 false), (B6 false), .ptr 0 1, (I6 room), (B6 false), (B6 false), (B6 false), .ptr 0 2, (I6 arm), (B6 (decide (arm < -1))), (B6 (decide (arm < -1))), (B6 (decide (arm < -1)))] ++ UU 61, [⟨[.sl (fisc l) (List.length l) .any, (I6 room), (I6 arm), (B6 dead)], 4, .fresh⟩]⟩ (by kernel_rfl) ?_
      cases h3 : (decide (arm < -1))
      · have h3' := of_decide_eq_false h3
        refine RI (True ∧ 0 < 4 ∧ True ∧ True ∧ True ∧ True) ⟨trivial, (by omega), trivial, trivial, trivial, trivial⟩ ?_
        refine KL (NN 6 18) ⟨[U6, .ptr 0 0, (B6 false)] ++ UU 21 ++ [(B6 (decide ((↑(List.length l) : Int) > 64)))] ++ UU 56, [⟨[.sl (fisc l) (List.length l) .any, (I6 room), (I6 arm), (B6 dead)], 4, .fresh⟩]⟩ ?_
        refine CN (decide ((↑(List.length l) : Int) > 64)) (fun h4 => ?_) (fun h4 => ?_)
        · have h4' := of_decide_eq_true h4
          refine SQ (RT 1 ?_)
          refine AWP.ret ?_
          refine FI (B6 false) ?_
          refine Shrink.all ?_ rfl
          (exact dec_no (fun h => by have := h.1; have := h.2.1; have := h.2.2.1; have := h.2.2.2.1; omega); done)
        · have h4' := of_decide_eq_false h4
          refine AWP.skip (SQ (RI (True ∧ 1 < 4 ∧ True ∧ True) ⟨trivial, (by omega), trivial, trivial⟩ ?_))
          refine AWP.seq (AWP.seq (KL [24, 25, 26] ⟨[U6, .ptr 0 0, (B6 false), (I6 room)] ++ UU 77, [⟨[.sl (fisc l) (List.length l) .any, (I6 room), (I6 arm), (B6 dead)], 4, .fresh⟩]⟩ ?_))
          refine AWP.reg (RI (True ∧ 0 < 4 ∧ True ∧ True ∧ True) ⟨trivial, (by omega), trivial, trivial, trivial⟩ ?_)
          refine AWP.block (KL [27] ⟨[U6, .ptr 0 0, (B6 false), (I6 room)] ++ UU 24 ++ [.sl (fisc l) (List.length l) .any, (I6 (↑(List.length l) : Int)), (I6 0)] ++ UU 50, [⟨[.sl (fisc l) (List.length l) .any, (I6 room), (I6 arm), (B6 dead)], 4, .fresh⟩]⟩ ?_)
          refine AWP.loopW [false, true, true, true, false, false, false, false, false, false, false, false, false, false, false, false, false, false, false, false, false, false, false, false, false, false, false, false, true, true, true, false, false, false, false, false, false, false, false, false, false, false, false, false, false, false, false, false, false, false, false, false, false, false, false, false, false, false, false, false, false, false, false, false, false, false, false, false, false, false, false, false, false, false, false, false, false, false, false, false, false] (fun kk st => ∃ (i : Nat), kk = l.length - i ∧ i ≤ l.length ∧ (0 ≤ leftL room l i ∧ leftL room l i ≤ 1048576) ∧ (∀ j, j < i → okF room l j) ∧ st = ⟨[U6, .ptr 0 0, (B6 false), (I6 (leftL room l i)), U6, U6, U6, U6, U6, U6, U6, U6, U6, U6, U6, U6, U6, U6, U6, U6, U6, U6, U6, U6, U6, U6, U6, U6, .sl (fisc l) (List.length l) .any, (I6 (↑(List.length l) : Int)), (I6 (i : Int)), U6, U6, U6, U6, U6, U6, U6, U6, U6, U6, U6, U6, U6, U6, U6, U6, U6, U6, U6, U6, U6, U6, U6, U6, U6, U6, U6, U6, U6, U6, U6, U6, U6, U6, U6, U6, U6, U6, U6, U6, U6, U6, U6, U6, U6, U6, U6, U6, U6, .undef], [⟨[.sl (fisc l) (List.length l) .any, (I6 room), (I6 arm), (B6 dead)], 4, .fresh⟩]⟩) _ ⟨0, rfl, by omega, ⟨by show (0:Int) ≤ room; omega, by show room ≤ 1048576; omega⟩, fun j h => absurd h (by omega), by kernel_rfl⟩ ?_
          rintro kk s ⟨i, rfl, hi, hlb, hd, rfl⟩
          refine SQ (RT 1 ?_)
          refine AWP.seq ?_
          refine TO ⟨[U6, .ptr 0 0, (B6 false), (I6 (leftL room l i))] ++ UU 24 ++ [.sl (fisc l) (List.length l) .any, (I6 (↑(List.length l) : Int)), (I6 (↑i : Int)), (B6 (decide ((↑i : Int) < (↑(List.length l) : Int))))] ++ UU 49, [⟨[.sl (fisc l) (List.length l) .any, (I6 room), (I6 arm), (B6 dead)], 4, .fresh⟩]⟩ ?_
          refine CN (decide ((↑i : Int) < (↑(List.length l) : Int))) (fun h5 => ?_) (fun h5 => ?_)
          · have h5' := of_decide_eq_true h5
            refine AWP.skip (AWP.seq (AWP.block (SQ ?_)))
            refine DerQ.pre 5 (True ∧ (((0 ≤ (↑i : Int)) ∧ ((↑i : Int) < (↑(List.length l) : Int))) ∧ (Int.toNat (↑i : Int) * 3 + 3 ≤ List.length (fisc l))) ∧ 3 ≤ 3 ∧ True ∧ True ∧ True) ⟨[U6, .ptr 0 0, (B6 false), (I6 (leftL room l i)), (I6 (↑i : Int)), .ptr 1 0] ++ UU 22 ++ [.sl (fisc l) (List.length l) .any, (I6 (↑(List.length l) : Int)), (I6 (↑i : Int)), (B6 (decide ((↑i : Int) < (↑(List.length l) : Int)))), (I6 (↑i : Int)), .dptr [List.getD (fisc l) (Int.toNat (↑i : Int) * 3 + 0) U6, List.getD (fisc l) (Int.toNat (↑i : Int) * 3 + 1) U6, List.getD (fisc l) (Int.toNat (↑i : Int) * 3 + 2) AVal.undef], .agg [List.getD (fisc l) (Int.toNat (↑i : Int) * 3 + 0) U6, List.getD (fisc l) (Int.toNat (↑i : Int) * 3 + 1) U6, List.getD (fisc l) (Int.toNat (↑i : Int) * 3 + 2) AVal.undef]] ++ UU 46, [⟨[.sl (fisc l) (List.length l) .any, (I6 room), (I6 arm), (B6 dead)], 4, .fresh⟩, ⟨[(S6 ({ data := #[] })), .sl [] 0 .nil, (I6 0)], 3, .fresh⟩]⟩ (by kernel_rfl) ⟨trivial, ⟨⟨(by omega), (by omega)⟩, (by (simp [spliceA_length] <;> omega))⟩, (by omega), trivial, trivial, trivial⟩ ?_
            rw [Int.toNat_natCast (i)]
            rw [Nat.add_zero (i * 3)]
            rw [Go.Dk.fi_cells (l) (i) (by omega)]
            refine RI (3 ≤ 3 ∧ True) ⟨(by omega), trivial⟩ ?_
            refine AWP.seq (AWP.seq (KL [31, 32, 33, 34] ⟨[U6, .ptr 0 0, (B6 false), (I6 (leftL room l i)), (I6 (↑i : Int)), .ptr 1 0] ++ UU 22 ++ [.sl (fisc l) (List.length l) .any, (I6 (↑(List.length l) : Int)), (I6 (↑i : Int))] ++ UU 50, [⟨[.sl (fisc l) (List.length l) .any, (I6 room), (I6 arm), (B6 dead)], 4, .fresh⟩, ⟨[(S6 ((List.getD l i fi0).nm)), .sl (u8s (List.getD l i fi0).d) (List.length (List.getD l i fi0).d) .any, (I6 ((List.getD l i fi0).sf))], 3, .fresh⟩]⟩ ?_))
            refine AWP.drawX mixed (fun o => [37].contains (o.dst.getD 0)) (by kernel_rfl) ?_
            refine DerX.preI 2 ((True) ∧ (((0 : Nat) < (3 : Nat)) ∧ (True))) (by intro ext; kernel_rfl) ⟨trivial, ⟨(by omega), trivial⟩⟩ ?_
            refine DerX.callDI (named ((List.getD l i fi0).nm)) ⟨by kernel_rfl, by kernel_rfl⟩ ?_
            refine DerX.preI 2 ((True) ∧ ((True) ∧ (True))) (by intro ext; kernel_rfl) ⟨trivial, ⟨trivial, trivial⟩⟩ ?_
            refine AWP.toX ⟨[U6, .ptr 0 0, (B6 false), (I6 (leftL room l i)), (I6 (↑i : Int)), .ptr 1 0] ++ UU 22 ++ [.sl (fisc l) (List.length l) .any, (I6 (↑(List.length l) : Int)), (I6 (↑i : Int)), U6, U6, U6, U6, .ptr 1 0, (S6 ((List.getD l i fi0).nm)), (B6 (decide (namedP (List.getD l i fi0).nm))), (B6 (!decide (namedP (List.getD l i fi0).nm))), (B6 (!decide (namedP (List.getD l i fi0).nm)))] ++ UU 41, [⟨[.sl (fisc l) (List.length l) .any, (I6 room), (I6 arm), (B6 dead)], 4, .fresh⟩, ⟨[(S6 ((List.getD l i fi0).nm)), .sl (u8s (List.getD l i fi0).d) (List.length (List.getD l i fi0).d) .any, (I6 ((List.getD l i fi0).sf))], 3, .fresh⟩]⟩ (by kernel_rfl) ?_
            cases h6 : (!decide (namedP (List.getD l i fi0).nm))
            · have h6' := h6
              simp only [Bool.and_eq_true, Bool.and_eq_false_iff, Bool.or_eq_true, Bool.or_eq_false_iff, Bool.not_eq_true', Bool.not_eq_false', beq_iff_eq, beq_eq_false_iff_ne, decide_eq_true_eq, decide_eq_false_iff_not, ne_eq] at h6'
              refine DerX.preI 5 ((True) ∧ (((2 : Nat) < (3 : Nat)) ∧ ((True) ∧ ((True) ∧ ((True) ∧ (True)))))) (by intro ext; kernel_rfl) ⟨trivial, ⟨(by omega), ⟨trivial, ⟨trivial, ⟨trivial, trivial⟩⟩⟩⟩⟩ ?_
              refine AWP.toX ⟨[U6, .ptr 0 0, (B6 false), (I6 (leftL room l i)), (I6 (↑i : Int)), .ptr 1 0] ++ UU 22 ++ [.sl (fisc l) (List.length l) .any, (I6 (↑(List.length l) : Int)), (I6 (↑i : Int)), U6, U6, U6, U6, .ptr 1 0, (S6 ((List.getD l i fi0).nm)), (B6 (decide (namedP (List.getD l i fi0).nm))), (B6 false), (B6 false), .ptr 1 2, (I6 ((List.getD l i fi0).sf)), (B6 (decide ((List.getD l i fi0).sf < 0))), (B6 (decide ((List.getD l i fi0).sf < 0))), (B6 (decide ((List.getD l i fi0).sf < 0)))] ++ UU 36, [⟨[.sl (fisc l) (List.length l) .any, (I6 room), (I6 arm), (B6 dead)], 4, .fresh⟩, ⟨[(S6 ((List.getD l i fi0).nm)), .sl (u8s (List.getD l i fi0).d) (List.length (List.getD l i fi0).d) .any, (I6 ((List.getD l i fi0).sf))], 3, .fresh⟩]⟩ (by kernel_rfl) ?_
              cases h7 : (decide ((List.getD l i fi0).sf < 0))
              · have h7' := of_decide_eq_false h7
                refine DerX.preI 8 ((True) ∧ (((2 : Nat) < (3 : Nat)) ∧ ((True) ∧ (((1 : Nat) < (3 : Nat)) ∧ ((True) ∧ ((True) ∧ ((True) ∧ ((True) ∧ (True))))))))) (by intro ext; kernel_rfl) ⟨trivial, ⟨(by omega), ⟨trivial, ⟨(by omega), ⟨trivial, ⟨trivial, ⟨trivial, ⟨trivial, trivial⟩⟩⟩⟩⟩⟩⟩⟩ ?_
                refine AWP.toX ⟨[U6, .ptr 0 0, (B6 false), (I6 (leftL room l i)), (I6 (↑i : Int)), .ptr 1 0] ++ UU 22 ++ [.sl (fisc l) (List.length l) .any, (I6 (↑(List.length l) : Int)), (I6 (↑i : Int)), U6, U6, U6, U6, .ptr 1 0, (S6 ((List.getD l i fi0).nm)), (B6 (decide (namedP (List.getD l i fi0).nm))), (B6 false), (B6 false), .ptr 1 2, (I6 ((List.getD l i fi0).sf)), (B6 false), (B6 false), (B6 false), .ptr 1 2, (I6 ((List.getD l i fi0).sf)), .ptr 1 1, .sl (u8s (List.getD l i fi0).d) (List.length (List.getD l i fi0).d) .any, (I6 (↑(List.length (List.getD l i fi0).d) : Int)), (B6 (decide ((List.getD l i fi0).sf > (↑(List.length (List.getD l i fi0).d) : Int)))), (B6 (decide ((List.getD l i fi0).sf > (↑(List.length (List.getD l i fi0).d) : Int)))), (B6 (decide ((List.getD l i fi0).sf > (↑(List.length (List.getD l i fi0).d) : Int))))] ++ UU 28, [⟨[.sl (fisc l) (List.length l) .any, (I6 room), (I6 arm), (B6 dead)], 4, .fresh⟩, ⟨[(S6 ((List.getD l i fi0).nm)), .sl (u8s (List.getD l i fi0).d) (List.length (List.getD l i fi0).d) .any, (I6 ((List.getD l i fi0).sf))], 3, .fresh⟩]⟩ (by kernel_rfl) ?_
                cases h8 : (decide ((List.getD l i fi0).sf > (↑(List.length (List.getD l i fi0).d) : Int)))
                · have h8' := of_decide_eq_false h8
                  refine DerX.preI 7 ((True) ∧ (((1 : Nat) < (3 : Nat)) ∧ ((True) ∧ ((True) ∧ ((True) ∧ ((True) ∧ ((True) ∧ (True)))))))) (by intro ext; kernel_rfl) ⟨trivial, ⟨(by omega), ⟨trivial, ⟨trivial, ⟨trivial, ⟨trivial, ⟨trivial, trivial⟩⟩⟩⟩⟩⟩⟩ ?_
                  refine AWP.toX ⟨[U6, .ptr 0 0, (B6 false), (I6 (leftL room l i)), (I6 (↑i : Int)), .ptr 1 0] ++ UU 22 ++ [.sl (fisc l) (List.length l) .any, (I6 (↑(List.length l) : Int)), (I6 (↑i : Int)), U6, U6, U6, U6, .ptr 1 0, (S6 ((List.getD l i fi0).nm)), (B6 (decide (namedP (List.getD l i fi0).nm))), (B6 false), (B6 false), .ptr 1 2, (I6 ((List.getD l i fi0).sf)), (B6 false), (B6 false), (B6 false), .ptr 1 2, (I6 ((List.getD l i fi0).sf)), .ptr 1 1, .sl (u8s (List.getD l i fi0).d) (List.length (List.getD l i fi0).d) .any, (I6 (↑(List.length (List.getD l i fi0).d) : Int)), (B6 false), (B6 false), (B6 false), .ptr 1 1, .sl (u8s (List.getD l i fi0).d) (List.length (List.getD l i fi0).d) .any, (I6 (↑(List.length (List.getD l i fi0).d) : Int)), (I6 (leftL room l i)), (B6 (decide ((↑(List.length (List.getD l i fi0).d) : Int) > leftL room l i))), (B6 (decide ((↑(List.length (List.getD l i fi0).d) : Int) > leftL room l i))), (B6 (decide ((↑(List.length (List.getD l i fi0).d) : Int) > leftL room l i)))] ++ UU 21, [⟨[.sl (fisc l) (List.length l) .any, (I6 room), (I6 arm), (B6 dead)], 4, .fresh⟩, ⟨[(S6 ((List.getD l i fi0).nm)), .sl (u8s (List.getD l i fi0).d) (List.length (List.getD l i fi0).d) .any, (I6 ((List.getD l i fi0).sf))], 3, .fresh⟩]⟩ (by kernel_rfl) ?_
                  cases h9 : (decide ((↑(List.length (List.getD l i fi0).d) : Int) > leftL room l i))
                  · have h9' := of_decide_eq_false h9
                    refine DerX.preI 3 ((True) ∧ ((True) ∧ ((True) ∧ (True)))) (by intro ext; kernel_rfl) ⟨trivial, ⟨trivial, ⟨trivial, trivial⟩⟩⟩ ?_
                    refine AWP.toX ⟨[U6, .ptr 0 0, (B6 false), (I6 (leftL room l i)), (I6 (↑i : Int)), .ptr 1 0] ++ UU 22 ++ [.sl (fisc l) (List.length l) .any, (I6 (↑(List.length l) : Int)), (I6 (↑i : Int)), U6, U6, U6, U6, .ptr 1 0, (S6 ((List.getD l i fi0).nm)), (B6 (decide (namedP (List.getD l i fi0).nm))), (B6 false), (B6 false), .ptr 1 2, (I6 ((List.getD l i fi0).sf)), (B6 false), (B6 false), (B6 false), .ptr 1 2, (I6 ((List.getD l i fi0).sf)), .ptr 1 1, .sl (u8s (List.getD l i fi0).d) (List.length (List.getD l i fi0).d) .any, (I6 (↑(List.length (List.getD l i fi0).d) : Int)), (B6 false), (B6 false), (B6 false), .ptr 1 1, .sl (u8s (List.getD l i fi0).d) (List.length (List.getD l i fi0).d) .any, (I6 (↑(List.length (List.getD l i fi0).d) : Int)), (I6 (leftL room l i)), (B6 false), (B6 false), (B6 false), (I6 (↑i : Int)), (B6 (decide ((↑i : Int) > 0))), (B6 (decide ((↑i : Int) > 0)))] ++ UU 18, [⟨[.sl (fisc l) (List.length l) .any, (I6 room), (I6 arm), (B6 dead)], 4, .fresh⟩, ⟨[(S6 ((List.getD l i fi0).nm)), .sl (u8s (List.getD l i fi0).d) (List.length (List.getD l i fi0).d) .any, (I6 ((List.getD l i fi0).sf))], 3, .fresh⟩]⟩ (by kernel_rfl) ?_
                    cases h10 : (decide ((↑i : Int) > 0))
                    · have h10' := of_decide_eq_false h10
                      refine DerX.preI 12 ((True) ∧ ((True) ∧ (True))) (by intro ext; kernel_rfl) ⟨trivial, ⟨trivial, trivial⟩⟩ ?_
                      refine DerX.nil ?_
                      refine KL ([4] ++ NN 35 39) ⟨[U6, .ptr 0 0, (B6 false), (I6 (leftL room l i)), U6, .ptr 1 0] ++ UU 22 ++ [.sl (fisc l) (List.length l) .any, (I6 (↑(List.length l) : Int)), (I6 (↑i : Int))] ++ UU 43 ++ [(B6 false)] ++ UU 6, [⟨[.sl (fisc l) (List.length l) .any, (I6 room), (I6 arm), (B6 dead)], 4, .fresh⟩, ⟨[(S6 ((List.getD l i fi0).nm)), .sl (u8s (List.getD l i fi0).d) (List.length (List.getD l i fi0).d) .any, (I6 ((List.getD l i fi0).sf))], 3, .fresh⟩]⟩ ?_
                      refine CN false (fun h => nomatch h) (fun _ => ?_)
                      refine AWP.skip (AWP.reg ?_)
                      refine DerQ.run (True ∧ True ∧ 1 < 3 ∧ True ∧ True ∧ True ∧ True) ⟨[U6, .ptr 0 0, (B6 false), (I6 (IntKind.wrap IntKind.i64 (leftL room l i - (↑(List.length (List.getD l i fi0).d) : Int)))), U6, .ptr 1 0] ++ UU 22 ++ [.sl (fisc l) (List.length l) .any, (I6 (↑(List.length l) : Int)), (I6 (↑i : Int))] ++ UU 43 ++ [(B6 false), (I6 (leftL room l i)), .ptr 1 1, .sl (u8s (List.getD l i fi0).d) (List.length (List.getD l i fi0).d) .any, (I6 (↑(List.length (List.getD l i fi0).d) : Int)), (I6 (IntKind.wrap IntKind.i64 (leftL room l i - (↑(List.length (List.getD l i fi0).d) : Int)))), .undef], [⟨[.sl (fisc l) (List.length l) .any, (I6 room), (I6 arm), (B6 dead)], 4, .fresh⟩, ⟨[(S6 ((List.getD l i fi0).nm)), .sl (u8s (List.getD l i fi0).d) (List.length (List.getD l i fi0).d) .any, (I6 ((List.getD l i fi0).sf))], 3, .fresh⟩]⟩ (by kernel_rfl) ⟨trivial, trivial, (by omega), trivial, trivial, trivial, trivial⟩ ?_
                      rw [IntWalk.i64_in (leftL room l i - (↑(List.length (List.getD l i fi0).d) : Int)) (by omega)]
                      refine KL ([5] ++ NN 74 6) ⟨[U6, .ptr 0 0, (B6 false), (I6 (leftL room l i - (↑(List.length (List.getD l i fi0).d) : Int)))] ++ UU 24 ++ [.sl (fisc l) (List.length l) .any, (I6 (↑(List.length l) : Int)), (I6 (↑i : Int))] ++ UU 50, [⟨[.sl (fisc l) (List.length l) .any, (I6 room), (I6 arm), (B6 dead)], 4, .fresh⟩, ⟨[(S6 ((List.getD l i fi0).nm)), .sl (u8s (List.getD l i fi0).d) (List.length (List.getD l i fi0).d) .any, (I6 ((List.getD l i fi0).sf))], 3, .fresh⟩]⟩ ?_
                      refine AWP.reg ?_
                      refine DerQ.run (TT 2) ⟨[U6, .ptr 0 0, (B6 false), (I6 (leftL room l i - (↑(List.length (List.getD l i fi0).d) : Int)))] ++ UU 24 ++ [.sl (fisc l) (List.length l) .any, (I6 (↑(List.length l) : Int)), (I6 (IntKind.wrap IntKind.i64 ((↑i : Int) + 1)))] ++ UU 49 ++ [(I6 (IntKind.wrap IntKind.i64 ((↑i : Int) + 1)))], [⟨[.sl (fisc l) (List.length l) .any, (I6 room), (I6 arm), (B6 dead)], 4, .fresh⟩, ⟨[(S6 ((List.getD l i fi0).nm)), .sl (u8s (List.getD l i fi0).d) (List.length (List.getD l i fi0).d) .any, (I6 ((List.getD l i fi0).sf))], 3, .fresh⟩]⟩ (by kernel_rfl) (tt 2) ?_
                      rw [IntWalk.i64_in ((↑i : Int) + 1) (by omega)]
                      (exact ⟨_, by omega, _, Weak.cut 1 (by kernel_rfl) (by kernel_rfl) (by simp) (by simp [ltAll, AVal.refLt]) (by simp [dataAll, AVal.data]), i + 1, rfl, by omega, by show 0 ≤ leftL room l i - _ ∧ leftL room l i - _ ≤ _; omega, succ_all hd ⟨by assumption, by omega, by omega, by omega, fun h0 => by first | (exfalso; omega) | exact nle (by assumption)⟩, rfl⟩; done)
                    · have h10' := of_decide_eq_true h10
                      refine DerX.pre 9 ((True) ∧ (((0 : Nat) < (3 : Nat)) ∧ ((True) ∧ (((0 : Nat) < (4 : Nat)) ∧ ((True) ∧ ((True) ∧ ((((0 ≤ IntKind.wrap IntKind.i64 ((↑i : Int) - 1)) ∧ (IntKind.wrap IntKind.i64 ((↑i : Int) - 1) < (↑(List.length l) : Int))) ∧ (Int.toNat (IntKind.wrap IntKind.i64 ((↑i : Int) - 1)) * 3 + 3 ≤ List.length (fisc l))) ∧ (((1 : Nat) ≤ (3 : Nat)) ∧ (((0 : Nat) < (1 : Nat)) ∧ (True)))))))))) [.ptr 1 0, (S6 ((List.getD l i fi0).nm)), .ptr 0 0, .sl (fisc l) (List.length l) .any, (I6 (↑i : Int)), (I6 (IntKind.wrap IntKind.i64 ((↑i : Int) - 1))), .dptr [List.getD (fisc l) (Int.toNat (IntKind.wrap IntKind.i64 ((↑i : Int) - 1)) * 3 + 0) U6, List.getD (fisc l) (Int.toNat (IntKind.wrap IntKind.i64 ((↑i : Int) - 1)) * 3 + 1) U6, List.getD (fisc l) (Int.toNat (IntKind.wrap IntKind.i64 ((↑i : Int) - 1)) * 3 + 2) AVal.undef], .dptr [List.getD (fisc l) (Int.toNat (IntKind.wrap IntKind.i64 ((↑i : Int) - 1)) * 3 + 0) AVal.undef], List.getD [List.getD (fisc l) (Int.toNat (IntKind.wrap IntKind.i64 ((↑i : Int) - 1)) * 3 + 0) AVal.undef] 0 AVal.undef] ⟨[U6, .ptr 0 0, (B6 false), (I6 (leftL room l i)), (I6 (↑i : Int)), .ptr 1 0] ++ UU 22 ++ [.sl (fisc l) (List.length l) .any, (I6 (↑(List.length l) : Int)), (I6 (↑i : Int)), U6, U6, U6, U6, .ptr 1 0, (S6 ((List.getD l i fi0).nm)), (B6 (decide (namedP (List.getD l i fi0).nm))), (B6 false), (B6 false), .ptr 1 2, (I6 ((List.getD l i fi0).sf)), (B6 false), (B6 false), (B6 false), .ptr 1 2, (I6 ((List.getD l i fi0).sf)), .ptr 1 1, .sl (u8s (List.getD l i fi0).d) (List.length (List.getD l i fi0).d) .any, (I6 (↑(List.length (List.getD l i fi0).d) : Int)), (B6 false), (B6 false), (B6 false), .ptr 1 1, .sl (u8s (List.getD l i fi0).d) (List.length (List.getD l i fi0).d) .any, (I6 (↑(List.length (List.getD l i fi0).d) : Int)), (I6 (leftL room l i)), (B6 false), (B6 false), (B6 false), (I6 (↑i : Int)), (B6 true), (B6 true), .ptr 1 0, (S6 ((List.getD l i fi0).nm)), .ptr 0 0, .sl (fisc l) (List.length l) .any, (I6 (↑i : Int)), (I6 (IntKind.wrap IntKind.i64 ((↑i : Int) - 1))), .dptr [List.getD (fisc l) (Int.toNat (IntKind.wrap IntKind.i64 ((↑i : Int) - 1)) * 3 + 0) U6, List.getD (fisc l) (Int.toNat (IntKind.wrap IntKind.i64 ((↑i : Int) - 1)) * 3 + 1) U6, List.getD (fisc l) (Int.toNat (IntKind.wrap IntKind.i64 ((↑i : Int) - 1)) * 3 + 2) AVal.undef], .dptr [List.getD (fisc l) (Int.toNat (IntKind.wrap IntKind.i64 ((↑i : Int) - 1)) * 3 + 0) AVal.undef], List.getD (fisc l) (Int.toNat (IntKind.wrap IntKind.i64 ((↑i : Int) - 1)) * 3 + 0) AVal.undef] ++ UU 9, [⟨[.sl (fisc l) (List.length l) .any, (I6 room), (I6 arm), (B6 dead)], 4, .fresh⟩, ⟨[(S6 ((List.getD l i fi0).nm)), .sl (u8s (List.getD l i fi0).d) (List.length (List.getD l i fi0).d) .any, (I6 ((List.getD l i fi0).sf))], 3, .fresh⟩]⟩ (by intro ext; kernel_rfl) (by kernel_rfl) ⟨trivial, ⟨(by omega), ⟨trivial, ⟨(by omega), ⟨trivial, ⟨trivial, ⟨⟨⟨(by (rw [IntWalk.i64_in _ (by omega)]; omega)), (by (rw [IntWalk.i64_in _ (by omega)]; omega))⟩, (by (rw [IntWalk.i64_in _ (by omega)]; simp <;> omega))⟩, ⟨(by omega), ⟨(by omega), trivial⟩⟩⟩⟩⟩⟩⟩⟩⟩ ?_
                      rw [IntWalk.i64_in ((↑i : Int) - 1) (by omega)]
                      rw [Nat.add_zero (Int.toNat ((↑i : Int) - 1) * 3)]
                      rw [Go.Dk.toNat_prev (i) (by omega)]
                      rw [Go.Dk.fi_cells (l) (i - 1) (by omega)]
                      rw [Go.Dk.fi_0 (l) (i - 1) (by omega)]
                      refine DerX.pre 3 (TT 3) [(B6 (Op.bytesLess (ByteArray.toList (List.getD l i fi0).nm) (ByteArray.toList (List.getD l (i - 1) fi0).nm) || ByteArray.toList (List.getD l i fi0).nm == ByteArray.toList (List.getD l (i - 1) fi0).nm)), (B6 (Op.bytesLess (ByteArray.toList (List.getD l i fi0).nm) (ByteArray.toList (List.getD l (i - 1) fi0).nm) || ByteArray.toList (List.getD l i fi0).nm == ByteArray.toList (List.getD l (i - 1) fi0).nm)), (B6 (Op.bytesLess (ByteArray.toList (List.getD l i fi0).nm) (ByteArray.toList (List.getD l (i - 1) fi0).nm) || ByteArray.toList (List.getD l i fi0).nm == ByteArray.toList (List.getD l (i - 1) fi0).nm))] ⟨[U6, .ptr 0 0, (B6 false), (I6 (leftL room l i)), (I6 (↑i : Int)), .ptr 1 0] ++ UU 22 ++ [.sl (fisc l) (List.length l) .any, (I6 (↑(List.length l) : Int)), (I6 (↑i : Int)), U6, U6, U6, U6, .ptr 1 0, (S6 ((List.getD l i fi0).nm)), (B6 (decide (namedP (List.getD l i fi0).nm))), (B6 false), (B6 false), .ptr 1 2, (I6 ((List.getD l i fi0).sf)), (B6 false), (B6 false), (B6 false), .ptr 1 2, (I6 ((List.getD l i fi0).sf)), .ptr 1 1, .sl (u8s (List.getD l i fi0).d) (List.length (List.getD l i fi0).d) .any, (I6 (↑(List.length (List.getD l i fi0).d) : Int)), (B6 false), (B6 false), (B6 false), .ptr 1 1, .sl (u8s (List.getD l i fi0).d) (List.length (List.getD l i fi0).d) .any, (I6 (↑(List.length (List.getD l i fi0).d) : Int)), (I6 (leftL room l i)), (B6 false), (B6 false), (B6 false), (I6 (↑i : Int)), (B6 true), (B6 true), .ptr 1 0, (S6 ((List.getD l i fi0).nm)), .ptr 0 0, .sl (fisc l) (List.length l) .any, (I6 (↑i : Int)), (I6 ((↑i : Int) - 1)), .dptr [(S6 ((List.getD l (i - 1) fi0).nm)), .sl (u8s (List.getD l (i - 1) fi0).d) (List.length (List.getD l (i - 1) fi0).d) .any, (I6 ((List.getD l (i - 1) fi0).sf))], .dptr [(S6 ((List.getD l (i - 1) fi0).nm))], (S6 ((List.getD l (i - 1) fi0).nm)), (B6 (Op.bytesLess (ByteArray.toList (List.getD l i fi0).nm) (ByteArray.toList (List.getD l (i - 1) fi0).nm) || ByteArray.toList (List.getD l i fi0).nm == ByteArray.toList (List.getD l (i - 1) fi0).nm)), (B6 (Op.bytesLess (ByteArray.toList (List.getD l i fi0).nm) (ByteArray.toList (List.getD l (i - 1) fi0).nm) || ByteArray.toList (List.getD l i fi0).nm == ByteArray.toList (List.getD l (i - 1) fi0).nm)), (B6 (Op.bytesLess (ByteArray.toList (List.getD l i fi0).nm) (ByteArray.toList (List.getD l (i - 1) fi0).nm) || ByteArray.toList (List.getD l i fi0).nm == ByteArray.toList (List.getD l (i - 1) fi0).nm))] ++ UU 6, [⟨[.sl (fisc l) (List.length l) .any, (I6 room), (I6 arm), (B6 dead)], 4, .fresh⟩, ⟨[(S6 ((List.getD l i fi0).nm)), .sl (u8s (List.getD l i fi0).d) (List.length (List.getD l i fi0).d) .any, (I6 ((List.getD l i fi0).sf))], 3, .fresh⟩]⟩ (by intro ext; kernel_rfl) (by kernel_rfl) (tt 3) ?_
                      rw [Go.Abs.str_beq ((List.getD l i fi0).nm) ((List.getD l (i - 1) fi0).nm)]
                      rw [Go.Dk.lt_dec ((List.getD l i fi0).nm) ((List.getD l (i - 1) fi0).nm)]
                      refine DerX.nil ?_
                      refine KL ([4] ++ NN 35 39) ⟨[U6, .ptr 0 0, (B6 false), (I6 (leftL room l i)), U6, .ptr 1 0] ++ UU 22 ++ [.sl (fisc l) (List.length l) .any, (I6 (↑(List.length l) : Int)), (I6 (↑i : Int))] ++ UU 43 ++ [(B6 (decide (ltB (List.getD l i fi0).nm (List.getD l (i - 1) fi0).nm) || decide ((List.getD l i fi0).nm = (List.getD l (i - 1) fi0).nm)))] ++ UU 6, [⟨[.sl (fisc l) (List.length l) .any, (I6 room), (I6 arm), (B6 dead)], 4, .fresh⟩, ⟨[(S6 ((List.getD l i fi0).nm)), .sl (u8s (List.getD l i fi0).d) (List.length (List.getD l i fi0).d) .any, (I6 ((List.getD l i fi0).sf))], 3, .fresh⟩]⟩ ?_
                      refine CN (decide (ltB (List.getD l i fi0).nm (List.getD l (i - 1) fi0).nm) || decide ((List.getD l i fi0).nm = (List.getD l (i - 1) fi0).nm)) (fun h11 => ?_) (fun h11 => ?_)
                      · have h11' := h11
                        simp only [Bool.and_eq_true, Bool.and_eq_false_iff, Bool.or_eq_true, Bool.or_eq_false_iff, Bool.not_eq_true', Bool.not_eq_false', beq_iff_eq, beq_eq_false_iff_ne, decide_eq_true_eq, decide_eq_false_iff_not, ne_eq] at h11'
                        refine SQ ?_
                        refine DerQ.run (True ∧ True) ⟨[U6, .ptr 0 0, (B6 false), (I6 (leftL room l i)), U6, .ptr 1 0] ++ UU 22 ++ [.sl (fisc l) (List.length l) .any, (I6 (↑(List.length l) : Int)), (I6 (↑i : Int))] ++ UU 43 ++ [(B6 (decide (ltB (List.getD l i fi0).nm (List.getD l (i - 1) fi0).nm) || decide ((List.getD l i fi0).nm = (List.getD l (i - 1) fi0).nm)))] ++ UU 6, [⟨[.sl (fisc l) (List.length l) .any, (I6 room), (I6 arm), (B6 dead)], 4, .fresh⟩, ⟨[(S6 ((List.getD l i fi0).nm)), .sl (u8s (List.getD l i fi0).d) (List.length (List.getD l i fi0).d) .any, (I6 ((List.getD l i fi0).sf))], 3, .fresh⟩]⟩ (by kernel_rfl) ⟨trivial, trivial⟩ ?_
                        refine AWP.ret ?_
                        refine FI (B6 false) ?_
                        refine Shrink.all ?_ rfl
                        (exact dec_no (fun h => (h.2.2.2.2 i (by omega)).2.2.2.2 (by omega) (by assumption)); done)
                      · have h11' := h11
                        simp only [Bool.and_eq_true, Bool.and_eq_false_iff, Bool.or_eq_true, Bool.or_eq_false_iff, Bool.not_eq_true', Bool.not_eq_false', beq_iff_eq, beq_eq_false_iff_ne, decide_eq_true_eq, decide_eq_false_iff_not, ne_eq] at h11'
                        refine AWP.skip (AWP.reg ?_)
                        refine DerQ.run (True ∧ True ∧ 1 < 3 ∧ True ∧ True ∧ True ∧ True) ⟨[U6, .ptr 0 0, (B6 false), (I6 (IntKind.wrap IntKind.i64 (leftL room l i - (↑(List.length (List.getD l i fi0).d) : Int)))), U6, .ptr 1 0] ++ UU 22 ++ [.sl (fisc l) (List.length l) .any, (I6 (↑(List.length l) : Int)), (I6 (↑i : Int))] ++ UU 43 ++ [(B6 (decide (ltB (List.getD l i fi0).nm (List.getD l (i - 1) fi0).nm) || decide ((List.getD l i fi0).nm = (List.getD l (i - 1) fi0).nm))), (I6 (leftL room l i)), .ptr 1 1, .sl (u8s (List.getD l i fi0).d) (List.length (List.getD l i fi0).d) .any, (I6 (↑(List.length (List.getD l i fi0).d) : Int)), (I6 (IntKind.wrap IntKind.i64 (leftL room l i - (↑(List.length (List.getD l i fi0).d) : Int)))), .undef], [⟨[.sl (fisc l) (List.length l) .any, (I6 room), (I6 arm), (B6 dead)], 4, .fresh⟩, ⟨[(S6 ((List.getD l i fi0).nm)), .sl (u8s (List.getD l i fi0).d) (List.length (List.getD l i fi0).d) .any, (I6 ((List.getD l i fi0).sf))], 3, .fresh⟩]⟩ (by kernel_rfl) ⟨trivial, trivial, (by omega), trivial, trivial, trivial, trivial⟩ ?_
                        rw [IntWalk.i64_in (leftL room l i - (↑(List.length (List.getD l i fi0).d) : Int)) (by omega)]
                        refine KL ([5] ++ NN 74 6) ⟨[U6, .ptr 0 0, (B6 false), (I6 (leftL room l i - (↑(List.length (List.getD l i fi0).d) : Int)))] ++ UU 24 ++ [.sl (fisc l) (List.length l) .any, (I6 (↑(List.length l) : Int)), (I6 (↑i : Int))] ++ UU 50, [⟨[.sl (fisc l) (List.length l) .any, (I6 room), (I6 arm), (B6 dead)], 4, .fresh⟩, ⟨[(S6 ((List.getD l i fi0).nm)), .sl (u8s (List.getD l i fi0).d) (List.length (List.getD l i fi0).d) .any, (I6 ((List.getD l i fi0).sf))], 3, .fresh⟩]⟩ ?_
                        refine AWP.reg ?_
                        refine DerQ.run (TT 2) ⟨[U6, .ptr 0 0, (B6 false), (I6 (leftL room l i - (↑(List.length (List.getD l i fi0).d) : Int)))] ++ UU 24 ++ [.sl (fisc l) (List.length l) .any, (I6 (↑(List.length l) : Int)), (I6 (IntKind.wrap IntKind.i64 ((↑i : Int) + 1)))] ++ UU 49 ++ [(I6 (IntKind.wrap IntKind.i64 ((↑i : Int) + 1)))], [⟨[.sl (fisc l) (List.length l) .any, (I6 room), (I6 arm), (B6 dead)], 4, .fresh⟩, ⟨[(S6 ((List.getD l i fi0).nm)), .sl (u8s (List.getD l i fi0).d) (List.length (List.getD l i fi0).d) .any, (I6 ((List.getD l i fi0).sf))], 3, .fresh⟩]⟩ (by kernel_rfl) (tt 2) ?_
                        rw [IntWalk.i64_in ((↑i : Int) + 1) (by omega)]
                        (exact ⟨_, by omega, _, Weak.cut 1 (by kernel_rfl) (by kernel_rfl) (by simp) (by simp [ltAll, AVal.refLt]) (by simp [dataAll, AVal.data]), i + 1, rfl, by omega, by show 0 ≤ leftL room l i - _ ∧ leftL room l i - _ ≤ _; omega, succ_all hd ⟨by assumption, by omega, by omega, by omega, fun h0 => by first | (exfalso; omega) | exact nle (by assumption)⟩, rfl⟩; done)
                  · have h9' := of_decide_eq_true h9
                    refine DerX.preI 15 ((True) ∧ (True)) (by intro ext; kernel_rfl) ⟨trivial, trivial⟩ ?_
                    refine DerX.nil ?_
                    refine KL ([4] ++ NN 35 39) ⟨[U6, .ptr 0 0, (B6 false), (I6 (leftL room l i)), U6, .ptr 1 0] ++ UU 22 ++ [.sl (fisc l) (List.length l) .any, (I6 (↑(List.length l) : Int)), (I6 (↑i : Int))] ++ UU 43 ++ [(B6 true)] ++ UU 6, [⟨[.sl (fisc l) (List.length l) .any, (I6 room), (I6 arm), (B6 dead)], 4, .fresh⟩, ⟨[(S6 ((List.getD l i fi0).nm)), .sl (u8s (List.getD l i fi0).d) (List.length (List.getD l i fi0).d) .any, (I6 ((List.getD l i fi0).sf))], 3, .fresh⟩]⟩ ?_
                    refine CN true (fun _ => ?_) (fun h => nomatch h)
                    refine SQ (RT 1 ?_)
                    refine AWP.ret ?_
                    refine FI (B6 false) ?_
                    refine Shrink.all ?_ rfl
                    (exact dec_no (fun h => by have h2 := h.2.2.2.2 i (by omega); unfold okF at h2; omega); done)
                · have h8' := of_decide_eq_true h8
                  refine DerX.preI 22 ((True) ∧ ((True) ∧ ((True) ∧ (True)))) (by intro ext; kernel_rfl) ⟨trivial, ⟨trivial, ⟨trivial, trivial⟩⟩⟩ ?_
                  refine DerX.nil ?_
                  refine KL ([4] ++ NN 35 39) ⟨[U6, .ptr 0 0, (B6 false), (I6 (leftL room l i)), U6, .ptr 1 0] ++ UU 22 ++ [.sl (fisc l) (List.length l) .any, (I6 (↑(List.length l) : Int)), (I6 (↑i : Int))] ++ UU 43 ++ [(B6 true)] ++ UU 6, [⟨[.sl (fisc l) (List.length l) .any, (I6 room), (I6 arm), (B6 dead)], 4, .fresh⟩, ⟨[(S6 ((List.getD l i fi0).nm)), .sl (u8s (List.getD l i fi0).d) (List.length (List.getD l i fi0).d) .any, (I6 ((List.getD l i fi0).sf))], 3, .fresh⟩]⟩ ?_
                  refine CN true (fun _ => ?_) (fun h => nomatch h)
                  refine SQ (RT 1 ?_)
                  refine AWP.ret ?_
                  refine FI (B6 false) ?_
                  refine Shrink.all ?_ rfl
                  (exact dec_no (fun h => by have h2 := h.2.2.2.2 i (by omega); unfold okF at h2; omega); done)
              · have h7' := of_decide_eq_true h7
                refine DerX.preI 30 ((True) ∧ ((True) ∧ ((True) ∧ ((True) ∧ ((True) ∧ (True)))))) (by intro ext; kernel_rfl) ⟨trivial, ⟨trivial, ⟨trivial, ⟨trivial, ⟨trivial, trivial⟩⟩⟩⟩⟩ ?_
                refine DerX.nil ?_
                refine KL ([4] ++ NN 35 39) ⟨[U6, .ptr 0 0, (B6 false), (I6 (leftL room l i)), U6, .ptr 1 0] ++ UU 22 ++ [.sl (fisc l) (List.length l) .any, (I6 (↑(List.length l) : Int)), (I6 (↑i : Int))] ++ UU 43 ++ [(B6 true)] ++ UU 6, [⟨[.sl (fisc l) (List.length l) .any, (I6 room), (I6 arm), (B6 dead)], 4, .fresh⟩, ⟨[(S6 ((List.getD l i fi0).nm)), .sl (u8s (List.getD l i fi0).d) (List.length (List.getD l i fi0).d) .any, (I6 ((List.getD l i fi0).sf))], 3, .fresh⟩]⟩ ?_
                refine CN true (fun _ => ?_) (fun h => nomatch h)
                refine SQ (RT 1 ?_)
                refine AWP.ret ?_
                refine FI (B6 false) ?_
                refine Shrink.all ?_ rfl
                (exact dec_no (fun h => by have h2 := h.2.2.2.2 i (by omega); unfold okF at h2; omega); done)
            · have h6' := h6
              simp only [Bool.and_eq_true, Bool.and_eq_false_iff, Bool.or_eq_true, Bool.or_eq_false_iff, Bool.not_eq_true', Bool.not_eq_false', beq_iff_eq, beq_eq_false_iff_ne, decide_eq_true_eq, decide_eq_false_iff_not, ne_eq] at h6'
              refine DerX.preI 35 ((True) ∧ ((True) ∧ ((True) ∧ ((True) ∧ ((True) ∧ ((True) ∧ ((True) ∧ (True)))))))) (by intro ext; kernel_rfl) ⟨trivial, ⟨trivial, ⟨trivial, ⟨trivial, ⟨trivial, ⟨trivial, ⟨trivial, trivial⟩⟩⟩⟩⟩⟩⟩ ?_
              refine DerX.nil ?_
              refine KL ([4] ++ NN 35 39) ⟨[U6, .ptr 0 0, (B6 false), (I6 (leftL room l i)), U6, .ptr 1 0] ++ UU 22 ++ [.sl (fisc l) (List.length l) .any, (I6 (↑(List.length l) : Int)), (I6 (↑i : Int))] ++ UU 43 ++ [(B6 true)] ++ UU 6, [⟨[.sl (fisc l) (List.length l) .any, (I6 room), (I6 arm), (B6 dead)], 4, .fresh⟩, ⟨[(S6 ((List.getD l i fi0).nm)), .sl (u8s (List.getD l i fi0).d) (List.length (List.getD l i fi0).d) .any, (I6 ((List.getD l i fi0).sf))], 3, .fresh⟩]⟩ ?_
              refine CN true (fun _ => ?_) (fun h => nomatch h)
              refine SQ (RT 1 ?_)
              refine AWP.ret ?_
              refine FI (B6 false) ?_
              refine Shrink.all ?_ rfl
              (exact dec_no (fun h => absurd (h.2.2.2.2 i (by omega)).1 (by assumption)); done)
          · have h5' := of_decide_eq_false h5
            refine AWP.exit ?_
            refine AWP.seq (KL [1, 3, 28, 29, 30, 31] ⟨[U6, U6, (B6 false)] ++ UU 78, [⟨[.sl (fisc l) (List.length l) .any, (I6 room), (I6 arm), (B6 dead)], 4, .fresh⟩]⟩ ?_)
            refine AWP.reg (RT 1 ?_)
            refine AWP.ret ?_
            refine FI (B6 true) ?_
            refine Shrink.all ?_ rfl
            (exact dec_yes ⟨by omega, by omega, by omega, by omega, fun j hj => hd j (by omega)⟩; done)
      · have h3' := of_decide_eq_true h3
        refine RT 1 ?_
        refine KL (NN 6 18) ⟨[U6, .ptr 0 0, (B6 false)] ++ UU 21 ++ [(B6 true)] ++ UU 56, [⟨[.sl (fisc l) (List.length l) .any, (I6 room), (I6 arm), (B6 dead)], 4, .fresh⟩]⟩ ?_
        refine CN true (fun _ => ?_) (fun h => nomatch h)
        refine SQ (RT 1 ?_)
        refine AWP.ret ?_
        refine FI (B6 false) ?_
        refine Shrink.all ?_ rfl
        (exact dec_no (fun h => by have := h.1; have := h.2.1; have := h.2.2.1; have := h.2.2.2.1; omega); done)
    · have h2' := of_decide_eq_true h2
      refine RT 3 ?_
      refine KL (NN 6 18) ⟨[U6, .ptr 0 0, (B6 false)] ++ UU 21 ++ [(B6 true)] ++ UU 56, [⟨[.sl (fisc l) (List.length l) .any, (I6 room), (I6 arm), (B6 dead)], 4, .fresh⟩]⟩ ?_
      refine CN true (fun _ => ?_) (fun h => nomatch h)
      refine SQ (RT 1 ?_)
      refine AWP.ret ?_
      refine FI (B6 false) ?_
      refine Shrink.all ?_ rfl
      (exact dec_no (fun h => by have := h.1; have := h.2.1; have := h.2.2.1; have := h.2.2.2.1; omega); done)
  · have h1' := of_decide_eq_true h1
    refine RT 5 ?_
    refine KL (NN 6 18) ⟨[U6, .ptr 0 0, (B6 false)] ++ UU 21 ++ [(B6 true)] ++ UU 56, [⟨[.sl (fisc l) (List.length l) .any, (I6 room), (I6 arm), (B6 dead)], 4, .fresh⟩]⟩ ?_
    refine CN true (fun _ => ?_) (fun h => nomatch h)
    refine SQ (RT 1 ?_)
    refine AWP.ret ?_
    refine FI (B6 false) ?_
    refine Shrink.all ?_ rfl
    (exact dec_no (fun h => by have := h.1; have := h.2.1; have := h.2.2.1; have := h.2.2.2.1; omega); done)
theorem new_ok (room : Int) (h : 0 ≤ room ∧ room ≤ 1048576) : EvD Try.prog 40 [.sc (.int .i64 room)] (.tup [.agg [.sl (fisc []) 0 .any, .sc (.int .i64 room), .sc (.int .i64 (-1)), .sc (.bool false)], .sc (.int .i64 0)]) := by
  refine EvD.body Try.func40 rfl (by simp [dataAll, AVal.data, *]) (by simp [dataAll, AVal.data, *]) ?_
  refine AWP.seq ?_
  refine TO ⟨[(I6 room)] ++ UU 12, []⟩ ?_
  refine AWP.reg (RT 2 ?_)
  refine AWP.seq (AWP.seq ?_)
  refine TO ⟨[(I6 room), U6, .ptr 0 0, (I6 0)] ++ UU 9, [⟨[.sl [] 0 .nil, (I6 0), (I6 0), (B6 false)], 4, .fresh⟩]⟩ ?_
  refine AWP.reg (PT 3 3 ?_)
  refine DerQ.to ⟨[(I6 room), U6, .ptr 0 0, (I6 0), (I6 room), (B6 (decide (room < 0))), (B6 (decide (room < 0)))] ++ UU 6, [⟨[.sl [] 0 .nil, (I6 0), (I6 0), (B6 false)], 4, .fresh⟩]⟩ (by kernel_rfl) ?_
  cases h1 : (decide (room < 0))
  · have h1' := of_decide_eq_false h1
    refine RT 3 ?_
    refine KL (NN 4 5) ⟨[(I6 room), U6, .ptr 0 0, (I6 0)] ++ UU 5 ++ [(B6 (decide (room > 1048576))), U6, U6, .undef], [⟨[.sl [] 0 .nil, (I6 0), (I6 0), (B6 false)], 4, .fresh⟩]⟩ ?_
    refine CN (decide (room > 1048576)) (fun h2 => ?_) (fun h2 => ?_)
    · have h2' := of_decide_eq_true h2
      exfalso; omega
    · have h2' := of_decide_eq_false h2
      refine AWP.skip (SQ (RI (True ∧ True ∧ 4 ≤ 4 ∧ True ∧ True) ⟨trivial, trivial, (by omega), trivial, trivial⟩ ?_))
      refine AWP.ret ?_
      refine FI (.tup [.agg [.sl [] 0 .nil, (I6 room), (I6 (-1)), (B6 false)], (I6 0)]) ?_
      refine Shrink.dataK [] (True) (.tup [.agg [.sl [] 0 .nil, (I6 room), (I6 (-1)), (B6 false)], (I6 0)]) (by kernel_rfl) trivial ?_ rfl
      kernel_rfl
  · have h1' := of_decide_eq_true h1
    exfalso; omega
theorem new_no (room : Int) (h : ¬ (0 ≤ room ∧ room ≤ 1048576)) : EvD Try.prog 40 [.sc (.int .i64 room)] (.tup [.agg [.sl (fisc []) 0 .any, .sc (.int .i64 0), .sc (.int .i64 0), .sc (.bool false)], .sc (.int .i64 2)]) := by
  refine EvD.body Try.func40 rfl (by simp [dataAll, AVal.data, *]) (by simp [dataAll, AVal.data, *]) ?_
  refine AWP.seq ?_
  refine TO ⟨[(I6 room)] ++ UU 12, []⟩ ?_
  refine AWP.reg (RT 2 ?_)
  refine AWP.seq (AWP.seq ?_)
  refine TO ⟨[(I6 room), U6, .ptr 0 0, (I6 0)] ++ UU 9, [⟨[.sl [] 0 .nil, (I6 0), (I6 0), (B6 false)], 4, .fresh⟩]⟩ ?_
  refine AWP.reg (PT 3 3 ?_)
  refine DerQ.to ⟨[(I6 room), U6, .ptr 0 0, (I6 0), (I6 room), (B6 (decide (room < 0))), (B6 (decide (room < 0)))] ++ UU 6, [⟨[.sl [] 0 .nil, (I6 0), (I6 0), (B6 false)], 4, .fresh⟩]⟩ (by kernel_rfl) ?_
  cases h1 : (decide (room < 0))
  · have h1' := of_decide_eq_false h1
    refine RT 3 ?_
    refine KL (NN 4 5) ⟨[(I6 room), U6, .ptr 0 0, (I6 0)] ++ UU 5 ++ [(B6 (decide (room > 1048576))), U6, U6, .undef], [⟨[.sl [] 0 .nil, (I6 0), (I6 0), (B6 false)], 4, .fresh⟩]⟩ ?_
    refine CN (decide (room > 1048576)) (fun h2 => ?_) (fun h2 => ?_)
    · have h2' := of_decide_eq_true h2
      refine SQ (RI (True ∧ 4 ≤ 4 ∧ True ∧ True) ⟨trivial, (by omega), trivial, trivial⟩ ?_)
      refine AWP.ret ?_
      refine FI (.tup [.agg [.sl [] 0 .nil, (I6 0), (I6 0), (B6 false)], (I6 2)]) ?_
      refine Shrink.dataK [] (True) (.tup [.agg [.sl [] 0 .nil, (I6 0), (I6 0), (B6 false)], (I6 2)]) (by kernel_rfl) trivial ?_ rfl
      kernel_rfl
    · have h2' := of_decide_eq_false h2
      exfalso; omega
  · have h1' := of_decide_eq_true h1
    refine RT 1 ?_
    refine KL (NN 4 5) ⟨[(I6 room), U6, .ptr 0 0, (I6 0)] ++ UU 5 ++ [(B6 true), U6, U6, .undef], [⟨[.sl [] 0 .nil, (I6 0), (I6 0), (B6 false)], 4, .fresh⟩]⟩ ?_
    refine CN true (fun _ => ?_) (fun h => nomatch h)
    refine SQ (RI (True ∧ 4 ≤ 4 ∧ True ∧ True) ⟨trivial, (by omega), trivial, trivial⟩ ?_)
    refine AWP.ret ?_
    refine FI (.tup [.agg [.sl [] 0 .nil, (I6 0), (I6 0), (B6 false)], (I6 2)]) ?_
    refine Shrink.dataK [] (True) (.tup [.agg [.sl [] 0 .nil, (I6 0), (I6 0), (B6 false)], (I6 2)]) (by kernel_rfl) trivial ?_ rfl
    kernel_rfl
end Go.Dk
