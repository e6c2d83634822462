/- Walks and laws. -/
import Derived.Test.YtmcjdeiicbgmhabChB6
import Derived.Test.YtmcjdeiicbgmhabLibB
set_option maxRecDepth 100000
set_option maxHeartbeats 0
set_option linter.unusedSimpArgs false
set_option linter.unusedVariables false
namespace Go.Chu
open Go Go.Abs Go.Proofs
abbrev cag (f m o : Int) (l : List (List Int)) : AVal := .agg [.sc (.int .i64 f), .sc (.int .i64 m), .sc (.int .i64 o), .sl (bss l) l.length .any]
theorem piece_both (f m o n to : Int) (l : List (List Int)) (hx : ∀ i, i < l.length → (l.getD i []).length ≤ 1000000) : ∃ (k f' t' m' n' o' : Int) (y : List Int) (ok : Bool),
    EvD Try.prog 12 [.agg [.sc (.int .i64 f), .sc (.int .i64 m), .sc (.int .i64 o), .sl (bss l) l.length .any], .sc (.int .i64 n), .sc (.int .i64 to)] (.tup [.agg (msgl (pieceM k f' t' m' n' o' y)), .sc (.bool ok)]) ∧
    EvD Try.prog 13 [.agg [.sc (.int .i64 f), .sc (.int .i64 m), .sc (.int .i64 o), .sl (bss l) l.length .any], .sc (.int .i64 n), .sc (.int .i64 to)] (.tup [.agg (msgl (pieceM k f' t' m' n' o' y)), .sc (.bool ok)]) := by
  by_cases h : (0 ≤ n ∧ n < o) ∧ n < l.length
  · exact ⟨_, _, _, _, _, _, _, _, piece_yes .on f m o n to l hx h, r_piece_yes .on f m o n to l h⟩
  · exact ⟨_, _, _, _, _, _, _, _, piece_no .on f m o n to l h, r_piece_no .on f m o n to l h⟩
theorem take_both (g : Gate) (M : MsgD) (f m o : Int) (l : List (List Int)) (hl : l.length ≤ 5000) (hx : M.data.length ≤ 1000000) : ∃ (f1 m1 o1 : Int) (l1 : List (List Int)) (ok : Bool), l1.length ≤ 1000000 ∧
    EvD Try.prog 14 [.agg [.sc (.int .i64 f), .sc (.int .i64 m), .sc (.int .i64 o), .sl (bss l) l.length .any], .agg (msgc g M)] (.tup [.agg [.sc (.int .i64 f1), .sc (.int .i64 m1), .sc (.int .i64 o1), .sl (bss l1) l1.length .any], .sc (.bool ok)]) ∧
    EvD Try.prog 15 [.agg [.sc (.int .i64 f), .sc (.int .i64 m), .sc (.int .i64 o), .sl (bss l) l.length .any], .agg (msgc g M)] (.tup [.agg [.sc (.int .i64 f1), .sc (.int .i64 m1), .sc (.int .i64 o1), .sl (bss l1) l1.length .any], .sc (.bool ok)]) := by
  by_cases h : M.kind ≠ 4 ∨ M.n < 0 ∨ M.n ≥ M.cnt ∨ M.cnt > 4096 ∨ (M.n ≠ 0 ∧ (M.src ≠ f ∨ M.num ≠ m ∨ M.cnt ≠ o ∨ M.n ≠ l.length))
  · exact ⟨f, m, o, l, false, by omega, take_no g M f m o l h, r_take_no g M f m o l h⟩
  · by_cases h0 : M.n = 0
    · exact ⟨M.src, M.num, M.cnt, [M.data], true, by simp, take_first g M f m o l hx (by omega), r_take_first g M f m o l (by omega)⟩
    · have e1 : M.src = f := by omega
      have e2 : M.num = m := by omega
      have e3 : M.cnt = o := by omega
      subst e1 e2 e3
      refine ⟨M.src, M.num, M.cnt, l ++ [M.data], true, by simp; omega, ?_, ?_⟩
      · rw [List.length_append]; exact take_next g M l hl hx (by omega)
      · rw [List.length_append]; exact r_take_next g M l hl (by omega)
theorem bts_flat {l : List (List Int)} (h : ∀ x ∈ l, Bts x) : Bts l.flatten := by
  intro y hy
  obtain ⟨x, hx, hy⟩ := List.mem_flatten.1 hy
  exact h x hx y hy
theorem flat_le (l : List (List Int)) (h : ∀ i, i < l.length → (l.getD i []).length ≤ 2000) : l.flatten.length ≤ l.length * 2000 := by
  induction l with
  | nil => simp
  | cons a l ih =>
    have h0 := h 0 (by simp)
    have h1 := ih (fun i hi => by have := h (i + 1) (by simpa using hi); simpa using this)
    simp only [List.getD_cons_zero] at h0
    simp only [List.flatten_cons, List.length_append, List.length_cons]
    omega
theorem chunkTells (g : Gate) (b : List Int) (hb : Bts b) (f m o : Int) (l : List (List Int)) (hlb : ∀ x ∈ l, Bts x) (x : MT) (n to : Int) : EvD Try.prog 3 [.sl (u8s b) b.length .any, .agg [.sc (.int .i64 f), .sc (.int .i64 m), .sc (.int .i64 o), .sl (bss l) l.length .any], .agg (msgc g (x.toM g)), .sc (.int .i64 n), .sc (.int .i64 to)] (.sc (.bool true)) := by
  by_cases hg : (b.length ≤ 6000 ∧ (l.length ≤ 40 ∧ ∀ i, i < l.length → (l.getD i []).length ≤ 2000)) ∧ fewM x
  · obtain ⟨⟨h1, h2, h3⟩, h4⟩ := hg
    have f1 := r_few f m o l
    rw [decide_eq_true (⟨h2, h3⟩ : l.length ≤ 40 ∧ ∀ i, i < l.length → (l.getD i []).length ≤ 2000)] at f1
    have f2 := r_mfew g x
    rw [decide_eq_true h4] at f2
    have hfl := flat_le l h3
    obtain ⟨k, f', t', m', n', o', y, ok, p1, p2⟩ := piece_both f m o n to l (fun i hi => by have := h3 i hi; omega)
    obtain ⟨f3, m3, o3, l3, ok3, q0, q1, q2⟩ := take_both g (x.toM g) f m o l (by omega) (by have := h4.2.1; show x.data.length ≤ _; omega)
    have s1 := split b (by omega)
    have s2 := r_split b (by omega)
    have b1 := begins b (by omega) n to
    have b2 := r_begins b (by omega) n to
    have d1 := done f m o l
    have d2 := r_done f m o l
    have j1 := join f m o l (by omega) (by omega)
    have j2 := r_join f m o l (by omega) (by omega)
    have e1 := r_msame k f' t' m' n' o' y
    have e2 := r_same f3 m3 o3 l3 q0
    have hnp := npn_spec b.length
    have e3 := r_same n to (np b) (pieces b) (by rw [pieces_length]; show npn _ ≤ _; omega)
    have e4 := lists (pieces b) (by rw [pieces_length]; show npn _ ≤ _; omega)
    rw [pieces_length] at e3 e4
    have y1 := Go.Num.n_bytes l.flatten l.flatten l.flatten.length l.flatten.length (bts_flat hlb) (bts_flat hlb) rfl rfl
    rw [beq_self_eq_true] at y1
    have hd : dataAll (msgc g (x.toM g)) = true := msgc_data _ _
    refine EvD.body Try.func3 rfl (by simp [dataAll, AVal.data]) rfl ?_
    refine AWP.seq ?_
    refine TO ⟨[.sl (u8s b) (List.length b) .any, .agg [(I6 f), (I6 m), (I6 o), .sl (bss l) (List.length l) .any], .agg (msgc g (MT.toM g x)), (I6 n), (I6 to)] ++ UU 107, []⟩ ?_
    refine AWP.reg (RT 3 ?_)
    refine AWP.seq (AWP.seq (KL [1, 2] ⟨[.sl (u8s b) (List.length b) .any, U6, U6, (I6 n), (I6 to), U6, .ptr 0 0, .ptr 1 0, U6, U6, (B6 false)] ++ UU 101, [⟨[(I6 f), (I6 m), (I6 o), .sl (bss l) (List.length l) .any], 4, .fresh⟩, ⟨msgc g (MT.toM g x), 56, .fresh⟩]⟩ ?_))
    refine AWP.reg (PT 4 4 ?_)
    refine DerQ.to ⟨[.sl (u8s b) (List.length b) .any, U6, U6, (I6 n), (I6 to), U6, .ptr 0 0, .ptr 1 0, U6, U6, (B6 false)] ++ UU 8 ++ [.sl (u8s b) (List.length b) .any, (I6 (↑(List.length b) : Int)), (B6 (decide ((↑(List.length b) : Int) > 6000))), (B6 (decide ((↑(List.length b) : Int) > 6000)))] ++ UU 89, [⟨[(I6 f), (I6 m), (I6 o), .sl (bss l) (List.length l) .any], 4, .fresh⟩, ⟨msgc g (MT.toM g x), 56, .fresh⟩]⟩ (by kernel_rfl) ?_
    cases h5 : (decide ((↑(List.length b) : Int) > 6000))
    · have h5' := of_decide_eq_false h5
      refine PI 1 (4 ≤ 4 ∧ True) ⟨(by omega), trivial⟩ ?_
      refine CD (f1) ?_
      refine DerQ.pre 4 (True ∧ True ∧ True ∧ (56 ≤ List.length (msgc g (MT.toM g x))) ∧ True) ⟨[.sl (u8s b) (List.length b) .any, U6, U6, (I6 n), (I6 to), U6, .ptr 0 0, .ptr 1 0, U6, U6, (B6 false)] ++ UU 8 ++ [.sl (u8s b) (List.length b) .any, (I6 (↑(List.length b) : Int)), (B6 false), (B6 false), .agg [(I6 f), (I6 m), (I6 o), .sl (bss l) (List.length l) .any], (B6 true), (B6 false), (B6 false), (B6 false), .agg (List.take 56 (List.drop 0 (msgc g (MT.toM g x))))] ++ UU 83, [⟨[(I6 f), (I6 m), (I6 o), .sl (bss l) (List.length l) .any], 4, .fresh⟩, ⟨msgc g (MT.toM g x), 56, .fresh⟩]⟩ (by kernel_rfl) ⟨trivial, trivial, trivial, (by simp), trivial⟩ ?_
      rw [List.drop_zero]
      rw [Go.Chu.msg_take (g) (MT.toM g x)]
      refine CD (f2) ?_
      refine RT 2 ?_
      refine KL (NN 19 12) ⟨[.sl (u8s b) (List.length b) .any, U6, U6, (I6 n), (I6 to), U6, .ptr 0 0, .ptr 1 0, U6, U6, (B6 false)] ++ UU 20 ++ [(B6 false)] ++ UU 80, [⟨[(I6 f), (I6 m), (I6 o), .sl (bss l) (List.length l) .any], 4, .fresh⟩, ⟨msgc g (MT.toM g x), 56, .fresh⟩]⟩ ?_
      refine CN false (fun h => nomatch h) (fun _ => ?_)
      refine AWP.skip (SQ (PI 3 (4 ≤ 4 ∧ True ∧ True ∧ True) ⟨(by omega), trivial, trivial, trivial⟩ ?_))
      refine CD (p1) ?_
      refine RI (True ∧ True ∧ True ∧ True ∧ 56 ≤ 56 ∧ True ∧ True) ⟨trivial, trivial, trivial, trivial, (by omega), trivial, trivial⟩ ?_
      refine AWP.seq (KL ([31] ++ NN 33 7) ⟨[.sl (u8s b) (List.length b) .any, U6, U6, (I6 n), (I6 to), U6, .ptr 0 0, .ptr 1 0, U6, U6, (B6 false), .ptr 2 0, (B6 ok)] ++ UU 99, [⟨[(I6 f), (I6 m), (I6 o), .sl (bss l) (List.length l) .any], 4, .fresh⟩, ⟨msgc g (MT.toM g x), 56, .fresh⟩, ⟨[(I6 k), (I6 (f')), (I6 (t')), (I6 0), (I6 0), (I6 0), (I6 0), (I6 0), (I6 0), (I6 0), (I6 0), (I6 0), (I6 0), (I6 0), (I6 0), (I6 0), (I6 0), (I6 0), (I6 0), .sl [] 0 .any, (I6 0), (I6 0), (I6 0), (I6 0), (I6 0), (I6 0), (I6 0), (I6 0), (I6 0), (I6 0), (I6 0), (I6 0), (I6 0), (I6 0), (I6 0), (I6 0), (I6 0), (I6 0), (I6 0), (I6 0), (I6 0), (I6 0), (I6 0), (I6 0), (I6 0), (I6 0), (B6 false), (I6 (m')), (I6 (n')), (I6 (o')), .sl (u8s y) (List.length y) .any, (I6 0), .sl [] 0 .any, (I6 0), .sl [] 0 .any, .sl [] 0 .any], 56, .fresh⟩]⟩ ?_)
      refine AWP.reg (PI 3 (4 ≤ 4 ∧ True ∧ True ∧ True) ⟨(by omega), trivial, trivial, trivial⟩ ?_)
      refine CD (p2) ?_
      refine RI (True ∧ True ∧ True ∧ True ∧ 56 ≤ 56 ∧ True ∧ True) ⟨trivial, trivial, trivial, trivial, (by omega), trivial, trivial⟩ ?_
      refine AWP.seq (KL (NN 40 7) ⟨[.sl (u8s b) (List.length b) .any, U6, U6, (I6 n), (I6 to), U6, .ptr 0 0, .ptr 1 0, U6, U6, (B6 false), .ptr 2 0, (B6 ok), .ptr 3 0, (B6 ok)] ++ UU 97, [⟨[(I6 f), (I6 m), (I6 o), .sl (bss l) (List.length l) .any], 4, .fresh⟩, ⟨msgc g (MT.toM g x), 56, .fresh⟩, ⟨[(I6 k), (I6 (f')), (I6 (t')), (I6 0), (I6 0), (I6 0), (I6 0), (I6 0), (I6 0), (I6 0), (I6 0), (I6 0), (I6 0), (I6 0), (I6 0), (I6 0), (I6 0), (I6 0), (I6 0), .sl [] 0 .any, (I6 0), (I6 0), (I6 0), (I6 0), (I6 0), (I6 0), (I6 0), (I6 0), (I6 0), (I6 0), (I6 0), (I6 0), (I6 0), (I6 0), (I6 0), (I6 0), (I6 0), (I6 0), (I6 0), (I6 0), (I6 0), (I6 0), (I6 0), (I6 0), (I6 0), (I6 0), (B6 false), (I6 (m')), (I6 (n')), (I6 (o')), .sl (u8s y) (List.length y) .any, (I6 0), .sl [] 0 .any, (I6 0), .sl [] 0 .any, .sl [] 0 .any], 56, .fresh⟩, ⟨[(I6 k), (I6 (f')), (I6 (t')), (I6 0), (I6 0), (I6 0), (I6 0), (I6 0), (I6 0), (I6 0), (I6 0), (I6 0), (I6 0), (I6 0), (I6 0), (I6 0), (I6 0), (I6 0), (I6 0), .sl [] 0 .any, (I6 0), (I6 0), (I6 0), (I6 0), (I6 0), (I6 0), (I6 0), (I6 0), (I6 0), (I6 0), (I6 0), (I6 0), (I6 0), (I6 0), (I6 0), (I6 0), (I6 0), (I6 0), (I6 0), (I6 0), (I6 0), (I6 0), (I6 0), (I6 0), (I6 0), (I6 0), (B6 false), (I6 (m')), (I6 (n')), (I6 (o')), .sl (u8s y) (List.length y) .any, (I6 0), .sl [] 0 .any, (I6 0), .sl [] 0 .any, .sl [] 0 .any], 56, .fresh⟩]⟩ ?_)
      refine AWP.reg ?_
      refine DerQ.pre 2 (4 ≤ 4 ∧ (56 ≤ List.length (msgc g (MT.toM g x))) ∧ True) ⟨[.sl (u8s b) (List.length b) .any, U6, U6, (I6 n), (I6 to), U6, .ptr 0 0, .ptr 1 0, U6, U6, (B6 false), .ptr 2 0, (B6 ok), .ptr 3 0, (B6 ok)] ++ UU 33 ++ [.agg [(I6 f), (I6 m), (I6 o), .sl (bss l) (List.length l) .any], .agg (List.take 56 (List.drop 0 (msgc g (MT.toM g x))))] ++ UU 62, [⟨[(I6 f), (I6 m), (I6 o), .sl (bss l) (List.length l) .any], 4, .fresh⟩, ⟨msgc g (MT.toM g x), 56, .fresh⟩, ⟨[(I6 k), (I6 (f')), (I6 (t')), (I6 0), (I6 0), (I6 0), (I6 0), (I6 0), (I6 0), (I6 0), (I6 0), (I6 0), (I6 0), (I6 0), (I6 0), (I6 0), (I6 0), (I6 0), (I6 0), .sl [] 0 .any, (I6 0), (I6 0), (I6 0), (I6 0), (I6 0), (I6 0), (I6 0), (I6 0), (I6 0), (I6 0), (I6 0), (I6 0), (I6 0), (I6 0), (I6 0), (I6 0), (I6 0), (I6 0), (I6 0), (I6 0), (I6 0), (I6 0), (I6 0), (I6 0), (I6 0), (I6 0), (B6 false), (I6 (m')), (I6 (n')), (I6 (o')), .sl (u8s y) (List.length y) .any, (I6 0), .sl [] 0 .any, (I6 0), .sl [] 0 .any, .sl [] 0 .any], 56, .fresh⟩, ⟨[(I6 k), (I6 (f')), (I6 (t')), (I6 0), (I6 0), (I6 0), (I6 0), (I6 0), (I6 0), (I6 0), (I6 0), (I6 0), (I6 0), (I6 0), (I6 0), (I6 0), (I6 0), (I6 0), (I6 0), .sl [] 0 .any, (I6 0), (I6 0), (I6 0), (I6 0), (I6 0), (I6 0), (I6 0), (I6 0), (I6 0), (I6 0), (I6 0), (I6 0), (I6 0), (I6 0), (I6 0), (I6 0), (I6 0), (I6 0), (I6 0), (I6 0), (I6 0), (I6 0), (I6 0), (I6 0), (I6 0), (I6 0), (B6 false), (I6 (m')), (I6 (n')), (I6 (o')), .sl (u8s y) (List.length y) .any, (I6 0), .sl [] 0 .any, (I6 0), .sl [] 0 .any, .sl [] 0 .any], 56, .fresh⟩]⟩ (by kernel_rfl) ⟨(by omega), (by simp), trivial⟩ ?_
      rw [List.drop_zero]
      rw [Go.Chu.msg_take (g) (MT.toM g x)]
      refine CD (q1) ?_
      refine RI (True ∧ True ∧ True ∧ True ∧ 4 ≤ 4 ∧ True ∧ True) ⟨trivial, trivial, trivial, trivial, (by omega), trivial, trivial⟩ ?_
      refine AWP.seq (KL (NN 47 6) ⟨[.sl (u8s b) (List.length b) .any, U6, U6, (I6 n), (I6 to), U6, .ptr 0 0, .ptr 1 0, U6, U6, (B6 false), .ptr 2 0, (B6 ok), .ptr 3 0, (B6 ok), .ptr 4 0, (B6 ok3)] ++ UU 95, [⟨[(I6 f), (I6 m), (I6 o), .sl (bss l) (List.length l) .any], 4, .fresh⟩, ⟨msgc g (MT.toM g x), 56, .fresh⟩, ⟨[(I6 k), (I6 (f')), (I6 (t')), (I6 0), (I6 0), (I6 0), (I6 0), (I6 0), (I6 0), (I6 0), (I6 0), (I6 0), (I6 0), (I6 0), (I6 0), (I6 0), (I6 0), (I6 0), (I6 0), .sl [] 0 .any, (I6 0), (I6 0), (I6 0), (I6 0), (I6 0), (I6 0), (I6 0), (I6 0), (I6 0), (I6 0), (I6 0), (I6 0), (I6 0), (I6 0), (I6 0), (I6 0), (I6 0), (I6 0), (I6 0), (I6 0), (I6 0), (I6 0), (I6 0), (I6 0), (I6 0), (I6 0), (B6 false), (I6 (m')), (I6 (n')), (I6 (o')), .sl (u8s y) (List.length y) .any, (I6 0), .sl [] 0 .any, (I6 0), .sl [] 0 .any, .sl [] 0 .any], 56, .fresh⟩, ⟨[(I6 k), (I6 (f')), (I6 (t')), (I6 0), (I6 0), (I6 0), (I6 0), (I6 0), (I6 0), (I6 0), (I6 0), (I6 0), (I6 0), (I6 0), (I6 0), (I6 0), (I6 0), (I6 0), (I6 0), .sl [] 0 .any, (I6 0), (I6 0), (I6 0), (I6 0), (I6 0), (I6 0), (I6 0), (I6 0), (I6 0), (I6 0), (I6 0), (I6 0), (I6 0), (I6 0), (I6 0), (I6 0), (I6 0), (I6 0), (I6 0), (I6 0), (I6 0), (I6 0), (I6 0), (I6 0), (I6 0), (I6 0), (B6 false), (I6 (m')), (I6 (n')), (I6 (o')), .sl (u8s y) (List.length y) .any, (I6 0), .sl [] 0 .any, (I6 0), .sl [] 0 .any, .sl [] 0 .any], 56, .fresh⟩, ⟨[(I6 f3), (I6 m3), (I6 o3), .sl (bss l3) (List.length l3) .any], 4, .fresh⟩]⟩ ?_)
      refine AWP.reg ?_
      refine DerQ.pre 2 (4 ≤ 4 ∧ (56 ≤ List.length (msgc g (MT.toM g x))) ∧ True) ⟨[.sl (u8s b) (List.length b) .any, U6, U6, (I6 n), (I6 to), U6, .ptr 0 0, .ptr 1 0, U6, U6, (B6 false), .ptr 2 0, (B6 ok), .ptr 3 0, (B6 ok), .ptr 4 0, (B6 ok3)] ++ UU 37 ++ [.agg [(I6 f), (I6 m), (I6 o), .sl (bss l) (List.length l) .any], .agg (List.take 56 (List.drop 0 (msgc g (MT.toM g x))))] ++ UU 56, [⟨[(I6 f), (I6 m), (I6 o), .sl (bss l) (List.length l) .any], 4, .fresh⟩, ⟨msgc g (MT.toM g x), 56, .fresh⟩, ⟨[(I6 k), (I6 (f')), (I6 (t')), (I6 0), (I6 0), (I6 0), (I6 0), (I6 0), (I6 0), (I6 0), (I6 0), (I6 0), (I6 0), (I6 0), (I6 0), (I6 0), (I6 0), (I6 0), (I6 0), .sl [] 0 .any, (I6 0), (I6 0), (I6 0), (I6 0), (I6 0), (I6 0), (I6 0), (I6 0), (I6 0), (I6 0), (I6 0), (I6 0), (I6 0), (I6 0), (I6 0), (I6 0), (I6 0), (I6 0), (I6 0), (I6 0), (I6 0), (I6 0), (I6 0), (I6 0), (I6 0), (I6 0), (B6 false), (I6 (m')), (I6 (n')), (I6 (o')), .sl (u8s y) (List.length y) .any, (I6 0), .sl [] 0 .any, (I6 0), .sl [] 0 .any, .sl [] 0 .any], 56, .fresh⟩, ⟨[(I6 k), (I6 (f')), (I6 (t')), (I6 0), (I6 0), (I6 0), (I6 0), (I6 0), (I6 0), (I6 0), (I6 0), (I6 0), (I6 0), (I6 0), (I6 0), (I6 0), (I6 0), (I6 0), (I6 0), .sl [] 0 .any, (I6 0), (I6 0), (I6 0), (I6 0), (I6 0), (I6 0), (I6 0), (I6 0), (I6 0), (I6 0), (I6 0), (I6 0), (I6 0), (I6 0), (I6 0), (I6 0), (I6 0), (I6 0), (I6 0), (I6 0), (I6 0), (I6 0), (I6 0), (I6 0), (I6 0), (I6 0), (B6 false), (I6 (m')), (I6 (n')), (I6 (o')), .sl (u8s y) (List.length y) .any, (I6 0), .sl [] 0 .any, (I6 0), .sl [] 0 .any, .sl [] 0 .any], 56, .fresh⟩, ⟨[(I6 f3), (I6 m3), (I6 o3), .sl (bss l3) (List.length l3) .any], 4, .fresh⟩]⟩ (by kernel_rfl) ⟨(by omega), (by simp), trivial⟩ ?_
      rw [List.drop_zero]
      rw [Go.Chu.msg_take (g) (MT.toM g x)]
      refine CD (q2) ?_
      refine RI (True ∧ True ∧ True ∧ True ∧ 4 ≤ 4 ∧ True ∧ True) ⟨trivial, trivial, trivial, trivial, (by omega), trivial, trivial⟩ ?_
      refine AWP.seq (KL ([7] ++ NN 53 6) ⟨[.sl (u8s b) (List.length b) .any, U6, U6, (I6 n), (I6 to), U6, .ptr 0 0, U6, U6, U6, (B6 false), .ptr 2 0, (B6 ok), .ptr 3 0, (B6 ok), .ptr 4 0, (B6 ok3), .ptr 5 0, (B6 ok3)] ++ UU 93, [⟨[(I6 f), (I6 m), (I6 o), .sl (bss l) (List.length l) .any], 4, .fresh⟩, ⟨msgc g (MT.toM g x), 56, .fresh⟩, ⟨[(I6 k), (I6 (f')), (I6 (t')), (I6 0), (I6 0), (I6 0), (I6 0), (I6 0), (I6 0), (I6 0), (I6 0), (I6 0), (I6 0), (I6 0), (I6 0), (I6 0), (I6 0), (I6 0), (I6 0), .sl [] 0 .any, (I6 0), (I6 0), (I6 0), (I6 0), (I6 0), (I6 0), (I6 0), (I6 0), (I6 0), (I6 0), (I6 0), (I6 0), (I6 0), (I6 0), (I6 0), (I6 0), (I6 0), (I6 0), (I6 0), (I6 0), (I6 0), (I6 0), (I6 0), (I6 0), (I6 0), (I6 0), (B6 false), (I6 (m')), (I6 (n')), (I6 (o')), .sl (u8s y) (List.length y) .any, (I6 0), .sl [] 0 .any, (I6 0), .sl [] 0 .any, .sl [] 0 .any], 56, .fresh⟩, ⟨[(I6 k), (I6 (f')), (I6 (t')), (I6 0), (I6 0), (I6 0), (I6 0), (I6 0), (I6 0), (I6 0), (I6 0), (I6 0), (I6 0), (I6 0), (I6 0), (I6 0), (I6 0), (I6 0), (I6 0), .sl [] 0 .any, (I6 0), (I6 0), (I6 0), (I6 0), (I6 0), (I6 0), (I6 0), (I6 0), (I6 0), (I6 0), (I6 0), (I6 0), (I6 0), (I6 0), (I6 0), (I6 0), (I6 0), (I6 0), (I6 0), (I6 0), (I6 0), (I6 0), (I6 0), (I6 0), (I6 0), (I6 0), (B6 false), (I6 (m')), (I6 (n')), (I6 (o')), .sl (u8s y) (List.length y) .any, (I6 0), .sl [] 0 .any, (I6 0), .sl [] 0 .any, .sl [] 0 .any], 56, .fresh⟩, ⟨[(I6 f3), (I6 m3), (I6 o3), .sl (bss l3) (List.length l3) .any], 4, .fresh⟩, ⟨[(I6 f3), (I6 m3), (I6 o3), .sl (bss l3) (List.length l3) .any], 4, .fresh⟩]⟩ ?_)
      refine AWP.drawX mixed (fun o => [60, 62, 63, 68, 72, 73, 78, 88, 97, 99, 104, 106, 107, 110].contains (o.dst.getD 0)) (by kernel_rfl) ?_
      refine DerX.quietI (True) (by intro ext; kernel_rfl) (by kernel_rfl) trivial ?_
      refine DerX.callDI (s1) ⟨by kernel_rfl, by kernel_rfl⟩ ?_
      refine DerX.quietI (True) (by intro ext; kernel_rfl) (by kernel_rfl) trivial ?_
      refine DerX.callDI (s2) ⟨by kernel_rfl, by kernel_rfl⟩ ?_
      refine DerX.callDI (e4) ⟨by kernel_rfl, by kernel_rfl⟩ ?_
      refine DerX.preI 4 ((True) ∧ ((True) ∧ ((True) ∧ ((True) ∧ (True))))) (by intro ext; kernel_rfl) ⟨trivial, ⟨trivial, ⟨trivial, ⟨trivial, trivial⟩⟩⟩⟩ ?_
      refine DerX.callDI (b1) ⟨by kernel_rfl, by kernel_rfl⟩ ?_
      refine DerX.preI 3 ((True) ∧ ((True) ∧ ((True) ∧ (True)))) (by intro ext; kernel_rfl) ⟨trivial, ⟨trivial, ⟨trivial, trivial⟩⟩⟩ ?_
      refine DerX.callDI (b2) ⟨by kernel_rfl, by kernel_rfl⟩ ?_
      refine DerX.callDI (e3) ⟨by kernel_rfl, by kernel_rfl⟩ ?_
      refine DerX.preI 4 ((True) ∧ ((True) ∧ (((56 : Nat) ≤ (56 : Nat)) ∧ (((56 : Nat) ≤ (56 : Nat)) ∧ (True))))) (by intro ext; kernel_rfl) ⟨trivial, ⟨trivial, ⟨(by omega), ⟨(by omega), trivial⟩⟩⟩⟩ ?_
      refine DerX.callDI (e1) ⟨by kernel_rfl, by kernel_rfl⟩ ?_
      refine DerX.preI 7 ((True) ∧ ((True) ∧ ((True) ∧ ((True) ∧ ((True) ∧ ((True) ∧ ((True) ∧ (True)))))))) (by intro ext; kernel_rfl) ⟨trivial, ⟨trivial, ⟨trivial, ⟨trivial, ⟨trivial, ⟨trivial, ⟨trivial, trivial⟩⟩⟩⟩⟩⟩⟩ ?_
      refine AWP.toX ⟨[.sl (u8s b) (List.length b) .any, U6, U6, (I6 n), (I6 to), U6, .ptr 0 0, U6, U6, U6, (B6 false), .ptr 2 0, (B6 ok), .ptr 3 0, (B6 ok), .ptr 4 0, (B6 ok3), .ptr 5 0, (B6 ok3)] ++ UU 40 ++ [.sl (u8s b) (List.length b) .any, .sl (bss (pieces b)) (np b) .any, .sl (u8s b) (List.length b) .any, .sl (bss (pieces b)) (np b) .any, (B6 true), (B6 true), .sl (u8s b) (List.length b) .any, (I6 n), (I6 to), .agg [(I6 n), (I6 to), (I6 (↑(np b) : Int)), .sl (bss (pieces b)) (np b) .any], .sl (u8s b) (List.length b) .any, (I6 n), (I6 to), .agg [(I6 n), (I6 to), (I6 (↑(np b) : Int)), .sl (bss (pieces b)) (np b) .any], (B6 true), (B6 true), (B6 true), .agg [(I6 k), (I6 (f')), (I6 (t')), (I6 0), (I6 0), (I6 0), (I6 0), (I6 0), (I6 0), (I6 0), (I6 0), (I6 0), (I6 0), (I6 0), (I6 0), (I6 0), (I6 0), (I6 0), (I6 0), .sl [] 0 .any, (I6 0), (I6 0), (I6 0), (I6 0), (I6 0), (I6 0), (I6 0), (I6 0), (I6 0), (I6 0), (I6 0), (I6 0), (I6 0), (I6 0), (I6 0), (I6 0), (I6 0), (I6 0), (I6 0), (I6 0), (I6 0), (I6 0), (I6 0), (I6 0), (I6 0), (I6 0), (B6 false), (I6 (m')), (I6 (n')), (I6 (o')), .sl (u8s y) (List.length y) .any, (I6 0), .sl [] 0 .any, (I6 0), .sl [] 0 .any, .sl [] 0 .any], .agg [(I6 k), (I6 (f')), (I6 (t')), (I6 0), (I6 0), (I6 0), (I6 0), (I6 0), (I6 0), (I6 0), (I6 0), (I6 0), (I6 0), (I6 0), (I6 0), (I6 0), (I6 0), (I6 0), (I6 0), .sl [] 0 .any, (I6 0), (I6 0), (I6 0), (I6 0), (I6 0), (I6 0), (I6 0), (I6 0), (I6 0), (I6 0), (I6 0), (I6 0), (I6 0), (I6 0), (I6 0), (I6 0), (I6 0), (I6 0), (I6 0), (I6 0), (I6 0), (I6 0), (I6 0), (I6 0), (I6 0), (I6 0), (B6 false), (I6 (m')), (I6 (n')), (I6 (o')), .sl (u8s y) (List.length y) .any, (I6 0), .sl [] 0 .any, (I6 0), .sl [] 0 .any, .sl [] 0 .any], (B6 true), (B6 true), (B6 true), (B6 ok), (B6 ok), (B6 (ok == ok)), (B6 (ok == ok)), (B6 (ok == ok))] ++ UU 26, [⟨[(I6 f), (I6 m), (I6 o), .sl (bss l) (List.length l) .any], 4, .fresh⟩, ⟨msgc g (MT.toM g x), 56, .fresh⟩, ⟨[(I6 k), (I6 (f')), (I6 (t')), (I6 0), (I6 0), (I6 0), (I6 0), (I6 0), (I6 0), (I6 0), (I6 0), (I6 0), (I6 0), (I6 0), (I6 0), (I6 0), (I6 0), (I6 0), (I6 0), .sl [] 0 .any, (I6 0), (I6 0), (I6 0), (I6 0), (I6 0), (I6 0), (I6 0), (I6 0), (I6 0), (I6 0), (I6 0), (I6 0), (I6 0), (I6 0), (I6 0), (I6 0), (I6 0), (I6 0), (I6 0), (I6 0), (I6 0), (I6 0), (I6 0), (I6 0), (I6 0), (I6 0), (B6 false), (I6 (m')), (I6 (n')), (I6 (o')), .sl (u8s y) (List.length y) .any, (I6 0), .sl [] 0 .any, (I6 0), .sl [] 0 .any, .sl [] 0 .any], 56, .fresh⟩, ⟨[(I6 k), (I6 (f')), (I6 (t')), (I6 0), (I6 0), (I6 0), (I6 0), (I6 0), (I6 0), (I6 0), (I6 0), (I6 0), (I6 0), (I6 0), (I6 0), (I6 0), (I6 0), (I6 0), (I6 0), .sl [] 0 .any, (I6 0), (I6 0), (I6 0), (I6 0), (I6 0), (I6 0), (I6 0), (I6 0), (I6 0), (I6 0), (I6 0), (I6 0), (I6 0), (I6 0), (I6 0), (I6 0), (I6 0), (I6 0), (I6 0), (I6 0), (I6 0), (I6 0), (I6 0), (I6 0), (I6 0), (I6 0), (B6 false), (I6 (m')), (I6 (n')), (I6 (o')), .sl (u8s y) (List.length y) .any, (I6 0), .sl [] 0 .any, (I6 0), .sl [] 0 .any, .sl [] 0 .any], 56, .fresh⟩, ⟨[(I6 f3), (I6 m3), (I6 o3), .sl (bss l3) (List.length l3) .any], 4, .fresh⟩, ⟨[(I6 f3), (I6 m3), (I6 o3), .sl (bss l3) (List.length l3) .any], 4, .fresh⟩]⟩ (by kernel_rfl) ?_
      cases h6 : (ok == ok)
      · have h6' := ne_of_beq_false h6
        (exfalso; simp_all; done)
      · have h6' := eq_of_beq h6
        refine DerX.preI 2 (((4 : Nat) ≤ (4 : Nat)) ∧ (((4 : Nat) ≤ (4 : Nat)) ∧ (True))) (by intro ext; kernel_rfl) ⟨(by omega), ⟨(by omega), trivial⟩⟩ ?_
        refine DerX.callDI (e2) ⟨by kernel_rfl, by kernel_rfl⟩ ?_
        refine DerX.preI 7 ((True) ∧ ((True) ∧ ((True) ∧ ((True) ∧ ((True) ∧ ((True) ∧ ((True) ∧ (True)))))))) (by intro ext; kernel_rfl) ⟨trivial, ⟨trivial, ⟨trivial, ⟨trivial, ⟨trivial, ⟨trivial, ⟨trivial, trivial⟩⟩⟩⟩⟩⟩⟩ ?_
        refine AWP.toX ⟨[.sl (u8s b) (List.length b) .any, U6, U6, (I6 n), (I6 to), U6, .ptr 0 0, U6, U6, U6, (B6 false), .ptr 2 0, (B6 ok), .ptr 3 0, (B6 ok), .ptr 4 0, (B6 ok3), .ptr 5 0, (B6 ok3)] ++ UU 40 ++ [.sl (u8s b) (List.length b) .any, .sl (bss (pieces b)) (np b) .any, .sl (u8s b) (List.length b) .any, .sl (bss (pieces b)) (np b) .any, (B6 true), (B6 true), .sl (u8s b) (List.length b) .any, (I6 n), (I6 to), .agg [(I6 n), (I6 to), (I6 (↑(np b) : Int)), .sl (bss (pieces b)) (np b) .any], .sl (u8s b) (List.length b) .any, (I6 n), (I6 to), .agg [(I6 n), (I6 to), (I6 (↑(np b) : Int)), .sl (bss (pieces b)) (np b) .any], (B6 true), (B6 true), (B6 true), .agg [(I6 k), (I6 (f')), (I6 (t')), (I6 0), (I6 0), (I6 0), (I6 0), (I6 0), (I6 0), (I6 0), (I6 0), (I6 0), (I6 0), (I6 0), (I6 0), (I6 0), (I6 0), (I6 0), (I6 0), .sl [] 0 .any, (I6 0), (I6 0), (I6 0), (I6 0), (I6 0), (I6 0), (I6 0), (I6 0), (I6 0), (I6 0), (I6 0), (I6 0), (I6 0), (I6 0), (I6 0), (I6 0), (I6 0), (I6 0), (I6 0), (I6 0), (I6 0), (I6 0), (I6 0), (I6 0), (I6 0), (I6 0), (B6 false), (I6 (m')), (I6 (n')), (I6 (o')), .sl (u8s y) (List.length y) .any, (I6 0), .sl [] 0 .any, (I6 0), .sl [] 0 .any, .sl [] 0 .any], .agg [(I6 k), (I6 (f')), (I6 (t')), (I6 0), (I6 0), (I6 0), (I6 0), (I6 0), (I6 0), (I6 0), (I6 0), (I6 0), (I6 0), (I6 0), (I6 0), (I6 0), (I6 0), (I6 0), (I6 0), .sl [] 0 .any, (I6 0), (I6 0), (I6 0), (I6 0), (I6 0), (I6 0), (I6 0), (I6 0), (I6 0), (I6 0), (I6 0), (I6 0), (I6 0), (I6 0), (I6 0), (I6 0), (I6 0), (I6 0), (I6 0), (I6 0), (I6 0), (I6 0), (I6 0), (I6 0), (I6 0), (I6 0), (B6 false), (I6 (m')), (I6 (n')), (I6 (o')), .sl (u8s y) (List.length y) .any, (I6 0), .sl [] 0 .any, (I6 0), .sl [] 0 .any, .sl [] 0 .any], (B6 true), (B6 true), (B6 true), (B6 ok), (B6 ok), (B6 true), (B6 true), (B6 true), .agg [(I6 f3), (I6 m3), (I6 o3), .sl (bss l3) (List.length l3) .any], .agg [(I6 f3), (I6 m3), (I6 o3), .sl (bss l3) (List.length l3) .any], (B6 true), (B6 true), (B6 true), (B6 ok3), (B6 ok3), (B6 (ok3 == ok3)), (B6 (ok3 == ok3)), (B6 (ok3 == ok3))] ++ UU 16, [⟨[(I6 f), (I6 m), (I6 o), .sl (bss l) (List.length l) .any], 4, .fresh⟩, ⟨msgc g (MT.toM g x), 56, .fresh⟩, ⟨[(I6 k), (I6 (f')), (I6 (t')), (I6 0), (I6 0), (I6 0), (I6 0), (I6 0), (I6 0), (I6 0), (I6 0), (I6 0), (I6 0), (I6 0), (I6 0), (I6 0), (I6 0), (I6 0), (I6 0), .sl [] 0 .any, (I6 0), (I6 0), (I6 0), (I6 0), (I6 0), (I6 0), (I6 0), (I6 0), (I6 0), (I6 0), (I6 0), (I6 0), (I6 0), (I6 0), (I6 0), (I6 0), (I6 0), (I6 0), (I6 0), (I6 0), (I6 0), (I6 0), (I6 0), (I6 0), (I6 0), (I6 0), (B6 false), (I6 (m')), (I6 (n')), (I6 (o')), .sl (u8s y) (List.length y) .any, (I6 0), .sl [] 0 .any, (I6 0), .sl [] 0 .any, .sl [] 0 .any], 56, .fresh⟩, ⟨[(I6 k), (I6 (f')), (I6 (t')), (I6 0), (I6 0), (I6 0), (I6 0), (I6 0), (I6 0), (I6 0), (I6 0), (I6 0), (I6 0), (I6 0), (I6 0), (I6 0), (I6 0), (I6 0), (I6 0), .sl [] 0 .any, (I6 0), (I6 0), (I6 0), (I6 0), (I6 0), (I6 0), (I6 0), (I6 0), (I6 0), (I6 0), (I6 0), (I6 0), (I6 0), (I6 0), (I6 0), (I6 0), (I6 0), (I6 0), (I6 0), (I6 0), (I6 0), (I6 0), (I6 0), (I6 0), (I6 0), (I6 0), (B6 false), (I6 (m')), (I6 (n')), (I6 (o')), .sl (u8s y) (List.length y) .any, (I6 0), .sl [] 0 .any, (I6 0), .sl [] 0 .any, .sl [] 0 .any], 56, .fresh⟩, ⟨[(I6 f3), (I6 m3), (I6 o3), .sl (bss l3) (List.length l3) .any], 4, .fresh⟩, ⟨[(I6 f3), (I6 m3), (I6 o3), .sl (bss l3) (List.length l3) .any], 4, .fresh⟩]⟩ (by kernel_rfl) ?_
        cases h7 : (ok3 == ok3)
        · have h7' := ne_of_beq_false h7
          (exfalso; simp_all; done)
        · have h7' := eq_of_beq h7
          refine DerX.quietI ((4 : Nat) ≤ (4 : Nat)) (by intro ext; kernel_rfl) (by kernel_rfl) (by omega) ?_
          refine DerX.callDI (d1) ⟨by kernel_rfl, by kernel_rfl⟩ ?_
          refine DerX.quietI ((4 : Nat) ≤ (4 : Nat)) (by intro ext; kernel_rfl) (by kernel_rfl) (by omega) ?_
          refine DerX.callDI (d2) ⟨by kernel_rfl, by kernel_rfl⟩ ?_
          refine DerX.preI 3 ((True) ∧ ((True) ∧ ((True) ∧ (True)))) (by intro ext; kernel_rfl) ⟨trivial, ⟨trivial, ⟨trivial, trivial⟩⟩⟩ ?_
          refine AWP.toX ⟨[.sl (u8s b) (List.length b) .any, U6, U6, (I6 n), (I6 to), U6, .ptr 0 0, U6, U6, U6, (B6 false), .ptr 2 0, (B6 ok), .ptr 3 0, (B6 ok), .ptr 4 0, (B6 ok3), .ptr 5 0, (B6 ok3)] ++ UU 40 ++ [.sl (u8s b) (List.length b) .any, .sl (bss (pieces b)) (np b) .any, .sl (u8s b) (List.length b) .any, .sl (bss (pieces b)) (np b) .any, (B6 true), (B6 true), .sl (u8s b) (List.length b) .any, (I6 n), (I6 to), .agg [(I6 n), (I6 to), (I6 (↑(np b) : Int)), .sl (bss (pieces b)) (np b) .any], .sl (u8s b) (List.length b) .any, (I6 n), (I6 to), .agg [(I6 n), (I6 to), (I6 (↑(np b) : Int)), .sl (bss (pieces b)) (np b) .any], (B6 true), (B6 true), (B6 true), .agg [(I6 k), (I6 (f')), (I6 (t')), (I6 0), (I6 0), (I6 0), (I6 0), (I6 0), (I6 0), (I6 0), (I6 0), (I6 0), (I6 0), (I6 0), (I6 0), (I6 0), (I6 0), (I6 0), (I6 0), .sl [] 0 .any, (I6 0), (I6 0), (I6 0), (I6 0), (I6 0), (I6 0), (I6 0), (I6 0), (I6 0), (I6 0), (I6 0), (I6 0), (I6 0), (I6 0), (I6 0), (I6 0), (I6 0), (I6 0), (I6 0), (I6 0), (I6 0), (I6 0), (I6 0), (I6 0), (I6 0), (I6 0), (B6 false), (I6 (m')), (I6 (n')), (I6 (o')), .sl (u8s y) (List.length y) .any, (I6 0), .sl [] 0 .any, (I6 0), .sl [] 0 .any, .sl [] 0 .any], .agg [(I6 k), (I6 (f')), (I6 (t')), (I6 0), (I6 0), (I6 0), (I6 0), (I6 0), (I6 0), (I6 0), (I6 0), (I6 0), (I6 0), (I6 0), (I6 0), (I6 0), (I6 0), (I6 0), (I6 0), .sl [] 0 .any, (I6 0), (I6 0), (I6 0), (I6 0), (I6 0), (I6 0), (I6 0), (I6 0), (I6 0), (I6 0), (I6 0), (I6 0), (I6 0), (I6 0), (I6 0), (I6 0), (I6 0), (I6 0), (I6 0), (I6 0), (I6 0), (I6 0), (I6 0), (I6 0), (I6 0), (I6 0), (B6 false), (I6 (m')), (I6 (n')), (I6 (o')), .sl (u8s y) (List.length y) .any, (I6 0), .sl [] 0 .any, (I6 0), .sl [] 0 .any, .sl [] 0 .any], (B6 true), (B6 true), (B6 true), (B6 ok), (B6 ok), (B6 true), (B6 true), (B6 true), .agg [(I6 f3), (I6 m3), (I6 o3), .sl (bss l3) (List.length l3) .any], .agg [(I6 f3), (I6 m3), (I6 o3), .sl (bss l3) (List.length l3) .any], (B6 true), (B6 true), (B6 true), (B6 ok3), (B6 ok3), (B6 true), (B6 true), (B6 true), .agg [(I6 f), (I6 m), (I6 o), .sl (bss l) (List.length l) .any], (B6 (decide (0 < o ∧ o = (↑(List.length l) : Int)))), .agg [(I6 f), (I6 m), (I6 o), .sl (bss l) (List.length l) .any], (B6 (decide (0 < o ∧ o = (↑(List.length l) : Int)))), (B6 (decide (0 < o ∧ o = (↑(List.length l) : Int)) == decide (0 < o ∧ o = (↑(List.length l) : Int)))), (B6 (decide (0 < o ∧ o = (↑(List.length l) : Int)) == decide (0 < o ∧ o = (↑(List.length l) : Int)))), (B6 (decide (0 < o ∧ o = (↑(List.length l) : Int)) == decide (0 < o ∧ o = (↑(List.length l) : Int))))] ++ UU 9, [⟨[(I6 f), (I6 m), (I6 o), .sl (bss l) (List.length l) .any], 4, .fresh⟩, ⟨msgc g (MT.toM g x), 56, .fresh⟩, ⟨[(I6 k), (I6 (f')), (I6 (t')), (I6 0), (I6 0), (I6 0), (I6 0), (I6 0), (I6 0), (I6 0), (I6 0), (I6 0), (I6 0), (I6 0), (I6 0), (I6 0), (I6 0), (I6 0), (I6 0), .sl [] 0 .any, (I6 0), (I6 0), (I6 0), (I6 0), (I6 0), (I6 0), (I6 0), (I6 0), (I6 0), (I6 0), (I6 0), (I6 0), (I6 0), (I6 0), (I6 0), (I6 0), (I6 0), (I6 0), (I6 0), (I6 0), (I6 0), (I6 0), (I6 0), (I6 0), (I6 0), (I6 0), (B6 false), (I6 (m')), (I6 (n')), (I6 (o')), .sl (u8s y) (List.length y) .any, (I6 0), .sl [] 0 .any, (I6 0), .sl [] 0 .any, .sl [] 0 .any], 56, .fresh⟩, ⟨[(I6 k), (I6 (f')), (I6 (t')), (I6 0), (I6 0), (I6 0), (I6 0), (I6 0), (I6 0), (I6 0), (I6 0), (I6 0), (I6 0), (I6 0), (I6 0), (I6 0), (I6 0), (I6 0), (I6 0), .sl [] 0 .any, (I6 0), (I6 0), (I6 0), (I6 0), (I6 0), (I6 0), (I6 0), (I6 0), (I6 0), (I6 0), (I6 0), (I6 0), (I6 0), (I6 0), (I6 0), (I6 0), (I6 0), (I6 0), (I6 0), (I6 0), (I6 0), (I6 0), (I6 0), (I6 0), (I6 0), (I6 0), (B6 false), (I6 (m')), (I6 (n')), (I6 (o')), .sl (u8s y) (List.length y) .any, (I6 0), .sl [] 0 .any, (I6 0), .sl [] 0 .any, .sl [] 0 .any], 56, .fresh⟩, ⟨[(I6 f3), (I6 m3), (I6 o3), .sl (bss l3) (List.length l3) .any], 4, .fresh⟩, ⟨[(I6 f3), (I6 m3), (I6 o3), .sl (bss l3) (List.length l3) .any], 4, .fresh⟩]⟩ (by kernel_rfl) ?_
          cases h8 : (decide (0 < o ∧ o = (↑(List.length l) : Int)) == decide (0 < o ∧ o = (↑(List.length l) : Int)))
          · have h8' := ne_of_beq_false h8
            (exfalso; simp_all; done)
          · have h8' := eq_of_beq h8
            refine DerX.quietI ((4 : Nat) ≤ (4 : Nat)) (by intro ext; kernel_rfl) (by kernel_rfl) (by omega) ?_
            refine DerX.callDI (j1) ⟨by kernel_rfl, by kernel_rfl⟩ ?_
            refine DerX.quietI ((4 : Nat) ≤ (4 : Nat)) (by intro ext; kernel_rfl) (by kernel_rfl) (by omega) ?_
            refine DerX.callDI (j2) ⟨by kernel_rfl, by kernel_rfl⟩ ?_
            refine DerX.callDI (y1) ⟨by kernel_rfl, by kernel_rfl⟩ ?_
            refine DerX.preI 2 ((True) ∧ ((True) ∧ (True))) (by intro ext; kernel_rfl) ⟨trivial, ⟨trivial, trivial⟩⟩ ?_
            refine DerX.callDI (heads) ⟨by kernel_rfl, by kernel_rfl⟩ ?_
            refine DerX.preI 2 ((True) ∧ ((True) ∧ (True))) (by intro ext; kernel_rfl) ⟨trivial, ⟨trivial, trivial⟩⟩ ?_
            refine DerX.nil ?_
            refine AWP.ret FA
    · have h5' := of_decide_eq_true h5
      exfalso; omega
  · refine EvD.body Try.func3 rfl (by simp [dataAll, AVal.data]) rfl ?_
    refine AWP.seq ?_
    refine TO ⟨[.sl (u8s b) (List.length b) .any, .agg [(I6 f), (I6 m), (I6 o), .sl (bss l) (List.length l) .any], .agg (msgc g (MT.toM g x)), (I6 n), (I6 to)] ++ UU 107, []⟩ ?_
    refine AWP.reg (RT 3 ?_)
    refine AWP.seq (AWP.seq (KL [1, 2] ⟨[.sl (u8s b) (List.length b) .any, U6, U6, (I6 n), (I6 to), U6, .ptr 0 0, .ptr 1 0, U6, U6, (B6 false)] ++ UU 101, [⟨[(I6 f), (I6 m), (I6 o), .sl (bss l) (List.length l) .any], 4, .fresh⟩, ⟨msgc g (MT.toM g x), 56, .fresh⟩]⟩ ?_))
    refine AWP.reg (PT 4 4 ?_)
    refine DerQ.to ⟨[.sl (u8s b) (List.length b) .any, U6, U6, (I6 n), (I6 to), U6, .ptr 0 0, .ptr 1 0, U6, U6, (B6 false)] ++ UU 8 ++ [.sl (u8s b) (List.length b) .any, (I6 (↑(List.length b) : Int)), (B6 (decide ((↑(List.length b) : Int) > 6000))), (B6 (decide ((↑(List.length b) : Int) > 6000)))] ++ UU 89, [⟨[(I6 f), (I6 m), (I6 o), .sl (bss l) (List.length l) .any], 4, .fresh⟩, ⟨msgc g (MT.toM g x), 56, .fresh⟩]⟩ (by kernel_rfl) ?_
    cases h1 : (decide ((↑(List.length b) : Int) > 6000))
    · have h1' := of_decide_eq_false h1
      refine PI 1 (4 ≤ 4 ∧ True) ⟨(by omega), trivial⟩ ?_
      refine CD (r_few f m o l) ?_
      refine PT 3 3 ?_
      refine DerQ.to ⟨[.sl (u8s b) (List.length b) .any, U6, U6, (I6 n), (I6 to), U6, .ptr 0 0, .ptr 1 0, U6, U6, (B6 false)] ++ UU 8 ++ [.sl (u8s b) (List.length b) .any, (I6 (↑(List.length b) : Int)), (B6 false), (B6 false), .agg [(I6 f), (I6 m), (I6 o), .sl (bss l) (List.length l) .any], (B6 (decide (List.length l ≤ 40 ∧ ∀ (i : Nat), i < List.length l → List.length (List.getD l i []) ≤ 2000))), (B6 (!decide (List.length l ≤ 40 ∧ ∀ (i : Nat), i < List.length l → List.length (List.getD l i []) ≤ 2000))), (B6 (!decide (List.length l ≤ 40 ∧ ∀ (i : Nat), i < List.length l → List.length (List.getD l i []) ≤ 2000))), (B6 (!decide (List.length l ≤ 40 ∧ ∀ (i : Nat), i < List.length l → List.length (List.getD l i []) ≤ 2000)))] ++ UU 84, [⟨[(I6 f), (I6 m), (I6 o), .sl (bss l) (List.length l) .any], 4, .fresh⟩, ⟨msgc g (MT.toM g x), 56, .fresh⟩]⟩ (by kernel_rfl) ?_
      cases h2 : (!decide (List.length l ≤ 40 ∧ ∀ (i : Nat), i < List.length l → List.length (List.getD l i []) ≤ 2000))
      · have h2' := h2
        simp only [Bool.and_eq_true, Bool.and_eq_false_iff, Bool.or_eq_true, Bool.or_eq_false_iff, Bool.not_eq_true', Bool.not_eq_false', beq_iff_eq, beq_eq_false_iff_ne, decide_eq_true_eq, decide_eq_false_iff_not, ne_eq] at h2'
        refine DerQ.pre 1 ((56 ≤ List.length (msgc g (MT.toM g x))) ∧ True) ⟨[.sl (u8s b) (List.length b) .any, U6, U6, (I6 n), (I6 to), U6, .ptr 0 0, .ptr 1 0, U6, U6, (B6 false)] ++ UU 8 ++ [.sl (u8s b) (List.length b) .any, (I6 (↑(List.length b) : Int)), (B6 false), (B6 false), .agg [(I6 f), (I6 m), (I6 o), .sl (bss l) (List.length l) .any], (B6 (decide (List.length l ≤ 40 ∧ ∀ (i : Nat), i < List.length l → List.length (List.getD l i []) ≤ 2000))), (B6 false), (B6 false), (B6 false), .agg (List.take 56 (List.drop 0 (msgc g (MT.toM g x))))] ++ UU 83, [⟨[(I6 f), (I6 m), (I6 o), .sl (bss l) (List.length l) .any], 4, .fresh⟩, ⟨msgc g (MT.toM g x), 56, .fresh⟩]⟩ (by kernel_rfl) ⟨(by simp), trivial⟩ ?_
        rw [List.drop_zero]
        rw [Go.Chu.msg_take (g) (MT.toM g x)]
        refine CD (r_mfew g x) ?_
        refine RT 2 ?_
        refine KL (NN 19 12) ⟨[.sl (u8s b) (List.length b) .any, U6, U6, (I6 n), (I6 to), U6, .ptr 0 0, .ptr 1 0, U6, U6, (B6 false)] ++ UU 20 ++ [(B6 (!decide (fewM x)))] ++ UU 80, [⟨[(I6 f), (I6 m), (I6 o), .sl (bss l) (List.length l) .any], 4, .fresh⟩, ⟨msgc g (MT.toM g x), 56, .fresh⟩]⟩ ?_
        refine CN (!decide (fewM x)) (fun h3 => ?_) (fun h3 => ?_)
        · have h3' := h3
          simp only [Bool.and_eq_true, Bool.and_eq_false_iff, Bool.or_eq_true, Bool.or_eq_false_iff, Bool.not_eq_true', Bool.not_eq_false', beq_iff_eq, beq_eq_false_iff_ne, decide_eq_true_eq, decide_eq_false_iff_not, ne_eq] at h3'
          refine SQ (CD (heads) ?_)
          refine RT 1 ?_
          refine AWP.ret FA
        · have h3' := h3
          simp only [Bool.and_eq_true, Bool.and_eq_false_iff, Bool.or_eq_true, Bool.or_eq_false_iff, Bool.not_eq_true', Bool.not_eq_false', beq_iff_eq, beq_eq_false_iff_ne, decide_eq_true_eq, decide_eq_false_iff_not, ne_eq] at h3'
          (exfalso; exact hg ⟨⟨by omega, by simpa using ‹(!decide (l.length ≤ 40 ∧ ∀ i, i < l.length → (l.getD i []).length ≤ 2000)) = false›⟩, by simpa using ‹(!decide (fewM x)) = false›⟩; done)
      · have h2' := h2
        simp only [Bool.and_eq_true, Bool.and_eq_false_iff, Bool.or_eq_true, Bool.or_eq_false_iff, Bool.not_eq_true', Bool.not_eq_false', beq_iff_eq, beq_eq_false_iff_ne, decide_eq_true_eq, decide_eq_false_iff_not, ne_eq] at h2'
        refine RT 1 ?_
        refine KL (NN 19 12) ⟨[.sl (u8s b) (List.length b) .any, U6, U6, (I6 n), (I6 to), U6, .ptr 0 0, .ptr 1 0, U6, U6, (B6 false)] ++ UU 20 ++ [(B6 true)] ++ UU 80, [⟨[(I6 f), (I6 m), (I6 o), .sl (bss l) (List.length l) .any], 4, .fresh⟩, ⟨msgc g (MT.toM g x), 56, .fresh⟩]⟩ ?_
        refine CN true (fun _ => ?_) (fun h => nomatch h)
        refine SQ (CD (heads) ?_)
        refine RT 1 ?_
        refine AWP.ret FA
    · have h1' := of_decide_eq_true h1
      refine RT 3 ?_
      refine KL (NN 19 12) ⟨[.sl (u8s b) (List.length b) .any, U6, U6, (I6 n), (I6 to), U6, .ptr 0 0, .ptr 1 0, U6, U6, (B6 false)] ++ UU 20 ++ [(B6 true)] ++ UU 80, [⟨[(I6 f), (I6 m), (I6 o), .sl (bss l) (List.length l) .any], 4, .fresh⟩, ⟨msgc g (MT.toM g x), 56, .fresh⟩]⟩ ?_
      refine CN true (fun _ => ?_) (fun h => nomatch h)
      refine SQ (CD (heads) ?_)
      refine RT 1 ?_
      refine AWP.ret FA
end Go.Chu
