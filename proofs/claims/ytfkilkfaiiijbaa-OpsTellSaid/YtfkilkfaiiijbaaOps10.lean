/- Walks and laws. -/
import Derived.Test.YtfkilkfaiiijbaaOps9
import Derived.Test.YtfkilkfaiiijbaaLibB
set_option maxRecDepth 100000
set_option maxHeartbeats 0
set_option linter.unusedSimpArgs false
set_option linter.unusedVariables false
namespace Go.Ops
open Go Go.Abs Go.Proofs
theorem opsc_store (l : List OpD) (i : Nat) (h : i < l.length) (p s : Int) : spliceA (opsc l) (i * 10 + 7) [.sc (.int .i64 p), .sc (.int .i64 s)] = opsc (l.set i { l.getD i op0 with p := p, s := s }) := by
  show ((opsc l).set (i * 10 + 7) (.sc (.int .i64 p))).set (i * 10 + 7 + 1) (.sc (.int .i64 s)) = _
  induction l generalizing i with
  | nil => simp at h
  | cons o l ih =>
    cases i with
    | zero => rfl
    | succ i =>
      have e : (i + 1) * 10 + 7 = (opc o).length + (i * 10 + 7) := by simp; omega
      have e2 : (opc o).length + (i * 10 + 7) + 1 = (opc o).length + (i * 10 + 7 + 1) := by omega
      rw [e, e2, opsc, List.flatMap_cons, List.set_append_right _ _ (by omega), List.set_append_right _ _ (by omega), Nat.add_sub_cancel_left, Nat.add_sub_cancel_left, List.set_cons_succ, List.getD_cons_succ]
      have := ih i (by simpa using h)
      rw [opsc] at this
      rw [this]; simp [opsc]
def mid (l : List OpD) (p s : Int) (i : Nat) : List OpD := (l.take i).map (rs p s) ++ l.drop i
theorem mid_len (l : List OpD) (p s : Int) (i : Nat) : (mid l p s i).length = l.length := by simp [mid]; omega
theorem mid_get (l : List OpD) (p s : Int) (i : Nat) (h : i < l.length) : (mid l p s i).getD i op0 = l.getD i op0 := by
  unfold mid
  rw [List.getD_eq_getElem?_getD, List.getElem?_append_right (by simp; omega), List.getD_eq_getElem?_getD, List.getElem?_drop]
  simp [Nat.min_eq_left (Nat.le_of_lt h)]
theorem mid_take (l : List OpD) (p s : Int) (i : Nat) (h : i < l.length) : List.take 10 (List.drop (i * 10) (opsc (mid l p s i))) = opc (l.getD i op0) := by
  rw [← mid_get l p s i h]
  exact opsc_at _ i (by rw [mid_len]; exact h)
theorem mid_dot (l : List OpD) (p s : Int) (i : Nat) (h : i < l.length) : List.take 2 (List.drop (i * 10 + 7) (opsc (mid l p s i))) = [.sc (.int .i64 (l.getD i op0).p), .sc (.int .i64 (l.getD i op0).s)] := by
  have := mid_take l p s i h
  rw [← List.drop_drop]
  have e : List.take 2 (List.drop 7 (List.drop (i * 10) (opsc (mid l p s i)))) = List.take 2 (List.drop 7 (List.take 10 (List.drop (i * 10) (opsc (mid l p s i))))) := by
    rw [List.drop_take, List.take_take]; rfl
  rw [e, this]; rfl
theorem mid_9 (l : List OpD) (p s : Int) (i : Nat) (h : i < l.length) : List.getD (opsc (mid l p s i)) (i * 10 + 9) .undef = .sc (.int .i64 (l.getD i op0).i) := by
  rw [getD_seg _ _ 10 9 (by omega), mid_take l p s i h]; rfl
theorem mid_9b (l : List OpD) (p s : Int) (i : Nat) (h : i < l.length) : List.getD (opsc (mid l p s i)) (i * 10 + 7 + 2) .undef = .sc (.int .i64 (l.getD i op0).i) := mid_9 l p s i h
theorem mid_succ (l : List OpD) (p s : Int) (i : Nat) (h : i < l.length) (o : OpD) (ho : o = rs p s (l.getD i op0)) : (mid l p s i).set i o = mid l p s (i + 1) := by
  subst ho
  unfold mid
  rw [List.set_append_right _ _ (by simp; omega), List.take_succ_eq_append_getElem h, List.map_append, List.append_assoc]
  congr 1
  have e : i - (List.map (rs p s) (List.take i l)).length = 0 := by simp; omega
  rw [e, List.drop_eq_getElem_cons h, List.set_cons_zero]
  simp [h]
theorem mid_store (l : List OpD) (p s : Int) (i : Nat) (h : i < l.length) (h1 : (l.getD i op0).p = 0) (h2 : (l.getD i op0).s = 0) (h3 : (l.getD i op0).i ≠ 0) :
    spliceA (opsc (mid l p s i)) (i * 10 + 7) [.sc (.int .i64 p), .sc (.int .i64 s)] = opsc (mid l p s (i + 1)) := by
  rw [opsc_store _ i (by rw [mid_len]; exact h), mid_succ l p s i h]
  rw [mid_get l p s i h, rs, if_pos ⟨⟨h1, h2⟩, h3⟩]
theorem mid_same (l : List OpD) (p s : Int) (i : Nat) (h : i < l.length) (h1 : ¬ (((l.getD i op0).p = 0 ∧ (l.getD i op0).s = 0) ∧ (l.getD i op0).i ≠ 0)) : mid l p s i = mid l p s (i + 1) := by
  rw [← mid_succ l p s i h _ rfl, rs, if_neg h1, ← mid_get l p s i h]
  apply List.ext_getElem
  · simp
  · intro j a b
    rw [List.getElem_set]
    split
    · rename_i e; subst e; simp [List.getD_eq_getElem?_getD, a]
    · rfl
theorem mid_all (l : List OpD) (p s : Int) (i : Nat) (h : i = l.length) : mid l p s i = l.map (rs p s) := by
  subst h; simp [mid]
theorem mid_zero (l : List OpD) (p s : Int) : opsc l = opsc (mid l p s 0) := by simp [mid]
theorem o_resolve (l : List OpD) (p s : Int) (hx : l.length ≤ 100) : EvD Try.prog 15 [.sl (opsc l) l.length .any, .agg [.sc (.int .i64 p), .sc (.int .i64 s)]] (.sl (opsc (l.map (rs p s))) l.length .any) := by
  refine EvD.body Try.func15 rfl rfl rfl ?_
  refine AWP.seq ?_
  refine AWP.reg ?_
  refine DerQ.run (TT 2) ⟨[.sl (opsc l) (List.length l) .any, .agg [(I6 p), (I6 s)], U6, .ptr 0 0, .sl [] 0 .nil] ++ UU 31, [⟨[(I6 p), (I6 s)], 2, .fresh⟩]⟩ (by kernel_rfl) (tt 2) ?_
  refine AWP.seq ?_
  refine AWP.reg ?_
  refine DerQ.pre 1 ((True) ∧ (True)) ⟨[.sl (opsc l) (List.length l) .any, .agg [(I6 p), (I6 s)], U6, .ptr 0 0, .sl [] 0 .nil, U6, U6, U6, .sl (opsc l) (List.length l) .any] ++ UU 27, [⟨[(I6 p), (I6 s)], 2, .fresh⟩]⟩ (by kernel_rfl) ⟨trivial, trivial⟩ ?_
  refine DerQ.callA (o_clone l (by omega)) [.sl (opsc l) (List.length l) .any] ⟨[.sl (opsc l) (List.length l) .any, .agg [(I6 p), (I6 s)], U6, .ptr 0 0, .sl [] 0 .nil, U6, U6, U6, .sl (opsc l) (List.length l) .any, .row 1 0 (List.length l)] ++ UU 26, [⟨[(I6 p), (I6 s)], 2, .fresh⟩, ⟨opsc l, 10, .fresh⟩]⟩ ⟨by kernel_rfl, by kernel_rfl, by kernel_rfl, by kernel_rfl⟩ ?_
  refine DerQ.run ((True) ∧ (True)) ⟨[.sl (opsc l) (List.length l) .any, .agg [(I6 p), (I6 s)], U6, .ptr 0 0, .sl [] 0 .nil, .row 1 0 (List.length l), U6, U6, .sl (opsc l) (List.length l) .any, .row 1 0 (List.length l)] ++ UU 26, [⟨[(I6 p), (I6 s)], 2, .fresh⟩, ⟨opsc l, 10, .fresh⟩]⟩ (by kernel_rfl) ⟨trivial, trivial⟩ ?_
  refine AWP.seq ?_
  refine AWP.seq ?_
  refine AWP.reg ?_
  refine DerQ.run (TT 3) ⟨[.sl (opsc l) (List.length l) .any, .agg [(I6 p), (I6 s)], U6, .ptr 0 0, .sl [] 0 .nil, .row 1 0 (List.length l), U6, U6, .sl (opsc l) (List.length l) .any, .row 1 0 (List.length l), .row 1 0 (List.length l), (I6 (↑(List.length l) : Int)), (I6 0)] ++ UU 23, [⟨[(I6 p), (I6 s)], 2, .fresh⟩, ⟨opsc l, 10, .fresh⟩]⟩ (by kernel_rfl) (tt 3) ?_
  refine AWP.block ?_
  refine AWP.loopW [true, true, false, true, true, true, false, false, true, true, true, true, true, false, false, false, false, false, false, false, false, false, false, false, false, false, false, false, false, false, false, false, false, false, false, false] (fun kk st => ∃ (i : Nat), kk = l.length - i ∧ i ≤ l.length ∧ st = ⟨[.sl (opsc l) (List.length l) .any, .agg [(I6 p), (I6 s)], U6, .ptr 0 0, .sl [] 0 .nil, .row 1 0 (List.length l), U6, U6, .sl (opsc l) (List.length l) .any, .row 1 0 (List.length l), .row 1 0 (List.length l), (I6 (↑(List.length l) : Int)), (I6 (i : Int)), U6, U6, U6, U6, U6, U6, U6, U6, U6, U6, U6, U6, U6, U6, U6, U6, U6, U6, U6, U6, U6, U6, .undef], [⟨[(I6 p), (I6 s)], 2, .fresh⟩, ⟨opsc (mid l p s i), 10, .fresh⟩]⟩) _ ⟨0, rfl, by omega, by rw [← mid_zero]; kernel_rfl⟩ ?_
  rintro kk ss ⟨i, rfl, hi, rfl⟩
  have hml := mid_len l p s i
  refine AWP.seq ?_
  refine AWP.reg ?_
  refine DerQ.run ((True) ∧ (True)) ⟨[.sl (opsc l) (List.length l) .any, .agg [(I6 p), (I6 s)], U6, .ptr 0 0, .sl [] 0 .nil, .row 1 0 (List.length l), U6, U6, .sl (opsc l) (List.length l) .any, .row 1 0 (List.length l), .row 1 0 (List.length l), (I6 (↑(List.length l) : Int)), (I6 (↑i : Int)), (B6 (decide ((↑i : Int) < (↑(List.length l) : Int))))] ++ UU 22, [⟨[(I6 p), (I6 s)], 2, .fresh⟩, ⟨opsc (mid l p s i), 10, .fresh⟩]⟩ (by kernel_rfl) ⟨trivial, trivial⟩ ?_
  refine AWP.seq ?_
  refine AWP.cond (b := decide ((↑i : Int) < (↑(List.length l) : Int))) (by kernel_rfl) (fun h1 => ?_) (fun h1 => ?_)
  · have h1' := of_decide_eq_true h1
    refine AWP.skip ?_
    refine AWP.seq ?_
    refine AWP.block ?_
    refine AWP.seq ?_
    refine AWP.reg ?_
    refine DerQ.pre 5 ((True) ∧ ((((0 ≤ (↑i : Int)) ∧ ((↑i : Int) < (↑(List.length l) : Int))) ∧ ((10 : Nat) = (10 : Nat))) ∧ ((0 + Int.toNat (↑i : Int) * 10 + 10 ≤ List.length (opsc (mid l p s i))) ∧ ((True) ∧ ((True) ∧ (True)))))) ⟨[.sl (opsc l) (List.length l) .any, .agg [(I6 p), (I6 s)], U6, .ptr 0 0, .sl [] 0 .nil, .row 1 0 (List.length l), (I6 (↑i : Int)), .ptr 2 0, .sl (opsc l) (List.length l) .any, .row 1 0 (List.length l), .row 1 0 (List.length l), (I6 (↑(List.length l) : Int)), (I6 (↑i : Int)), (B6 (decide ((↑i : Int) < (↑(List.length l) : Int)))), (I6 (↑i : Int)), .ptr 1 (0 + Int.toNat (↑i : Int) * 10), .agg (List.take 10 (List.drop (0 + Int.toNat (↑i : Int) * 10) (opsc (mid l p s i))))] ++ UU 19, [⟨[(I6 p), (I6 s)], 2, .fresh⟩, ⟨opsc (mid l p s i), 10, .fresh⟩, ⟨[(I6 0), (S6 ({ data := #[] })), (S6 ({ data := #[] })), (I6 0), (I6 0), (I6 0), (S6 ({ data := #[] })), (I6 0), (I6 0), (I6 0)], 10, .fresh⟩]⟩ (by kernel_rfl) ⟨trivial, ⟨⟨⟨(by omega), (by omega)⟩, (by omega)⟩, ⟨(by (simp [spliceA_length] <;> omega)), ⟨trivial, ⟨trivial, trivial⟩⟩⟩⟩⟩ ?_
    rw [Int.toNat_natCast (i)]
    rw [Nat.zero_add (i * 10)]
    rw [Go.Ops.mid_take (l) (p) (s) (i) (by omega)]
    refine DerQ.run (((10 : Nat) ≤ (10 : Nat)) ∧ (True)) ⟨[.sl (opsc l) (List.length l) .any, .agg [(I6 p), (I6 s)], U6, .ptr 0 0, .sl [] 0 .nil, .row 1 0 (List.length l), (I6 (↑i : Int)), .ptr 2 0, .sl (opsc l) (List.length l) .any, .row 1 0 (List.length l), .row 1 0 (List.length l), (I6 (↑(List.length l) : Int)), (I6 (↑i : Int)), (B6 (decide ((↑i : Int) < (↑(List.length l) : Int)))), (I6 (↑i : Int)), .ptr 1 (i * 10), .agg [(I6 ((List.getD l i op0).k)), (S6 ((List.getD l i op0).key)), (S6 ((List.getD l i op0).f)), (I6 ((List.getD l i op0).inner)), (I6 ((List.getD l i op0).a)), (I6 ((List.getD l i op0).n)), (S6 ((List.getD l i op0).t)), (I6 ((List.getD l i op0).p)), (I6 ((List.getD l i op0).s)), (I6 ((List.getD l i op0).i))]] ++ UU 19, [⟨[(I6 p), (I6 s)], 2, .fresh⟩, ⟨opsc (mid l p s i), 10, .fresh⟩, ⟨[(I6 ((List.getD l i op0).k)), (S6 ((List.getD l i op0).key)), (S6 ((List.getD l i op0).f)), (I6 ((List.getD l i op0).inner)), (I6 ((List.getD l i op0).a)), (I6 ((List.getD l i op0).n)), (S6 ((List.getD l i op0).t)), (I6 ((List.getD l i op0).p)), (I6 ((List.getD l i op0).s)), (I6 ((List.getD l i op0).i))], 10, .fresh⟩]⟩ (by kernel_rfl) ⟨(by omega), trivial⟩ ?_
    refine AWP.seq ?_
    refine AWP.reg ?_
    refine DerQ.pre 6 ((True) ∧ ((True) ∧ ((9 ≤ List.length [AVal.sc (Value.int IntKind.i64 (List.getD l i op0).k), AVal.sc (Value.string (List.getD l i op0).key), AVal.sc (Value.string (List.getD l i op0).f), AVal.sc (Value.int IntKind.i64 (List.getD l i op0).inner), AVal.sc (Value.int IntKind.i64 (List.getD l i op0).a), AVal.sc (Value.int IntKind.i64 (List.getD l i op0).n), AVal.sc (Value.string (List.getD l i op0).t), AVal.sc (Value.int IntKind.i64 (List.getD l i op0).p), AVal.sc (Value.int IntKind.i64 (List.getD l i op0).s), AVal.sc (Value.int IntKind.i64 (List.getD l i op0).i)]) ∧ ((True) ∧ ((((0 < List.length [AVal.sc (Value.int IntKind.i64 (List.getD l i op0).p), AVal.sc (Value.int IntKind.i64 (List.getD l i op0).s)]) ∧ (((0 : Nat) < (2 : Nat)) ∧ (True))) ∧ ((1 < List.length [AVal.sc (Value.int IntKind.i64 (List.getD l i op0).p), AVal.sc (Value.int IntKind.i64 (List.getD l i op0).s)]) ∧ (((1 : Nat) < (2 : Nat)) ∧ (True)))) ∧ ((True) ∧ (True))))))) ⟨[.sl (opsc l) (List.length l) .any, .agg [(I6 p), (I6 s)], U6, .ptr 0 0, .sl [] 0 .nil, .row 1 0 (List.length l), (I6 (↑i : Int)), .ptr 2 0, .sl (opsc l) (List.length l) .any, .row 1 0 (List.length l), .row 1 0 (List.length l), (I6 (↑(List.length l) : Int)), (I6 (↑i : Int)), (B6 (decide ((↑i : Int) < (↑(List.length l) : Int)))), (I6 (↑i : Int)), .ptr 1 (i * 10), .agg [(I6 ((List.getD l i op0).k)), (S6 ((List.getD l i op0).key)), (S6 ((List.getD l i op0).f)), (I6 ((List.getD l i op0).inner)), (I6 ((List.getD l i op0).a)), (I6 ((List.getD l i op0).n)), (S6 ((List.getD l i op0).t)), (I6 ((List.getD l i op0).p)), (I6 ((List.getD l i op0).s)), (I6 ((List.getD l i op0).i))], .ptr 2 7, .ptr 2 7, .agg [(I6 ((List.getD l i op0).p)), (I6 ((List.getD l i op0).s))], .agg [(I6 0), (I6 0)], (B6 ((List.getD l i op0).p == 0 && (List.getD l i op0).s == 0)), (B6 ((List.getD l i op0).p == 0 && (List.getD l i op0).s == 0))] ++ UU 13, [⟨[(I6 p), (I6 s)], 2, .fresh⟩, ⟨opsc (mid l p s i), 10, .fresh⟩, ⟨[(I6 ((List.getD l i op0).k)), (S6 ((List.getD l i op0).key)), (S6 ((List.getD l i op0).f)), (I6 ((List.getD l i op0).inner)), (I6 ((List.getD l i op0).a)), (I6 ((List.getD l i op0).n)), (S6 ((List.getD l i op0).t)), (I6 ((List.getD l i op0).p)), (I6 ((List.getD l i op0).s)), (I6 ((List.getD l i op0).i))], 10, .fresh⟩]⟩ (by kernel_rfl) ⟨trivial, ⟨trivial, ⟨(by simp), ⟨trivial, ⟨⟨⟨(by simp), ⟨(by omega), trivial⟩⟩, ⟨(by simp), ⟨(by omega), trivial⟩⟩⟩, ⟨trivial, trivial⟩⟩⟩⟩⟩⟩ ?_
    cases h2 : ((List.getD l i op0).p == 0 && (List.getD l i op0).s == 0)
    · have h2' := h2
      simp only [Bool.and_eq_true, Bool.and_eq_false_iff, Bool.or_eq_true, Bool.or_eq_false_iff, Bool.not_eq_true', Bool.not_eq_false', beq_iff_eq, beq_eq_false_iff_ne, decide_eq_true_eq, decide_eq_false_iff_not, ne_eq] at h2'
      refine DerQ.run ((True) ∧ (True)) ⟨[.sl (opsc l) (List.length l) .any, .agg [(I6 p), (I6 s)], U6, .ptr 0 0, .sl [] 0 .nil, .row 1 0 (List.length l), (I6 (↑i : Int)), .ptr 2 0, .sl (opsc l) (List.length l) .any, .row 1 0 (List.length l), .row 1 0 (List.length l), (I6 (↑(List.length l) : Int)), (I6 (↑i : Int)), (B6 (decide ((↑i : Int) < (↑(List.length l) : Int)))), (I6 (↑i : Int)), .ptr 1 (i * 10), .agg [(I6 ((List.getD l i op0).k)), (S6 ((List.getD l i op0).key)), (S6 ((List.getD l i op0).f)), (I6 ((List.getD l i op0).inner)), (I6 ((List.getD l i op0).a)), (I6 ((List.getD l i op0).n)), (S6 ((List.getD l i op0).t)), (I6 ((List.getD l i op0).p)), (I6 ((List.getD l i op0).s)), (I6 ((List.getD l i op0).i))], .ptr 2 7, .ptr 2 7, .agg [(I6 ((List.getD l i op0).p)), (I6 ((List.getD l i op0).s))], .agg [(I6 0), (I6 0)], (B6 false), (B6 false), .tup [], .tup [], .tup [], .tup [], (B6 false)] ++ UU 8, [⟨[(I6 p), (I6 s)], 2, .fresh⟩, ⟨opsc (mid l p s i), 10, .fresh⟩, ⟨[(I6 ((List.getD l i op0).k)), (S6 ((List.getD l i op0).key)), (S6 ((List.getD l i op0).f)), (I6 ((List.getD l i op0).inner)), (I6 ((List.getD l i op0).a)), (I6 ((List.getD l i op0).n)), (S6 ((List.getD l i op0).t)), (I6 ((List.getD l i op0).p)), (I6 ((List.getD l i op0).s)), (I6 ((List.getD l i op0).i))], 10, .fresh⟩]⟩ (by kernel_rfl) ⟨trivial, trivial⟩ ?_
      refine AWP.cond (b := false) (by kernel_rfl) (fun h => nomatch h) (fun _ => ?_)
      refine AWP.skip ?_
      refine AWP.reg ?_
      refine DerQ.run (TT 2) ⟨[.sl (opsc l) (List.length l) .any, .agg [(I6 p), (I6 s)], U6, .ptr 0 0, .sl [] 0 .nil, .row 1 0 (List.length l), (I6 (↑i : Int)), .ptr 2 0, .sl (opsc l) (List.length l) .any, .row 1 0 (List.length l), .row 1 0 (List.length l), (I6 (↑(List.length l) : Int)), (I6 (IntKind.wrap IntKind.i64 ((↑i : Int) + 1))), (B6 (decide ((↑i : Int) < (↑(List.length l) : Int)))), (I6 (↑i : Int)), .ptr 1 (i * 10), .agg [(I6 ((List.getD l i op0).k)), (S6 ((List.getD l i op0).key)), (S6 ((List.getD l i op0).f)), (I6 ((List.getD l i op0).inner)), (I6 ((List.getD l i op0).a)), (I6 ((List.getD l i op0).n)), (S6 ((List.getD l i op0).t)), (I6 ((List.getD l i op0).p)), (I6 ((List.getD l i op0).s)), (I6 ((List.getD l i op0).i))], .ptr 2 7, .ptr 2 7, .agg [(I6 ((List.getD l i op0).p)), (I6 ((List.getD l i op0).s))], .agg [(I6 0), (I6 0)], (B6 false), (B6 false), .tup [], .tup [], .tup [], .tup [], (B6 false), U6, U6, U6, U6, U6, U6, (I6 (IntKind.wrap IntKind.i64 ((↑i : Int) + 1))), .undef], [⟨[(I6 p), (I6 s)], 2, .fresh⟩, ⟨opsc (mid l p s i), 10, .fresh⟩, ⟨[(I6 ((List.getD l i op0).k)), (S6 ((List.getD l i op0).key)), (S6 ((List.getD l i op0).f)), (I6 ((List.getD l i op0).inner)), (I6 ((List.getD l i op0).a)), (I6 ((List.getD l i op0).n)), (S6 ((List.getD l i op0).t)), (I6 ((List.getD l i op0).p)), (I6 ((List.getD l i op0).s)), (I6 ((List.getD l i op0).i))], 10, .fresh⟩]⟩ (by kernel_rfl) (tt 2) ?_
      rw [IntWalk.i64_in ((↑i : Int) + 1) (by omega)]
      (rw [mid_same l p s i (by omega) (by grind)]; exact ⟨_, by omega, _, Weak.cut 2 (by kernel_rfl) (by kernel_rfl) (by simp) (by simp [ltAll, AVal.refLt]) (by simp [dataAll, AVal.data]), i + 1, rfl, by omega, rfl⟩; done)
    · have h2' := h2
      simp only [Bool.and_eq_true, Bool.and_eq_false_iff, Bool.or_eq_true, Bool.or_eq_false_iff, Bool.not_eq_true', Bool.not_eq_false', beq_iff_eq, beq_eq_false_iff_ne, decide_eq_true_eq, decide_eq_false_iff_not, ne_eq] at h2'
      refine DerQ.run ((True) ∧ ((True) ∧ ((9 < List.length [AVal.sc (Value.int IntKind.i64 (List.getD l i op0).k), AVal.sc (Value.string (List.getD l i op0).key), AVal.sc (Value.string (List.getD l i op0).f), AVal.sc (Value.int IntKind.i64 (List.getD l i op0).inner), AVal.sc (Value.int IntKind.i64 (List.getD l i op0).a), AVal.sc (Value.int IntKind.i64 (List.getD l i op0).n), AVal.sc (Value.string (List.getD l i op0).t), AVal.sc (Value.int IntKind.i64 (List.getD l i op0).p), AVal.sc (Value.int IntKind.i64 (List.getD l i op0).s), AVal.sc (Value.int IntKind.i64 (List.getD l i op0).i)]) ∧ ((True) ∧ ((True) ∧ (True)))))) ⟨[.sl (opsc l) (List.length l) .any, .agg [(I6 p), (I6 s)], U6, .ptr 0 0, .sl [] 0 .nil, .row 1 0 (List.length l), (I6 (↑i : Int)), .ptr 2 0, .sl (opsc l) (List.length l) .any, .row 1 0 (List.length l), .row 1 0 (List.length l), (I6 (↑(List.length l) : Int)), (I6 (↑i : Int)), (B6 (decide ((↑i : Int) < (↑(List.length l) : Int)))), (I6 (↑i : Int)), .ptr 1 (i * 10), .agg [(I6 ((List.getD l i op0).k)), (S6 ((List.getD l i op0).key)), (S6 ((List.getD l i op0).f)), (I6 ((List.getD l i op0).inner)), (I6 ((List.getD l i op0).a)), (I6 ((List.getD l i op0).n)), (S6 ((List.getD l i op0).t)), (I6 ((List.getD l i op0).p)), (I6 ((List.getD l i op0).s)), (I6 ((List.getD l i op0).i))], .ptr 2 7, .ptr 2 7, .agg [(I6 ((List.getD l i op0).p)), (I6 ((List.getD l i op0).s))], .agg [(I6 0), (I6 0)], (B6 true), (B6 true), .ptr 2 7, .ptr 2 9, (I6 ((List.getD l i op0).i)), (B6 ((List.getD l i op0).i != 0)), (B6 ((List.getD l i op0).i != 0))] ++ UU 8, [⟨[(I6 p), (I6 s)], 2, .fresh⟩, ⟨opsc (mid l p s i), 10, .fresh⟩, ⟨[(I6 ((List.getD l i op0).k)), (S6 ((List.getD l i op0).key)), (S6 ((List.getD l i op0).f)), (I6 ((List.getD l i op0).inner)), (I6 ((List.getD l i op0).a)), (I6 ((List.getD l i op0).n)), (S6 ((List.getD l i op0).t)), (I6 ((List.getD l i op0).p)), (I6 ((List.getD l i op0).s)), (I6 ((List.getD l i op0).i))], 10, .fresh⟩]⟩ (by kernel_rfl) ⟨trivial, ⟨trivial, ⟨(by simp), ⟨trivial, ⟨trivial, trivial⟩⟩⟩⟩⟩ ?_
      refine AWP.cond (b := (List.getD l i op0).i != 0) (by kernel_rfl) (fun h3 => ?_) (fun h3 => ?_)
      · have h3' := bne_iff_ne.1 h3
        refine AWP.reg ?_
        refine DerQ.run ((True) ∧ ((True) ∧ ((2 ≤ List.length [(I6 p), (I6 s)]) ∧ ((((0 ≤ (↑i : Int)) ∧ ((↑i : Int) < (↑(List.length l) : Int))) ∧ ((10 : Nat) = (10 : Nat))) ∧ ((True) ∧ ((True) ∧ ((0 + Int.toNat (↑i : Int) * 10 + 7 + 0 + 2 ≤ List.length (opsc (mid l p s i))) ∧ (True)))))))) ⟨[.sl (opsc l) (List.length l) .any, .agg [(I6 p), (I6 s)], U6, .ptr 0 0, .sl [] 0 .nil, .row 1 0 (List.length l), (I6 (↑i : Int)), .ptr 2 0, .sl (opsc l) (List.length l) .any, .row 1 0 (List.length l), .row 1 0 (List.length l), (I6 (↑(List.length l) : Int)), (I6 (↑i : Int)), (B6 (decide ((↑i : Int) < (↑(List.length l) : Int)))), (I6 (↑i : Int)), .ptr 1 (i * 10), .agg [(I6 ((List.getD l i op0).k)), (S6 ((List.getD l i op0).key)), (S6 ((List.getD l i op0).f)), (I6 ((List.getD l i op0).inner)), (I6 ((List.getD l i op0).a)), (I6 ((List.getD l i op0).n)), (S6 ((List.getD l i op0).t)), (I6 ((List.getD l i op0).p)), (I6 ((List.getD l i op0).s)), (I6 ((List.getD l i op0).i))], .ptr 2 7, .ptr 2 7, .agg [(I6 ((List.getD l i op0).p)), (I6 ((List.getD l i op0).s))], .agg [(I6 0), (I6 0)], (B6 true), (B6 true), .ptr 2 7, .ptr 2 9, (I6 ((List.getD l i op0).i)), (B6 ((List.getD l i op0).i != 0)), (B6 ((List.getD l i op0).i != 0)), .row 1 0 (List.length l), (I6 (↑i : Int)), .agg [(I6 p), (I6 s)], .ptr 1 (0 + Int.toNat (↑i : Int) * 10), .ptr 1 (0 + Int.toNat (↑i : Int) * 10 + 7), .ptr 1 (0 + Int.toNat (↑i : Int) * 10 + 7 + 0), U6, .undef], [⟨[(I6 p), (I6 s)], 2, .fresh⟩, ⟨spliceA (opsc (mid l p s i)) (0 + Int.toNat (↑i : Int) * 10 + 7 + 0) [(I6 p), (I6 s)], 10, .fresh⟩, ⟨[(I6 ((List.getD l i op0).k)), (S6 ((List.getD l i op0).key)), (S6 ((List.getD l i op0).f)), (I6 ((List.getD l i op0).inner)), (I6 ((List.getD l i op0).a)), (I6 ((List.getD l i op0).n)), (S6 ((List.getD l i op0).t)), (I6 ((List.getD l i op0).p)), (I6 ((List.getD l i op0).s)), (I6 ((List.getD l i op0).i))], 10, .fresh⟩]⟩ (by kernel_rfl) ⟨trivial, ⟨trivial, ⟨(by simp), ⟨⟨⟨(by omega), (by omega)⟩, (by omega)⟩, ⟨trivial, ⟨trivial, ⟨(by (simp [spliceA_length] <;> omega)), trivial⟩⟩⟩⟩⟩⟩⟩ ?_
        rw [Int.toNat_natCast (i)]
        rw [Nat.zero_add (i * 10)]
        rw [Nat.add_zero (i * 10 + 7)]
        rw [Go.Ops.mid_store (l) (p) (s) (i) (by omega) (by omega) (by omega) (by omega)]
        refine AWP.reg ?_
        refine DerQ.run (TT 2) ⟨[.sl (opsc l) (List.length l) .any, .agg [(I6 p), (I6 s)], U6, .ptr 0 0, .sl [] 0 .nil, .row 1 0 (List.length l), (I6 (↑i : Int)), .ptr 2 0, .sl (opsc l) (List.length l) .any, .row 1 0 (List.length l), .row 1 0 (List.length l), (I6 (↑(List.length l) : Int)), (I6 (IntKind.wrap IntKind.i64 ((↑i : Int) + 1))), (B6 (decide ((↑i : Int) < (↑(List.length l) : Int)))), (I6 (↑i : Int)), .ptr 1 (i * 10), .agg [(I6 ((List.getD l i op0).k)), (S6 ((List.getD l i op0).key)), (S6 ((List.getD l i op0).f)), (I6 ((List.getD l i op0).inner)), (I6 ((List.getD l i op0).a)), (I6 ((List.getD l i op0).n)), (S6 ((List.getD l i op0).t)), (I6 ((List.getD l i op0).p)), (I6 ((List.getD l i op0).s)), (I6 ((List.getD l i op0).i))], .ptr 2 7, .ptr 2 7, .agg [(I6 ((List.getD l i op0).p)), (I6 ((List.getD l i op0).s))], .agg [(I6 0), (I6 0)], (B6 true), (B6 true), .ptr 2 7, .ptr 2 9, (I6 ((List.getD l i op0).i)), (B6 ((List.getD l i op0).i != 0)), (B6 ((List.getD l i op0).i != 0)), .row 1 0 (List.length l), (I6 (↑i : Int)), .agg [(I6 p), (I6 s)], .ptr 1 (i * 10), .ptr 1 (i * 10 + 7), .ptr 1 (i * 10 + 7), (I6 (IntKind.wrap IntKind.i64 ((↑i : Int) + 1))), .undef], [⟨[(I6 p), (I6 s)], 2, .fresh⟩, ⟨opsc (mid l p s (i + 1)), 10, .fresh⟩, ⟨[(I6 ((List.getD l i op0).k)), (S6 ((List.getD l i op0).key)), (S6 ((List.getD l i op0).f)), (I6 ((List.getD l i op0).inner)), (I6 ((List.getD l i op0).a)), (I6 ((List.getD l i op0).n)), (S6 ((List.getD l i op0).t)), (I6 ((List.getD l i op0).p)), (I6 ((List.getD l i op0).s)), (I6 ((List.getD l i op0).i))], 10, .fresh⟩]⟩ (by kernel_rfl) (tt 2) ?_
        rw [IntWalk.i64_in ((↑i : Int) + 1) (by omega)]
        (exact ⟨_, by omega, _, Weak.cut 2 (by kernel_rfl) (by kernel_rfl) (by simp) (by simp [ltAll, AVal.refLt]) (by simp [dataAll, AVal.data]), i + 1, rfl, by omega, rfl⟩; done)
      · have h3' := bne_eq_false_iff_eq.1 h3
        refine AWP.skip ?_
        refine AWP.reg ?_
        refine DerQ.run (TT 2) ⟨[.sl (opsc l) (List.length l) .any, .agg [(I6 p), (I6 s)], U6, .ptr 0 0, .sl [] 0 .nil, .row 1 0 (List.length l), (I6 (↑i : Int)), .ptr 2 0, .sl (opsc l) (List.length l) .any, .row 1 0 (List.length l), .row 1 0 (List.length l), (I6 (↑(List.length l) : Int)), (I6 (IntKind.wrap IntKind.i64 ((↑i : Int) + 1))), (B6 (decide ((↑i : Int) < (↑(List.length l) : Int)))), (I6 (↑i : Int)), .ptr 1 (i * 10), .agg [(I6 ((List.getD l i op0).k)), (S6 ((List.getD l i op0).key)), (S6 ((List.getD l i op0).f)), (I6 ((List.getD l i op0).inner)), (I6 ((List.getD l i op0).a)), (I6 ((List.getD l i op0).n)), (S6 ((List.getD l i op0).t)), (I6 ((List.getD l i op0).p)), (I6 ((List.getD l i op0).s)), (I6 ((List.getD l i op0).i))], .ptr 2 7, .ptr 2 7, .agg [(I6 ((List.getD l i op0).p)), (I6 ((List.getD l i op0).s))], .agg [(I6 0), (I6 0)], (B6 true), (B6 true), .ptr 2 7, .ptr 2 9, (I6 ((List.getD l i op0).i)), (B6 ((List.getD l i op0).i != 0)), (B6 ((List.getD l i op0).i != 0)), U6, U6, U6, U6, U6, U6, (I6 (IntKind.wrap IntKind.i64 ((↑i : Int) + 1))), .undef], [⟨[(I6 p), (I6 s)], 2, .fresh⟩, ⟨opsc (mid l p s i), 10, .fresh⟩, ⟨[(I6 ((List.getD l i op0).k)), (S6 ((List.getD l i op0).key)), (S6 ((List.getD l i op0).f)), (I6 ((List.getD l i op0).inner)), (I6 ((List.getD l i op0).a)), (I6 ((List.getD l i op0).n)), (S6 ((List.getD l i op0).t)), (I6 ((List.getD l i op0).p)), (I6 ((List.getD l i op0).s)), (I6 ((List.getD l i op0).i))], 10, .fresh⟩]⟩ (by kernel_rfl) (tt 2) ?_
        rw [IntWalk.i64_in ((↑i : Int) + 1) (by omega)]
        (rw [mid_same l p s i (by omega) (by grind)]; exact ⟨_, by omega, _, Weak.cut 2 (by kernel_rfl) (by kernel_rfl) (by simp) (by simp [ltAll, AVal.refLt]) (by simp [dataAll, AVal.data]), i + 1, rfl, by omega, rfl⟩; done)
  · have h1' := of_decide_eq_false h1
    refine AWP.exit ?_
    refine AWP.seq ?_
    refine AWP.reg ?_
    refine DerQ.run (TT 2) ⟨[.sl (opsc l) (List.length l) .any, .agg [(I6 p), (I6 s)], U6, .ptr 0 0, .row 1 0 (List.length l), .row 1 0 (List.length l), U6, U6, .sl (opsc l) (List.length l) .any, .row 1 0 (List.length l), .row 1 0 (List.length l), (I6 (↑(List.length l) : Int)), (I6 (↑i : Int)), (B6 (decide ((↑i : Int) < (↑(List.length l) : Int)))), U6, U6, U6, U6, U6, U6, U6, U6, U6, U6, U6, U6, U6, U6, U6, U6, U6, U6, U6, U6, U6, .row 1 0 (List.length l)], [⟨[(I6 p), (I6 s)], 2, .fresh⟩, ⟨opsc (mid l p s i), 10, .fresh⟩]⟩ (by kernel_rfl) (tt 2) ?_
    refine AWP.ret ?_
    refine EvF.fin (.row 1 0 (List.length l)) _ (by simp) (by kernel_rfl) ?_
    refine Shrink.dataK [1] ((dataAll (opsc (mid l p s i)) = true) ∧ (True)) (.sl (List.take (List.length l * 10) (List.drop 0 (opsc (mid l p s i)))) (List.length l) .any) (by kernel_rfl) ⟨(by simp), trivial⟩ ?_ rfl
    (rw [mid_all l p s i (by omega)]; simp only [AVal.anyA, List.drop_zero]; rw [List.take_of_length_le (by simp)]; done)
theorem r_resolve (l : List OpD) (p s : Int) (hx : l.length ≤ 100) : EvD Try.prog 29 [.sl (opsc l) l.length .any, .agg [.sc (.int .i64 p), .sc (.int .i64 s)]] (.sl (opsc (l.map (rs p s))) l.length .any) := by
  refine EvD.body Try.func29 rfl rfl rfl ?_
  refine AWP.seq ?_
  refine AWP.reg ?_
  refine DerQ.run (TT 2) ⟨[.sl (opsc l) (List.length l) .any, .agg [(I6 p), (I6 s)], U6, .ptr 0 0, .sl [] 0 .nil] ++ UU 37, [⟨[(I6 p), (I6 s)], 2, .fresh⟩]⟩ (by kernel_rfl) (tt 2) ?_
  refine AWP.seq ?_
  refine AWP.reg ?_
  refine DerQ.run ((True) ∧ ((True) ∧ (((2 : Nat) ≤ (2 : Nat)) ∧ (True)))) ⟨[.sl (opsc l) (List.length l) .any, .agg [(I6 p), (I6 s)], U6, .ptr 0 0, .sl [] 0 .nil, .ptr 1 0, U6, U6, .agg [(I6 0), (I6 0)]] ++ UU 33, [⟨[(I6 p), (I6 s)], 2, .fresh⟩, ⟨[(I6 0), (I6 0)], 2, .fresh⟩]⟩ (by kernel_rfl) ⟨trivial, ⟨trivial, ⟨(by omega), trivial⟩⟩⟩ ?_
  refine AWP.seq ?_
  refine AWP.reg ?_
  refine DerQ.run ((True) ∧ ((True) ∧ (((List.length (opsc l) = List.length l * 10) ∧ (List.length l ≤ 1073741824)) ∧ ((True) ∧ (True))))) ⟨[.sl (opsc l) (List.length l) .any, .agg [(I6 p), (I6 s)], U6, .ptr 0 0, .sl [] 0 .nil, .ptr 1 0, .row 2 0 (List.length l), U6, .agg [(I6 0), (I6 0)], .sl [] 0 .cap0, .sl (opsc l) (List.length l) .any, .row 2 0 (List.length l)] ++ UU 30, [⟨[(I6 p), (I6 s)], 2, .fresh⟩, ⟨[(I6 0), (I6 0)], 2, .fresh⟩, ⟨opsc l, 10, .fresh⟩]⟩ (by kernel_rfl) ⟨trivial, ⟨trivial, ⟨⟨(by simp), (by omega)⟩, ⟨trivial, trivial⟩⟩⟩⟩ ?_
  refine AWP.seq ?_
  refine AWP.seq ?_
  refine AWP.reg ?_
  refine DerQ.run ((True) ∧ (True)) ⟨[.sl (opsc l) (List.length l) .any, .agg [(I6 p), (I6 s)], U6, .ptr 0 0, .sl [] 0 .nil, .ptr 1 0, .row 2 0 (List.length l), (I6 0), .agg [(I6 0), (I6 0)], .sl [] 0 .cap0, .sl (opsc l) (List.length l) .any, .row 2 0 (List.length l)] ++ UU 30, [⟨[(I6 p), (I6 s)], 2, .fresh⟩, ⟨[(I6 0), (I6 0)], 2, .fresh⟩, ⟨opsc l, 10, .fresh⟩]⟩ (by kernel_rfl) ⟨trivial, trivial⟩ ?_
  refine AWP.block ?_
  refine AWP.loopW [true, true, false, true, true, true, true, true, true, true, true, true, false, false, false, false, false, false, false, false, false, false, false, false, false, false, false, false, false, false, false, false, false, false, false, false, false, false, false, false, false, false] (fun kk st => ∃ (i : Nat), kk = l.length - i ∧ i ≤ l.length ∧ st = ⟨[.sl (opsc l) (List.length l) .any, .agg [(I6 p), (I6 s)], U6, .ptr 0 0, .sl [] 0 .nil, .ptr 1 0, .row 2 0 (List.length l), (I6 (i : Int)), .agg [(I6 0), (I6 0)], .sl [] 0 .cap0, .sl (opsc l) (List.length l) .any, .row 2 0 (List.length l), U6, U6, U6, U6, U6, U6, U6, U6, U6, U6, U6, U6, U6, U6, U6, U6, U6, U6, U6, U6, U6, U6, U6, U6, U6, U6, U6, U6, U6, .undef], [⟨[(I6 p), (I6 s)], 2, .fresh⟩, ⟨[(I6 0), (I6 0)], 2, .fresh⟩, ⟨opsc (mid l p s i), 10, .fresh⟩]⟩) _ ⟨0, rfl, by omega, by rw [← mid_zero]; kernel_rfl⟩ ?_
  rintro kk ss ⟨i, rfl, hi, rfl⟩
  have hml := mid_len l p s i
  refine AWP.seq ?_
  refine AWP.seq ?_
  refine AWP.reg ?_
  refine DerQ.run (TT 4) ⟨[.sl (opsc l) (List.length l) .any, .agg [(I6 p), (I6 s)], U6, .ptr 0 0, .sl [] 0 .nil, .ptr 1 0, .row 2 0 (List.length l), (I6 (↑i : Int)), .agg [(I6 0), (I6 0)], .sl [] 0 .cap0, .sl (opsc l) (List.length l) .any, .row 2 0 (List.length l), (I6 (↑i : Int)), .row 2 0 (List.length l), (I6 (↑(List.length l) : Int)), (B6 (decide ((↑i : Int) < (↑(List.length l) : Int))))] ++ UU 26, [⟨[(I6 p), (I6 s)], 2, .fresh⟩, ⟨[(I6 0), (I6 0)], 2, .fresh⟩, ⟨opsc (mid l p s i), 10, .fresh⟩]⟩ (by kernel_rfl) (tt 4) ?_
  refine AWP.cond (b := decide ((↑i : Int) < (↑(List.length l) : Int))) (by kernel_rfl) (fun h1 => ?_) (fun h1 => ?_)
  · have h1' := of_decide_eq_true h1
    refine AWP.skip ?_
    refine AWP.seq ?_
    refine AWP.block ?_
    refine AWP.seq ?_
    refine AWP.drawX mixed (fun _ => false) (by kernel_rfl) ?_
    refine DerX.pre 7 ((True) ∧ ((True) ∧ ((((0 ≤ (↑i : Int)) ∧ ((↑i : Int) < (↑(List.length l) : Int))) ∧ ((10 : Nat) = (10 : Nat))) ∧ ((True) ∧ ((True) ∧ ((0 + Int.toNat (↑i : Int) * 10 + 7 + 0 + 2 ≤ List.length (opsc (mid l p s i))) ∧ (((2 : Nat) ≤ (2 : Nat)) ∧ (True)))))))) [.row 2 0 (List.length l), (I6 (↑i : Int)), .ptr 2 (0 + Int.toNat (↑i : Int) * 10), .ptr 2 (0 + Int.toNat (↑i : Int) * 10 + 7), .ptr 2 (0 + Int.toNat (↑i : Int) * 10 + 7 + 0), .agg (List.take 2 (List.drop (0 + Int.toNat (↑i : Int) * 10 + 7 + 0) (opsc (mid l p s i)))), .agg [(I6 0), (I6 0)]] ⟨[.sl (opsc l) (List.length l) .any, .agg [(I6 p), (I6 s)], U6, .ptr 0 0, .sl [] 0 .nil, .ptr 1 0, .row 2 0 (List.length l), (I6 (↑i : Int)), .agg [(I6 0), (I6 0)], .sl [] 0 .cap0, .sl (opsc l) (List.length l) .any, .row 2 0 (List.length l), (I6 (↑i : Int)), .row 2 0 (List.length l), (I6 (↑(List.length l) : Int)), (B6 (decide ((↑i : Int) < (↑(List.length l) : Int)))), U6, U6, .row 2 0 (List.length l), (I6 (↑i : Int)), .ptr 2 (0 + Int.toNat (↑i : Int) * 10), .ptr 2 (0 + Int.toNat (↑i : Int) * 10 + 7), .ptr 2 (0 + Int.toNat (↑i : Int) * 10 + 7 + 0), .agg (List.take 2 (List.drop (0 + Int.toNat (↑i : Int) * 10 + 7 + 0) (opsc (mid l p s i)))), .agg [(I6 0), (I6 0)]] ++ UU 17, [⟨[(I6 p), (I6 s)], 2, .fresh⟩, ⟨[(I6 0), (I6 0)], 2, .fresh⟩, ⟨opsc (mid l p s i), 10, .fresh⟩]⟩ (by intro ext; kernel_rfl) (by kernel_rfl) ⟨trivial, ⟨trivial, ⟨⟨⟨(by omega), (by omega)⟩, (by omega)⟩, ⟨trivial, ⟨trivial, ⟨(by (simp [spliceA_length] <;> omega)), ⟨(by omega), trivial⟩⟩⟩⟩⟩⟩⟩ ?_
    rw [Int.toNat_natCast (i)]
    rw [Nat.zero_add (i * 10)]
    rw [Nat.add_zero (i * 10 + 7)]
    rw [Go.Ops.mid_dot (l) (p) (s) (i) (by omega)]
    refine DerX.pre 2 ((((0 < List.length [AVal.sc (Value.int IntKind.i64 (List.getD l i op0).p), AVal.sc (Value.int IntKind.i64 (List.getD l i op0).s)]) ∧ (((0 : Nat) < (2 : Nat)) ∧ (True))) ∧ ((1 < List.length [AVal.sc (Value.int IntKind.i64 (List.getD l i op0).p), AVal.sc (Value.int IntKind.i64 (List.getD l i op0).s)]) ∧ (((1 : Nat) < (2 : Nat)) ∧ (True)))) ∧ ((True) ∧ (True))) [(B6 ((List.getD l i op0).p == 0 && (List.getD l i op0).s == 0)), (B6 ((List.getD l i op0).p == 0 && (List.getD l i op0).s == 0))] ⟨[.sl (opsc l) (List.length l) .any, .agg [(I6 p), (I6 s)], U6, .ptr 0 0, .sl [] 0 .nil, .ptr 1 0, .row 2 0 (List.length l), (I6 (↑i : Int)), .agg [(I6 0), (I6 0)], .sl [] 0 .cap0, .sl (opsc l) (List.length l) .any, .row 2 0 (List.length l), (I6 (↑i : Int)), .row 2 0 (List.length l), (I6 (↑(List.length l) : Int)), (B6 (decide ((↑i : Int) < (↑(List.length l) : Int)))), U6, U6, .row 2 0 (List.length l), (I6 (↑i : Int)), .ptr 2 (i * 10), .ptr 2 (i * 10 + 7), .ptr 2 (i * 10 + 7), .agg [(I6 ((List.getD l i op0).p)), (I6 ((List.getD l i op0).s))], .agg [(I6 0), (I6 0)], (B6 ((List.getD l i op0).p == 0 && (List.getD l i op0).s == 0)), (B6 ((List.getD l i op0).p == 0 && (List.getD l i op0).s == 0))] ++ UU 15, [⟨[(I6 p), (I6 s)], 2, .fresh⟩, ⟨[(I6 0), (I6 0)], 2, .fresh⟩, ⟨opsc (mid l p s i), 10, .fresh⟩]⟩ (by intro ext; kernel_rfl) (by kernel_rfl) ⟨⟨⟨(by simp), ⟨(by omega), trivial⟩⟩, ⟨(by simp), ⟨(by omega), trivial⟩⟩⟩, ⟨trivial, trivial⟩⟩ ?_
    cases h2 : ((List.getD l i op0).p == 0 && (List.getD l i op0).s == 0)
    · have h2' := h2
      simp only [Bool.and_eq_true, Bool.and_eq_false_iff, Bool.or_eq_true, Bool.or_eq_false_iff, Bool.not_eq_true', Bool.not_eq_false', beq_iff_eq, beq_eq_false_iff_ne, decide_eq_true_eq, decide_eq_false_iff_not, ne_eq] at h2'
      refine DerX.pre 8 ((True) ∧ (True)) [(B6 false)] ⟨[.sl (opsc l) (List.length l) .any, .agg [(I6 p), (I6 s)], U6, .ptr 0 0, .sl [] 0 .nil, .ptr 1 0, .row 2 0 (List.length l), (I6 (↑i : Int)), .agg [(I6 0), (I6 0)], .sl [] 0 .cap0, .sl (opsc l) (List.length l) .any, .row 2 0 (List.length l), (I6 (↑i : Int)), .row 2 0 (List.length l), (I6 (↑(List.length l) : Int)), (B6 (decide ((↑i : Int) < (↑(List.length l) : Int)))), U6, U6, .row 2 0 (List.length l), (I6 (↑i : Int)), .ptr 2 (i * 10), .ptr 2 (i * 10 + 7), .ptr 2 (i * 10 + 7), .agg [(I6 ((List.getD l i op0).p)), (I6 ((List.getD l i op0).s))], .agg [(I6 0), (I6 0)], (B6 false), (B6 false), .tup [], .tup [], .tup [], .tup [], .tup [], .tup [], .tup [], (B6 false)] ++ UU 7, [⟨[(I6 p), (I6 s)], 2, .fresh⟩, ⟨[(I6 0), (I6 0)], 2, .fresh⟩, ⟨opsc (mid l p s i), 10, .fresh⟩]⟩ (by intro ext; kernel_rfl) (by kernel_rfl) ⟨trivial, trivial⟩ ?_
      refine DerX.nil ?_
      refine AWP.cond (b := false) (by kernel_rfl) (fun h => nomatch h) (fun _ => ?_)
      refine AWP.skip ?_
      refine AWP.reg ?_
      refine DerQ.run (TT 3) ⟨[.sl (opsc l) (List.length l) .any, .agg [(I6 p), (I6 s)], U6, .ptr 0 0, .sl [] 0 .nil, .ptr 1 0, .row 2 0 (List.length l), (I6 (IntKind.wrap IntKind.i64 ((↑i : Int) + 1))), .agg [(I6 0), (I6 0)], .sl [] 0 .cap0, .sl (opsc l) (List.length l) .any, .row 2 0 (List.length l), (I6 (↑i : Int)), .row 2 0 (List.length l), (I6 (↑(List.length l) : Int)), (B6 (decide ((↑i : Int) < (↑(List.length l) : Int)))), (I6 (↑i : Int)), (I6 (IntKind.wrap IntKind.i64 ((↑i : Int) + 1))), .row 2 0 (List.length l), (I6 (↑i : Int)), .ptr 2 (i * 10), .ptr 2 (i * 10 + 7), .ptr 2 (i * 10 + 7), .agg [(I6 ((List.getD l i op0).p)), (I6 ((List.getD l i op0).s))], .agg [(I6 0), (I6 0)], (B6 false), (B6 false), .tup [], .tup [], .tup [], .tup [], .tup [], .tup [], .tup [], (B6 false)] ++ UU 7, [⟨[(I6 p), (I6 s)], 2, .fresh⟩, ⟨[(I6 0), (I6 0)], 2, .fresh⟩, ⟨opsc (mid l p s i), 10, .fresh⟩]⟩ (by kernel_rfl) (tt 3) ?_
      rw [IntWalk.i64_in ((↑i : Int) + 1) (by omega)]
      (rw [mid_same l p s i (by omega) (by grind)]; exact ⟨_, by omega, _, Weak.cut 3 (by kernel_rfl) (by kernel_rfl) (by simp) (by simp [ltAll, AVal.refLt]) (by simp [dataAll, AVal.data]), i + 1, rfl, by omega, rfl⟩; done)
    · have h2' := h2
      simp only [Bool.and_eq_true, Bool.and_eq_false_iff, Bool.or_eq_true, Bool.or_eq_false_iff, Bool.not_eq_true', Bool.not_eq_false', beq_iff_eq, beq_eq_false_iff_ne, decide_eq_true_eq, decide_eq_false_iff_not, ne_eq] at h2'
      refine DerX.pre 6 ((True) ∧ ((True) ∧ ((((0 ≤ (↑i : Int)) ∧ ((↑i : Int) < (↑(List.length l) : Int))) ∧ ((10 : Nat) = (10 : Nat))) ∧ ((True) ∧ ((True) ∧ ((0 + Int.toNat (↑i : Int) * 10 + 7 + 2 < List.length (opsc (mid l p s i))) ∧ (True))))))) [.row 2 0 (List.length l), (I6 (↑i : Int)), .ptr 2 (0 + Int.toNat (↑i : Int) * 10), .ptr 2 (0 + Int.toNat (↑i : Int) * 10 + 7), .ptr 2 (0 + Int.toNat (↑i : Int) * 10 + 7 + 2), List.getD (opsc (mid l p s i)) (0 + Int.toNat (↑i : Int) * 10 + 7 + 2) AVal.undef] ⟨[.sl (opsc l) (List.length l) .any, .agg [(I6 p), (I6 s)], U6, .ptr 0 0, .sl [] 0 .nil, .ptr 1 0, .row 2 0 (List.length l), (I6 (↑i : Int)), .agg [(I6 0), (I6 0)], .sl [] 0 .cap0, .sl (opsc l) (List.length l) .any, .row 2 0 (List.length l), (I6 (↑i : Int)), .row 2 0 (List.length l), (I6 (↑(List.length l) : Int)), (B6 (decide ((↑i : Int) < (↑(List.length l) : Int)))), U6, U6, .row 2 0 (List.length l), (I6 (↑i : Int)), .ptr 2 (i * 10), .ptr 2 (i * 10 + 7), .ptr 2 (i * 10 + 7), .agg [(I6 ((List.getD l i op0).p)), (I6 ((List.getD l i op0).s))], .agg [(I6 0), (I6 0)], (B6 true), (B6 true), .row 2 0 (List.length l), (I6 (↑i : Int)), .ptr 2 (0 + Int.toNat (↑i : Int) * 10), .ptr 2 (0 + Int.toNat (↑i : Int) * 10 + 7), .ptr 2 (0 + Int.toNat (↑i : Int) * 10 + 7 + 2), List.getD (opsc (mid l p s i)) (0 + Int.toNat (↑i : Int) * 10 + 7 + 2) AVal.undef] ++ UU 9, [⟨[(I6 p), (I6 s)], 2, .fresh⟩, ⟨[(I6 0), (I6 0)], 2, .fresh⟩, ⟨opsc (mid l p s i), 10, .fresh⟩]⟩ (by intro ext; kernel_rfl) (by kernel_rfl) ⟨trivial, ⟨trivial, ⟨⟨⟨(by omega), (by omega)⟩, (by omega)⟩, ⟨trivial, ⟨trivial, ⟨(by (simp [spliceA_length] <;> omega)), trivial⟩⟩⟩⟩⟩⟩ ?_
      rw [Int.toNat_natCast (i)]
      rw [Nat.zero_add (i * 10)]
      rw [Go.Ops.mid_9b (l) (p) (s) (i) (by omega)]
      refine DerX.pre 2 (TT 2) [(B6 ((List.getD l i op0).i != 0)), (B6 ((List.getD l i op0).i != 0))] ⟨[.sl (opsc l) (List.length l) .any, .agg [(I6 p), (I6 s)], U6, .ptr 0 0, .sl [] 0 .nil, .ptr 1 0, .row 2 0 (List.length l), (I6 (↑i : Int)), .agg [(I6 0), (I6 0)], .sl [] 0 .cap0, .sl (opsc l) (List.length l) .any, .row 2 0 (List.length l), (I6 (↑i : Int)), .row 2 0 (List.length l), (I6 (↑(List.length l) : Int)), (B6 (decide ((↑i : Int) < (↑(List.length l) : Int)))), U6, U6, .row 2 0 (List.length l), (I6 (↑i : Int)), .ptr 2 (i * 10), .ptr 2 (i * 10 + 7), .ptr 2 (i * 10 + 7), .agg [(I6 ((List.getD l i op0).p)), (I6 ((List.getD l i op0).s))], .agg [(I6 0), (I6 0)], (B6 true), (B6 true), .row 2 0 (List.length l), (I6 (↑i : Int)), .ptr 2 (i * 10), .ptr 2 (i * 10 + 7), .ptr 2 (i * 10 + 7 + 2), (I6 ((List.getD l i op0).i)), (B6 ((List.getD l i op0).i != 0)), (B6 ((List.getD l i op0).i != 0))] ++ UU 7, [⟨[(I6 p), (I6 s)], 2, .fresh⟩, ⟨[(I6 0), (I6 0)], 2, .fresh⟩, ⟨opsc (mid l p s i), 10, .fresh⟩]⟩ (by intro ext; kernel_rfl) (by kernel_rfl) (tt 2) ?_
      refine DerX.nil ?_
      refine AWP.cond (b := (List.getD l i op0).i != 0) (by kernel_rfl) (fun h3 => ?_) (fun h3 => ?_)
      · have h3' := bne_iff_ne.1 h3
        refine AWP.reg ?_
        refine DerQ.run ((True) ∧ ((True) ∧ ((2 ≤ List.length [(I6 p), (I6 s)]) ∧ ((((0 ≤ (↑i : Int)) ∧ ((↑i : Int) < (↑(List.length l) : Int))) ∧ ((10 : Nat) = (10 : Nat))) ∧ ((True) ∧ ((True) ∧ ((0 + Int.toNat (↑i : Int) * 10 + 7 + 0 + 2 ≤ List.length (opsc (mid l p s i))) ∧ (True)))))))) ⟨[.sl (opsc l) (List.length l) .any, .agg [(I6 p), (I6 s)], U6, .ptr 0 0, .sl [] 0 .nil, .ptr 1 0, .row 2 0 (List.length l), (I6 (↑i : Int)), .agg [(I6 0), (I6 0)], .sl [] 0 .cap0, .sl (opsc l) (List.length l) .any, .row 2 0 (List.length l), (I6 (↑i : Int)), .row 2 0 (List.length l), (I6 (↑(List.length l) : Int)), (B6 (decide ((↑i : Int) < (↑(List.length l) : Int)))), U6, U6, .row 2 0 (List.length l), (I6 (↑i : Int)), .ptr 2 (i * 10), .ptr 2 (i * 10 + 7), .ptr 2 (i * 10 + 7), .agg [(I6 ((List.getD l i op0).p)), (I6 ((List.getD l i op0).s))], .agg [(I6 0), (I6 0)], (B6 true), (B6 true), .row 2 0 (List.length l), (I6 (↑i : Int)), .ptr 2 (i * 10), .ptr 2 (i * 10 + 7), .ptr 2 (i * 10 + 7 + 2), (I6 ((List.getD l i op0).i)), (B6 ((List.getD l i op0).i != 0)), (B6 ((List.getD l i op0).i != 0)), .row 2 0 (List.length l), (I6 (↑i : Int)), .agg [(I6 p), (I6 s)], .ptr 2 (0 + Int.toNat (↑i : Int) * 10), .ptr 2 (0 + Int.toNat (↑i : Int) * 10 + 7), .ptr 2 (0 + Int.toNat (↑i : Int) * 10 + 7 + 0), .undef], [⟨[(I6 p), (I6 s)], 2, .fresh⟩, ⟨[(I6 0), (I6 0)], 2, .fresh⟩, ⟨spliceA (opsc (mid l p s i)) (0 + Int.toNat (↑i : Int) * 10 + 7 + 0) [(I6 p), (I6 s)], 10, .fresh⟩]⟩ (by kernel_rfl) ⟨trivial, ⟨trivial, ⟨(by simp), ⟨⟨⟨(by omega), (by omega)⟩, (by omega)⟩, ⟨trivial, ⟨trivial, ⟨(by (simp [spliceA_length] <;> omega)), trivial⟩⟩⟩⟩⟩⟩⟩ ?_
        rw [Int.toNat_natCast (i)]
        rw [Nat.zero_add (i * 10)]
        rw [Nat.add_zero (i * 10 + 7)]
        rw [Go.Ops.mid_store (l) (p) (s) (i) (by omega) (by omega) (by omega) (by omega)]
        refine AWP.reg ?_
        refine DerQ.run (TT 3) ⟨[.sl (opsc l) (List.length l) .any, .agg [(I6 p), (I6 s)], U6, .ptr 0 0, .sl [] 0 .nil, .ptr 1 0, .row 2 0 (List.length l), (I6 (IntKind.wrap IntKind.i64 ((↑i : Int) + 1))), .agg [(I6 0), (I6 0)], .sl [] 0 .cap0, .sl (opsc l) (List.length l) .any, .row 2 0 (List.length l), (I6 (↑i : Int)), .row 2 0 (List.length l), (I6 (↑(List.length l) : Int)), (B6 (decide ((↑i : Int) < (↑(List.length l) : Int)))), (I6 (↑i : Int)), (I6 (IntKind.wrap IntKind.i64 ((↑i : Int) + 1))), .row 2 0 (List.length l), (I6 (↑i : Int)), .ptr 2 (i * 10), .ptr 2 (i * 10 + 7), .ptr 2 (i * 10 + 7), .agg [(I6 ((List.getD l i op0).p)), (I6 ((List.getD l i op0).s))], .agg [(I6 0), (I6 0)], (B6 true), (B6 true), .row 2 0 (List.length l), (I6 (↑i : Int)), .ptr 2 (i * 10), .ptr 2 (i * 10 + 7), .ptr 2 (i * 10 + 7 + 2), (I6 ((List.getD l i op0).i)), (B6 ((List.getD l i op0).i != 0)), (B6 ((List.getD l i op0).i != 0)), .row 2 0 (List.length l), (I6 (↑i : Int)), .agg [(I6 p), (I6 s)], .ptr 2 (i * 10), .ptr 2 (i * 10 + 7), .ptr 2 (i * 10 + 7), .undef], [⟨[(I6 p), (I6 s)], 2, .fresh⟩, ⟨[(I6 0), (I6 0)], 2, .fresh⟩, ⟨opsc (mid l p s (i + 1)), 10, .fresh⟩]⟩ (by kernel_rfl) (tt 3) ?_
        rw [IntWalk.i64_in ((↑i : Int) + 1) (by omega)]
        (exact ⟨_, by omega, _, Weak.cut 3 (by kernel_rfl) (by kernel_rfl) (by simp) (by simp [ltAll, AVal.refLt]) (by simp [dataAll, AVal.data]), i + 1, rfl, by omega, rfl⟩; done)
      · have h3' := bne_eq_false_iff_eq.1 h3
        refine AWP.skip ?_
        refine AWP.reg ?_
        refine DerQ.run (TT 3) ⟨[.sl (opsc l) (List.length l) .any, .agg [(I6 p), (I6 s)], U6, .ptr 0 0, .sl [] 0 .nil, .ptr 1 0, .row 2 0 (List.length l), (I6 (IntKind.wrap IntKind.i64 ((↑i : Int) + 1))), .agg [(I6 0), (I6 0)], .sl [] 0 .cap0, .sl (opsc l) (List.length l) .any, .row 2 0 (List.length l), (I6 (↑i : Int)), .row 2 0 (List.length l), (I6 (↑(List.length l) : Int)), (B6 (decide ((↑i : Int) < (↑(List.length l) : Int)))), (I6 (↑i : Int)), (I6 (IntKind.wrap IntKind.i64 ((↑i : Int) + 1))), .row 2 0 (List.length l), (I6 (↑i : Int)), .ptr 2 (i * 10), .ptr 2 (i * 10 + 7), .ptr 2 (i * 10 + 7), .agg [(I6 ((List.getD l i op0).p)), (I6 ((List.getD l i op0).s))], .agg [(I6 0), (I6 0)], (B6 true), (B6 true), .row 2 0 (List.length l), (I6 (↑i : Int)), .ptr 2 (i * 10), .ptr 2 (i * 10 + 7), .ptr 2 (i * 10 + 7 + 2), (I6 ((List.getD l i op0).i)), (B6 ((List.getD l i op0).i != 0)), (B6 ((List.getD l i op0).i != 0))] ++ UU 7, [⟨[(I6 p), (I6 s)], 2, .fresh⟩, ⟨[(I6 0), (I6 0)], 2, .fresh⟩, ⟨opsc (mid l p s i), 10, .fresh⟩]⟩ (by kernel_rfl) (tt 3) ?_
        rw [IntWalk.i64_in ((↑i : Int) + 1) (by omega)]
        (rw [mid_same l p s i (by omega) (by grind)]; exact ⟨_, by omega, _, Weak.cut 3 (by kernel_rfl) (by kernel_rfl) (by simp) (by simp [ltAll, AVal.refLt]) (by simp [dataAll, AVal.data]), i + 1, rfl, by omega, rfl⟩; done)
  · have h1' := of_decide_eq_false h1
    refine AWP.exit ?_
    refine AWP.seq ?_
    refine AWP.reg ?_
    refine DerQ.run (TT 2) ⟨[.sl (opsc l) (List.length l) .any, .agg [(I6 p), (I6 s)], U6, .ptr 0 0, .row 2 0 (List.length l), .ptr 1 0, .row 2 0 (List.length l), (I6 (↑i : Int)), .agg [(I6 0), (I6 0)], .sl [] 0 .cap0, .sl (opsc l) (List.length l) .any, .row 2 0 (List.length l), (I6 (↑i : Int)), .row 2 0 (List.length l), (I6 (↑(List.length l) : Int)), (B6 (decide ((↑i : Int) < (↑(List.length l) : Int)))), U6, U6, U6, U6, U6, U6, U6, U6, U6, U6, U6, U6, U6, U6, U6, U6, U6, U6, U6, U6, U6, U6, U6, U6, U6, .row 2 0 (List.length l)], [⟨[(I6 p), (I6 s)], 2, .fresh⟩, ⟨[(I6 0), (I6 0)], 2, .fresh⟩, ⟨opsc (mid l p s i), 10, .fresh⟩]⟩ (by kernel_rfl) (tt 2) ?_
    refine AWP.ret ?_
    refine EvF.fin (.row 2 0 (List.length l)) _ (by simp) (by kernel_rfl) ?_
    refine Shrink.dataK [2] ((dataAll (opsc (mid l p s i)) = true) ∧ (True)) (.sl (List.take (List.length l * 10) (List.drop 0 (opsc (mid l p s i)))) (List.length l) .any) (by kernel_rfl) ⟨(by simp), trivial⟩ ?_ rfl
    (rw [mid_all l p s i (by omega)]; simp only [AVal.anyA, List.drop_zero]; rw [List.take_of_length_le (by simp)]; done)
end Go.Ops
