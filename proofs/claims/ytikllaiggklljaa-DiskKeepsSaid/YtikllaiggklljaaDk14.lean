/- Walks and laws. -/
import Derived.Test.YtikllaiggklljaaDk13
import Derived.Test.YtikllaiggklljaaDk11
import Derived.Test.YtikllaiggklljaaLibC
set_option maxRecDepth 100000
set_option maxHeartbeats 0
set_option linter.unusedSimpArgs false
set_option linter.unusedVariables false
namespace Go.Dk
open Go Go.Abs Go.Proofs
open Go.Chu (concat2)
/-- An act. -/
structure ActD where
  kind : Int
  nm : ByteArray
  d : List Int
  n : Int
def acc (a : ActD) : List AVal := [.sc (.int .i64 a.kind), .sc (.string a.nm), .sl (u8s a.d) a.d.length .any, .sc (.int .i64 a.n)]
def acsc (l : List ActD) : List AVal := l.flatMap acc
def ac0 : ActD := ⟨0, .empty, [], 0⟩
@[simp] theorem acsc_length (l : List ActD) : (acsc l).length = l.length * 4 := recs_length acc 4 (fun _ => rfl) l
@[simp] theorem acsc_data (l : List ActD) : dataAll (acsc l) = true := recs_data acc (fun f => by simp [acc, dataAll, AVal.data]) l
theorem ac_cells (l : List ActD) (i : Nat) (h : i < l.length) : [List.getD (acsc l) (i * 4) .undef, List.getD (acsc l) (i * 4 + 1) .undef, List.getD (acsc l) (i * 4 + 2) .undef, List.getD (acsc l) (i * 4 + 3) .undef] = acc (l.getD i ac0) := by
  have e0 : List.getD (acsc l) (i * 4) .undef = (acc (l.getD i ac0)).getD 0 .undef := recs_get acc 4 (fun _ => rfl) ac0 l i 0 h (by omega)
  have e1 : List.getD (acsc l) (i * 4 + 1) .undef = (acc (l.getD i ac0)).getD 1 .undef := recs_get acc 4 (fun _ => rfl) ac0 l i 1 h (by omega)
  have e2 : List.getD (acsc l) (i * 4 + 2) .undef = (acc (l.getD i ac0)).getD 2 .undef := recs_get acc 4 (fun _ => rfl) ac0 l i 2 h (by omega)
  have e3 : List.getD (acsc l) (i * 4 + 3) .undef = (acc (l.getD i ac0)).getD 3 .undef := recs_get acc 4 (fun _ => rfl) ac0 l i 3 h (by omega)
  rw [e0, e1, e2, e3]; rfl
theorem ac_1 (l : List ActD) (i : Nat) (h : i < l.length) : List.getD (acsc l) (i * 4 + 1) .undef = .sc (.string (l.getD i ac0).nm) := recs_get acc 4 (fun _ => rfl) ac0 l i 1 h (by omega)
theorem ac_2 (l : List ActD) (i : Nat) (h : i < l.length) : List.getD (acsc l) (i * 4 + 2) .undef = .sl (u8s (l.getD i ac0).d) (l.getD i ac0).d.length .any := recs_get acc 4 (fun _ => rfl) ac0 l i 2 h (by omega)
theorem do0 (l : List FileD) (room arm : Int) (dead : Bool) (x : ActD) (hk : x.kind = 0) (l' : List FileD) (n' : Nat) (room' arm' E : Int) (dead' : Bool) (h : EvD Try.prog 42 [.agg [.sl (fisc l) l.length .any, .sc (.int .i64 room), .sc (.int .i64 arm), .sc (.bool dead)], .sc (.string x.nm), .sl (u8s x.d) x.d.length .any] (.tup [.agg [.sl (fisc l') n' .any, .sc (.int .i64 room'), .sc (.int .i64 arm'), .sc (.bool dead')], .sc (.int .i64 E)])) : EvD Try.prog 46 [.agg [.sl (fisc l) l.length .any, .sc (.int .i64 room), .sc (.int .i64 arm), .sc (.bool dead)], .agg (acc x)] (.tup [.agg [.sl (fisc l') n' .any, .sc (.int .i64 room'), .sc (.int .i64 arm'), .sc (.bool dead')], .sc (.int .i64 E)]) := by
  refine EvD.body Try.func46 rfl (by simp [acc, dataAll, AVal.data]) (by simp [dataAll, AVal.data]) ?_
  refine AWP.seq ?_
  refine TO ⟨[.agg [.sl (fisc l) (List.length l) .any, (I6 room), (I6 arm), (B6 dead)], .agg [(I6 (x.kind)), (S6 x.nm), .sl (u8s x.d) (List.length x.d) .any, (I6 (x.n))]] ++ UU 57, []⟩ ?_
  refine AWP.reg (RT 4 ?_)
  refine AWP.seq (AWP.seq (KL [0, 1] ⟨[U6, U6, .ptr 0 0, .ptr 1 0, .ptr 2 0, (I6 0)] ++ UU 53, [⟨[.sl (fisc l) (List.length l) .any, (I6 room), (I6 arm), (B6 dead)], 4, .fresh⟩, ⟨[(I6 (x.kind)), (S6 x.nm), .sl (u8s x.d) (List.length x.d) .any, (I6 (x.n))], 4, .fresh⟩, ⟨[.sl [] 0 .nil, (I6 0), (I6 0), (B6 false)], 4, .fresh⟩]⟩ ?_))
  refine AWP.reg (RI (True ∧ 0 < 4 ∧ True) ⟨trivial, (by omega), trivial⟩ ?_)
  refine AWP.block (AWP.seq (KL [6] ⟨[U6, U6, .ptr 0 0, .ptr 1 0, .ptr 2 0, (I6 0), U6, (I6 (x.kind))] ++ UU 51, [⟨[.sl (fisc l) (List.length l) .any, (I6 room), (I6 arm), (B6 dead)], 4, .fresh⟩, ⟨[(I6 (x.kind)), (S6 x.nm), .sl (u8s x.d) (List.length x.d) .any, (I6 (x.n))], 4, .fresh⟩, ⟨[.sl [] 0 .nil, (I6 0), (I6 0), (B6 false)], 4, .fresh⟩]⟩ ?_))
  refine AWP.reg (RT 2 ?_)
  refine KL [9] ⟨[U6, U6, .ptr 0 0, .ptr 1 0, .ptr 2 0, (I6 0), U6, (I6 (x.kind)), (B6 (x.kind == 0))] ++ UU 50, [⟨[.sl (fisc l) (List.length l) .any, (I6 room), (I6 arm), (B6 dead)], 4, .fresh⟩, ⟨[(I6 (x.kind)), (S6 x.nm), .sl (u8s x.d) (List.length x.d) .any, (I6 (x.n))], 4, .fresh⟩, ⟨[.sl [] 0 .nil, (I6 0), (I6 0), (B6 false)], 4, .fresh⟩]⟩ ?_
  refine CN (x.kind == 0) (fun h1 => ?_) (fun h1 => ?_)
  · have h1' := eq_of_beq h1
    refine SQ (PI 5 (4 ≤ 4 ∧ True ∧ 1 < 4 ∧ True ∧ 2 < 4 ∧ True) ⟨(by omega), trivial, (by omega), trivial, (by omega), trivial⟩ ?_)
    refine CD (h) ?_
    refine RI (True ∧ True ∧ 4 ≤ 4 ∧ True ∧ True) ⟨trivial, trivial, (by omega), trivial, trivial⟩ ?_
    refine AWP.ret FA
  · have h1' := ne_of_beq_false h1
    exfalso; omega
theorem do1 (l : List FileD) (room arm : Int) (dead : Bool) (x : ActD) (hk : x.kind = 1) (l' : List FileD) (n' : Nat) (room' arm' E : Int) (dead' : Bool) (h : EvD Try.prog 62 [.agg [.sl (fisc l) l.length .any, .sc (.int .i64 room), .sc (.int .i64 arm), .sc (.bool dead)], .sc (.string x.nm), .sl (u8s x.d) x.d.length .any] (.tup [.agg [.sl (fisc l') n' .any, .sc (.int .i64 room'), .sc (.int .i64 arm'), .sc (.bool dead')], .sc (.int .i64 E)])) : EvD Try.prog 46 [.agg [.sl (fisc l) l.length .any, .sc (.int .i64 room), .sc (.int .i64 arm), .sc (.bool dead)], .agg (acc x)] (.tup [.agg [.sl (fisc l') n' .any, .sc (.int .i64 room'), .sc (.int .i64 arm'), .sc (.bool dead')], .sc (.int .i64 E)]) := by
  refine EvD.body Try.func46 rfl (by simp [acc, dataAll, AVal.data]) (by simp [dataAll, AVal.data]) ?_
  refine AWP.seq ?_
  refine TO ⟨[.agg [.sl (fisc l) (List.length l) .any, (I6 room), (I6 arm), (B6 dead)], .agg [(I6 (x.kind)), (S6 x.nm), .sl (u8s x.d) (List.length x.d) .any, (I6 (x.n))]] ++ UU 57, []⟩ ?_
  refine AWP.reg (RT 4 ?_)
  refine AWP.seq (AWP.seq (KL [0, 1] ⟨[U6, U6, .ptr 0 0, .ptr 1 0, .ptr 2 0, (I6 0)] ++ UU 53, [⟨[.sl (fisc l) (List.length l) .any, (I6 room), (I6 arm), (B6 dead)], 4, .fresh⟩, ⟨[(I6 (x.kind)), (S6 x.nm), .sl (u8s x.d) (List.length x.d) .any, (I6 (x.n))], 4, .fresh⟩, ⟨[.sl [] 0 .nil, (I6 0), (I6 0), (B6 false)], 4, .fresh⟩]⟩ ?_))
  refine AWP.reg (RI (True ∧ 0 < 4 ∧ True) ⟨trivial, (by omega), trivial⟩ ?_)
  refine AWP.block (AWP.seq (KL [6] ⟨[U6, U6, .ptr 0 0, .ptr 1 0, .ptr 2 0, (I6 0), U6, (I6 (x.kind))] ++ UU 51, [⟨[.sl (fisc l) (List.length l) .any, (I6 room), (I6 arm), (B6 dead)], 4, .fresh⟩, ⟨[(I6 (x.kind)), (S6 x.nm), .sl (u8s x.d) (List.length x.d) .any, (I6 (x.n))], 4, .fresh⟩, ⟨[.sl [] 0 .nil, (I6 0), (I6 0), (B6 false)], 4, .fresh⟩]⟩ ?_))
  refine AWP.reg (RT 2 ?_)
  refine KL [9] ⟨[U6, U6, .ptr 0 0, .ptr 1 0, .ptr 2 0, (I6 0), U6, (I6 (x.kind)), (B6 (x.kind == 0))] ++ UU 50, [⟨[.sl (fisc l) (List.length l) .any, (I6 room), (I6 arm), (B6 dead)], 4, .fresh⟩, ⟨[(I6 (x.kind)), (S6 x.nm), .sl (u8s x.d) (List.length x.d) .any, (I6 (x.n))], 4, .fresh⟩, ⟨[.sl [] 0 .nil, (I6 0), (I6 0), (B6 false)], 4, .fresh⟩]⟩ ?_
  refine CN (x.kind == 0) (fun h1 => ?_) (fun h1 => ?_)
  · have h1' := eq_of_beq h1
    exfalso; omega
  · have h1' := ne_of_beq_false h1
    refine SQ (RT 2 ?_)
    refine KL [8, 19] ⟨[U6, U6, .ptr 0 0, .ptr 1 0, .ptr 2 0, (I6 0), U6, (I6 (x.kind))] ++ UU 10 ++ [(B6 (x.kind == 1))] ++ UU 40, [⟨[.sl (fisc l) (List.length l) .any, (I6 room), (I6 arm), (B6 dead)], 4, .fresh⟩, ⟨[(I6 (x.kind)), (S6 x.nm), .sl (u8s x.d) (List.length x.d) .any, (I6 (x.n))], 4, .fresh⟩, ⟨[.sl [] 0 .nil, (I6 0), (I6 0), (B6 false)], 4, .fresh⟩]⟩ ?_
    refine CN (x.kind == 1) (fun h2 => ?_) (fun h2 => ?_)
    · have h2' := eq_of_beq h2
      refine SQ (PI 5 (4 ≤ 4 ∧ True ∧ 1 < 4 ∧ True ∧ 2 < 4 ∧ True) ⟨(by omega), trivial, (by omega), trivial, (by omega), trivial⟩ ?_)
      refine CD (h) ?_
      refine RI (True ∧ True ∧ 4 ≤ 4 ∧ True ∧ True) ⟨trivial, trivial, (by omega), trivial, trivial⟩ ?_
      refine AWP.ret FA
    · have h2' := ne_of_beq_false h2
      exfalso; omega
theorem do2 (l : List FileD) (room arm : Int) (dead : Bool) (x : ActD) (hk : x.kind = 2) (l' : List FileD) (n' : Nat) (room' arm' E : Int) (dead' : Bool) (h : EvD Try.prog 63 [.agg [.sl (fisc l) l.length .any, .sc (.int .i64 room), .sc (.int .i64 arm), .sc (.bool dead)], .sc (.string x.nm)] (.tup [.agg [.sl (fisc l') n' .any, .sc (.int .i64 room'), .sc (.int .i64 arm'), .sc (.bool dead')], .sc (.int .i64 E)])) : EvD Try.prog 46 [.agg [.sl (fisc l) l.length .any, .sc (.int .i64 room), .sc (.int .i64 arm), .sc (.bool dead)], .agg (acc x)] (.tup [.agg [.sl (fisc l') n' .any, .sc (.int .i64 room'), .sc (.int .i64 arm'), .sc (.bool dead')], .sc (.int .i64 E)]) := by
  refine EvD.body Try.func46 rfl (by simp [acc, dataAll, AVal.data]) (by simp [dataAll, AVal.data]) ?_
  refine AWP.seq ?_
  refine TO ⟨[.agg [.sl (fisc l) (List.length l) .any, (I6 room), (I6 arm), (B6 dead)], .agg [(I6 (x.kind)), (S6 x.nm), .sl (u8s x.d) (List.length x.d) .any, (I6 (x.n))]] ++ UU 57, []⟩ ?_
  refine AWP.reg (RT 4 ?_)
  refine AWP.seq (AWP.seq (KL [0, 1] ⟨[U6, U6, .ptr 0 0, .ptr 1 0, .ptr 2 0, (I6 0)] ++ UU 53, [⟨[.sl (fisc l) (List.length l) .any, (I6 room), (I6 arm), (B6 dead)], 4, .fresh⟩, ⟨[(I6 (x.kind)), (S6 x.nm), .sl (u8s x.d) (List.length x.d) .any, (I6 (x.n))], 4, .fresh⟩, ⟨[.sl [] 0 .nil, (I6 0), (I6 0), (B6 false)], 4, .fresh⟩]⟩ ?_))
  refine AWP.reg (RI (True ∧ 0 < 4 ∧ True) ⟨trivial, (by omega), trivial⟩ ?_)
  refine AWP.block (AWP.seq (KL [6] ⟨[U6, U6, .ptr 0 0, .ptr 1 0, .ptr 2 0, (I6 0), U6, (I6 (x.kind))] ++ UU 51, [⟨[.sl (fisc l) (List.length l) .any, (I6 room), (I6 arm), (B6 dead)], 4, .fresh⟩, ⟨[(I6 (x.kind)), (S6 x.nm), .sl (u8s x.d) (List.length x.d) .any, (I6 (x.n))], 4, .fresh⟩, ⟨[.sl [] 0 .nil, (I6 0), (I6 0), (B6 false)], 4, .fresh⟩]⟩ ?_))
  refine AWP.reg (RT 2 ?_)
  refine KL [9] ⟨[U6, U6, .ptr 0 0, .ptr 1 0, .ptr 2 0, (I6 0), U6, (I6 (x.kind)), (B6 (x.kind == 0))] ++ UU 50, [⟨[.sl (fisc l) (List.length l) .any, (I6 room), (I6 arm), (B6 dead)], 4, .fresh⟩, ⟨[(I6 (x.kind)), (S6 x.nm), .sl (u8s x.d) (List.length x.d) .any, (I6 (x.n))], 4, .fresh⟩, ⟨[.sl [] 0 .nil, (I6 0), (I6 0), (B6 false)], 4, .fresh⟩]⟩ ?_
  refine CN (x.kind == 0) (fun h1 => ?_) (fun h1 => ?_)
  · have h1' := eq_of_beq h1
    exfalso; omega
  · have h1' := ne_of_beq_false h1
    refine SQ (RT 2 ?_)
    refine KL [8, 19] ⟨[U6, U6, .ptr 0 0, .ptr 1 0, .ptr 2 0, (I6 0), U6, (I6 (x.kind))] ++ UU 10 ++ [(B6 (x.kind == 1))] ++ UU 40, [⟨[.sl (fisc l) (List.length l) .any, (I6 room), (I6 arm), (B6 dead)], 4, .fresh⟩, ⟨[(I6 (x.kind)), (S6 x.nm), .sl (u8s x.d) (List.length x.d) .any, (I6 (x.n))], 4, .fresh⟩, ⟨[.sl [] 0 .nil, (I6 0), (I6 0), (B6 false)], 4, .fresh⟩]⟩ ?_
    refine CN (x.kind == 1) (fun h2 => ?_) (fun h2 => ?_)
    · have h2' := eq_of_beq h2
      exfalso; omega
    · have h2' := ne_of_beq_false h2
      refine SQ (RT 2 ?_)
      refine KL [18, 29] ⟨[U6, U6, .ptr 0 0, .ptr 1 0, .ptr 2 0, (I6 0), U6, (I6 (x.kind))] ++ UU 20 ++ [(B6 (x.kind == 2))] ++ UU 30, [⟨[.sl (fisc l) (List.length l) .any, (I6 room), (I6 arm), (B6 dead)], 4, .fresh⟩, ⟨[(I6 (x.kind)), (S6 x.nm), .sl (u8s x.d) (List.length x.d) .any, (I6 (x.n))], 4, .fresh⟩, ⟨[.sl [] 0 .nil, (I6 0), (I6 0), (B6 false)], 4, .fresh⟩]⟩ ?_
      refine CN (x.kind == 2) (fun h3 => ?_) (fun h3 => ?_)
      · have h3' := eq_of_beq h3
        refine SQ (PI 3 (4 ≤ 4 ∧ True ∧ 1 < 4 ∧ True) ⟨(by omega), trivial, (by omega), trivial⟩ ?_)
        refine CD (h) ?_
        refine RI (True ∧ True ∧ 4 ≤ 4 ∧ True ∧ True) ⟨trivial, trivial, (by omega), trivial, trivial⟩ ?_
        refine AWP.ret FA
      · have h3' := ne_of_beq_false h3
        exfalso; omega
theorem do3 (l : List FileD) (room arm : Int) (dead : Bool) (x : ActD) (hk : x.kind = 3) (l' : List FileD) (n' : Nat) (room' arm' E : Int) (dead' : Bool) (h : EvD Try.prog 64 [.agg [.sl (fisc l) l.length .any, .sc (.int .i64 room), .sc (.int .i64 arm), .sc (.bool dead)], .sc (.string x.nm)] (.tup [.agg [.sl (fisc l') n' .any, .sc (.int .i64 room'), .sc (.int .i64 arm'), .sc (.bool dead')], .sc (.int .i64 E)])) : EvD Try.prog 46 [.agg [.sl (fisc l) l.length .any, .sc (.int .i64 room), .sc (.int .i64 arm), .sc (.bool dead)], .agg (acc x)] (.tup [.agg [.sl (fisc l') n' .any, .sc (.int .i64 room'), .sc (.int .i64 arm'), .sc (.bool dead')], .sc (.int .i64 E)]) := by
  refine EvD.body Try.func46 rfl (by simp [acc, dataAll, AVal.data]) (by simp [dataAll, AVal.data]) ?_
  refine AWP.seq ?_
  refine TO ⟨[.agg [.sl (fisc l) (List.length l) .any, (I6 room), (I6 arm), (B6 dead)], .agg [(I6 (x.kind)), (S6 x.nm), .sl (u8s x.d) (List.length x.d) .any, (I6 (x.n))]] ++ UU 57, []⟩ ?_
  refine AWP.reg (RT 4 ?_)
  refine AWP.seq (AWP.seq (KL [0, 1] ⟨[U6, U6, .ptr 0 0, .ptr 1 0, .ptr 2 0, (I6 0)] ++ UU 53, [⟨[.sl (fisc l) (List.length l) .any, (I6 room), (I6 arm), (B6 dead)], 4, .fresh⟩, ⟨[(I6 (x.kind)), (S6 x.nm), .sl (u8s x.d) (List.length x.d) .any, (I6 (x.n))], 4, .fresh⟩, ⟨[.sl [] 0 .nil, (I6 0), (I6 0), (B6 false)], 4, .fresh⟩]⟩ ?_))
  refine AWP.reg (RI (True ∧ 0 < 4 ∧ True) ⟨trivial, (by omega), trivial⟩ ?_)
  refine AWP.block (AWP.seq (KL [6] ⟨[U6, U6, .ptr 0 0, .ptr 1 0, .ptr 2 0, (I6 0), U6, (I6 (x.kind))] ++ UU 51, [⟨[.sl (fisc l) (List.length l) .any, (I6 room), (I6 arm), (B6 dead)], 4, .fresh⟩, ⟨[(I6 (x.kind)), (S6 x.nm), .sl (u8s x.d) (List.length x.d) .any, (I6 (x.n))], 4, .fresh⟩, ⟨[.sl [] 0 .nil, (I6 0), (I6 0), (B6 false)], 4, .fresh⟩]⟩ ?_))
  refine AWP.reg (RT 2 ?_)
  refine KL [9] ⟨[U6, U6, .ptr 0 0, .ptr 1 0, .ptr 2 0, (I6 0), U6, (I6 (x.kind)), (B6 (x.kind == 0))] ++ UU 50, [⟨[.sl (fisc l) (List.length l) .any, (I6 room), (I6 arm), (B6 dead)], 4, .fresh⟩, ⟨[(I6 (x.kind)), (S6 x.nm), .sl (u8s x.d) (List.length x.d) .any, (I6 (x.n))], 4, .fresh⟩, ⟨[.sl [] 0 .nil, (I6 0), (I6 0), (B6 false)], 4, .fresh⟩]⟩ ?_
  refine CN (x.kind == 0) (fun h1 => ?_) (fun h1 => ?_)
  · have h1' := eq_of_beq h1
    exfalso; omega
  · have h1' := ne_of_beq_false h1
    refine SQ (RT 2 ?_)
    refine KL [8, 19] ⟨[U6, U6, .ptr 0 0, .ptr 1 0, .ptr 2 0, (I6 0), U6, (I6 (x.kind))] ++ UU 10 ++ [(B6 (x.kind == 1))] ++ UU 40, [⟨[.sl (fisc l) (List.length l) .any, (I6 room), (I6 arm), (B6 dead)], 4, .fresh⟩, ⟨[(I6 (x.kind)), (S6 x.nm), .sl (u8s x.d) (List.length x.d) .any, (I6 (x.n))], 4, .fresh⟩, ⟨[.sl [] 0 .nil, (I6 0), (I6 0), (B6 false)], 4, .fresh⟩]⟩ ?_
    refine CN (x.kind == 1) (fun h2 => ?_) (fun h2 => ?_)
    · have h2' := eq_of_beq h2
      exfalso; omega
    · have h2' := ne_of_beq_false h2
      refine SQ (RT 2 ?_)
      refine KL [18, 29] ⟨[U6, U6, .ptr 0 0, .ptr 1 0, .ptr 2 0, (I6 0), U6, (I6 (x.kind))] ++ UU 20 ++ [(B6 (x.kind == 2))] ++ UU 30, [⟨[.sl (fisc l) (List.length l) .any, (I6 room), (I6 arm), (B6 dead)], 4, .fresh⟩, ⟨[(I6 (x.kind)), (S6 x.nm), .sl (u8s x.d) (List.length x.d) .any, (I6 (x.n))], 4, .fresh⟩, ⟨[.sl [] 0 .nil, (I6 0), (I6 0), (B6 false)], 4, .fresh⟩]⟩ ?_
      refine CN (x.kind == 2) (fun h3 => ?_) (fun h3 => ?_)
      · have h3' := eq_of_beq h3
        exfalso; omega
      · have h3' := ne_of_beq_false h3
        refine SQ (RT 2 ?_)
        refine KL [28, 37] ⟨[U6, U6, .ptr 0 0, .ptr 1 0, .ptr 2 0, (I6 0), U6, (I6 (x.kind))] ++ UU 28 ++ [(B6 (x.kind == 3))] ++ UU 22, [⟨[.sl (fisc l) (List.length l) .any, (I6 room), (I6 arm), (B6 dead)], 4, .fresh⟩, ⟨[(I6 (x.kind)), (S6 x.nm), .sl (u8s x.d) (List.length x.d) .any, (I6 (x.n))], 4, .fresh⟩, ⟨[.sl [] 0 .nil, (I6 0), (I6 0), (B6 false)], 4, .fresh⟩]⟩ ?_
        refine CN (x.kind == 3) (fun h4 => ?_) (fun h4 => ?_)
        · have h4' := eq_of_beq h4
          refine SQ (PI 3 (4 ≤ 4 ∧ True ∧ 1 < 4 ∧ True) ⟨(by omega), trivial, (by omega), trivial⟩ ?_)
          refine CD (h) ?_
          refine RI (True ∧ True ∧ 4 ≤ 4 ∧ True ∧ True) ⟨trivial, trivial, (by omega), trivial, trivial⟩ ?_
          refine AWP.ret FA
        · have h4' := ne_of_beq_false h4
          exfalso; omega
theorem do4 (l : List FileD) (room arm : Int) (dead : Bool) (x : ActD) (hk : x.kind = 4) (l' : List FileD) (n' : Nat) (room' arm' E : Int) (dead' : Bool) (h : EvD Try.prog 41 [.agg [.sl (fisc l) l.length .any, .sc (.int .i64 room), .sc (.int .i64 arm), .sc (.bool dead)], .sc (.int .i64 x.n)] (.tup [.agg [.sl (fisc l') n' .any, .sc (.int .i64 room'), .sc (.int .i64 arm'), .sc (.bool dead')], .sc (.int .i64 E)])) : EvD Try.prog 46 [.agg [.sl (fisc l) l.length .any, .sc (.int .i64 room), .sc (.int .i64 arm), .sc (.bool dead)], .agg (acc x)] (.tup [.agg [.sl (fisc l') n' .any, .sc (.int .i64 room'), .sc (.int .i64 arm'), .sc (.bool dead')], .sc (.int .i64 E)]) := by
  refine EvD.body Try.func46 rfl (by simp [acc, dataAll, AVal.data]) (by simp [dataAll, AVal.data]) ?_
  refine AWP.seq ?_
  refine TO ⟨[.agg [.sl (fisc l) (List.length l) .any, (I6 room), (I6 arm), (B6 dead)], .agg [(I6 (x.kind)), (S6 x.nm), .sl (u8s x.d) (List.length x.d) .any, (I6 (x.n))]] ++ UU 57, []⟩ ?_
  refine AWP.reg (RT 4 ?_)
  refine AWP.seq (AWP.seq (KL [0, 1] ⟨[U6, U6, .ptr 0 0, .ptr 1 0, .ptr 2 0, (I6 0)] ++ UU 53, [⟨[.sl (fisc l) (List.length l) .any, (I6 room), (I6 arm), (B6 dead)], 4, .fresh⟩, ⟨[(I6 (x.kind)), (S6 x.nm), .sl (u8s x.d) (List.length x.d) .any, (I6 (x.n))], 4, .fresh⟩, ⟨[.sl [] 0 .nil, (I6 0), (I6 0), (B6 false)], 4, .fresh⟩]⟩ ?_))
  refine AWP.reg (RI (True ∧ 0 < 4 ∧ True) ⟨trivial, (by omega), trivial⟩ ?_)
  refine AWP.block (AWP.seq (KL [6] ⟨[U6, U6, .ptr 0 0, .ptr 1 0, .ptr 2 0, (I6 0), U6, (I6 (x.kind))] ++ UU 51, [⟨[.sl (fisc l) (List.length l) .any, (I6 room), (I6 arm), (B6 dead)], 4, .fresh⟩, ⟨[(I6 (x.kind)), (S6 x.nm), .sl (u8s x.d) (List.length x.d) .any, (I6 (x.n))], 4, .fresh⟩, ⟨[.sl [] 0 .nil, (I6 0), (I6 0), (B6 false)], 4, .fresh⟩]⟩ ?_))
  refine AWP.reg (RT 2 ?_)
  refine KL [9] ⟨[U6, U6, .ptr 0 0, .ptr 1 0, .ptr 2 0, (I6 0), U6, (I6 (x.kind)), (B6 (x.kind == 0))] ++ UU 50, [⟨[.sl (fisc l) (List.length l) .any, (I6 room), (I6 arm), (B6 dead)], 4, .fresh⟩, ⟨[(I6 (x.kind)), (S6 x.nm), .sl (u8s x.d) (List.length x.d) .any, (I6 (x.n))], 4, .fresh⟩, ⟨[.sl [] 0 .nil, (I6 0), (I6 0), (B6 false)], 4, .fresh⟩]⟩ ?_
  refine CN (x.kind == 0) (fun h1 => ?_) (fun h1 => ?_)
  · have h1' := eq_of_beq h1
    exfalso; omega
  · have h1' := ne_of_beq_false h1
    refine SQ (RT 2 ?_)
    refine KL [8, 19] ⟨[U6, U6, .ptr 0 0, .ptr 1 0, .ptr 2 0, (I6 0), U6, (I6 (x.kind))] ++ UU 10 ++ [(B6 (x.kind == 1))] ++ UU 40, [⟨[.sl (fisc l) (List.length l) .any, (I6 room), (I6 arm), (B6 dead)], 4, .fresh⟩, ⟨[(I6 (x.kind)), (S6 x.nm), .sl (u8s x.d) (List.length x.d) .any, (I6 (x.n))], 4, .fresh⟩, ⟨[.sl [] 0 .nil, (I6 0), (I6 0), (B6 false)], 4, .fresh⟩]⟩ ?_
    refine CN (x.kind == 1) (fun h2 => ?_) (fun h2 => ?_)
    · have h2' := eq_of_beq h2
      exfalso; omega
    · have h2' := ne_of_beq_false h2
      refine SQ (RT 2 ?_)
      refine KL [18, 29] ⟨[U6, U6, .ptr 0 0, .ptr 1 0, .ptr 2 0, (I6 0), U6, (I6 (x.kind))] ++ UU 20 ++ [(B6 (x.kind == 2))] ++ UU 30, [⟨[.sl (fisc l) (List.length l) .any, (I6 room), (I6 arm), (B6 dead)], 4, .fresh⟩, ⟨[(I6 (x.kind)), (S6 x.nm), .sl (u8s x.d) (List.length x.d) .any, (I6 (x.n))], 4, .fresh⟩, ⟨[.sl [] 0 .nil, (I6 0), (I6 0), (B6 false)], 4, .fresh⟩]⟩ ?_
      refine CN (x.kind == 2) (fun h3 => ?_) (fun h3 => ?_)
      · have h3' := eq_of_beq h3
        exfalso; omega
      · have h3' := ne_of_beq_false h3
        refine SQ (RT 2 ?_)
        refine KL [28, 37] ⟨[U6, U6, .ptr 0 0, .ptr 1 0, .ptr 2 0, (I6 0), U6, (I6 (x.kind))] ++ UU 28 ++ [(B6 (x.kind == 3))] ++ UU 22, [⟨[.sl (fisc l) (List.length l) .any, (I6 room), (I6 arm), (B6 dead)], 4, .fresh⟩, ⟨[(I6 (x.kind)), (S6 x.nm), .sl (u8s x.d) (List.length x.d) .any, (I6 (x.n))], 4, .fresh⟩, ⟨[.sl [] 0 .nil, (I6 0), (I6 0), (B6 false)], 4, .fresh⟩]⟩ ?_
        refine CN (x.kind == 3) (fun h4 => ?_) (fun h4 => ?_)
        · have h4' := eq_of_beq h4
          exfalso; omega
        · have h4' := ne_of_beq_false h4
          refine SQ (RT 2 ?_)
          refine KL [36, 45] ⟨[U6, U6, .ptr 0 0, .ptr 1 0, .ptr 2 0, (I6 0), U6, (I6 (x.kind))] ++ UU 36 ++ [(B6 (x.kind == 4))] ++ UU 14, [⟨[.sl (fisc l) (List.length l) .any, (I6 room), (I6 arm), (B6 dead)], 4, .fresh⟩, ⟨[(I6 (x.kind)), (S6 x.nm), .sl (u8s x.d) (List.length x.d) .any, (I6 (x.n))], 4, .fresh⟩, ⟨[.sl [] 0 .nil, (I6 0), (I6 0), (B6 false)], 4, .fresh⟩]⟩ ?_
          refine CN (x.kind == 4) (fun h5 => ?_) (fun h5 => ?_)
          · have h5' := eq_of_beq h5
            refine SQ (PI 3 (4 ≤ 4 ∧ True ∧ 3 < 4 ∧ True) ⟨(by omega), trivial, (by omega), trivial⟩ ?_)
            refine CD (h) ?_
            refine RI (True ∧ True ∧ 4 ≤ 4 ∧ True ∧ True) ⟨trivial, trivial, (by omega), trivial, trivial⟩ ?_
            refine AWP.ret FA
          · have h5' := ne_of_beq_false h5
            exfalso; omega
theorem do5 (l : List FileD) (room arm : Int) (dead : Bool) (x : ActD) (hk : x.kind = 5) (l' : List FileD) (n' : Nat) (room' arm' : Int) (dead' : Bool) (h : EvD Try.prog 44 [.agg [.sl (fisc l) l.length .any, .sc (.int .i64 room), .sc (.int .i64 arm), .sc (.bool dead)], .sc (.int .i64 x.n)] (.agg [.sl (fisc l') n' .any, .sc (.int .i64 room'), .sc (.int .i64 arm'), .sc (.bool dead')])) : EvD Try.prog 46 [.agg [.sl (fisc l) l.length .any, .sc (.int .i64 room), .sc (.int .i64 arm), .sc (.bool dead)], .agg (acc x)] (.tup [.agg [.sl (fisc l') n' .any, .sc (.int .i64 room'), .sc (.int .i64 arm'), .sc (.bool dead')], .sc (.int .i64 0)]) := by
  refine EvD.body Try.func46 rfl (by simp [acc, dataAll, AVal.data]) (by simp [dataAll, AVal.data]) ?_
  refine AWP.seq ?_
  refine TO ⟨[.agg [.sl (fisc l) (List.length l) .any, (I6 room), (I6 arm), (B6 dead)], .agg [(I6 (x.kind)), (S6 x.nm), .sl (u8s x.d) (List.length x.d) .any, (I6 (x.n))]] ++ UU 57, []⟩ ?_
  refine AWP.reg (RT 4 ?_)
  refine AWP.seq (AWP.seq (KL [0, 1] ⟨[U6, U6, .ptr 0 0, .ptr 1 0, .ptr 2 0, (I6 0)] ++ UU 53, [⟨[.sl (fisc l) (List.length l) .any, (I6 room), (I6 arm), (B6 dead)], 4, .fresh⟩, ⟨[(I6 (x.kind)), (S6 x.nm), .sl (u8s x.d) (List.length x.d) .any, (I6 (x.n))], 4, .fresh⟩, ⟨[.sl [] 0 .nil, (I6 0), (I6 0), (B6 false)], 4, .fresh⟩]⟩ ?_))
  refine AWP.reg (RI (True ∧ 0 < 4 ∧ True) ⟨trivial, (by omega), trivial⟩ ?_)
  refine AWP.block (AWP.seq (KL [6] ⟨[U6, U6, .ptr 0 0, .ptr 1 0, .ptr 2 0, (I6 0), U6, (I6 (x.kind))] ++ UU 51, [⟨[.sl (fisc l) (List.length l) .any, (I6 room), (I6 arm), (B6 dead)], 4, .fresh⟩, ⟨[(I6 (x.kind)), (S6 x.nm), .sl (u8s x.d) (List.length x.d) .any, (I6 (x.n))], 4, .fresh⟩, ⟨[.sl [] 0 .nil, (I6 0), (I6 0), (B6 false)], 4, .fresh⟩]⟩ ?_))
  refine AWP.reg (RT 2 ?_)
  refine KL [9] ⟨[U6, U6, .ptr 0 0, .ptr 1 0, .ptr 2 0, (I6 0), U6, (I6 (x.kind)), (B6 (x.kind == 0))] ++ UU 50, [⟨[.sl (fisc l) (List.length l) .any, (I6 room), (I6 arm), (B6 dead)], 4, .fresh⟩, ⟨[(I6 (x.kind)), (S6 x.nm), .sl (u8s x.d) (List.length x.d) .any, (I6 (x.n))], 4, .fresh⟩, ⟨[.sl [] 0 .nil, (I6 0), (I6 0), (B6 false)], 4, .fresh⟩]⟩ ?_
  refine CN (x.kind == 0) (fun h1 => ?_) (fun h1 => ?_)
  · have h1' := eq_of_beq h1
    exfalso; omega
  · have h1' := ne_of_beq_false h1
    refine SQ (RT 2 ?_)
    refine KL [8, 19] ⟨[U6, U6, .ptr 0 0, .ptr 1 0, .ptr 2 0, (I6 0), U6, (I6 (x.kind))] ++ UU 10 ++ [(B6 (x.kind == 1))] ++ UU 40, [⟨[.sl (fisc l) (List.length l) .any, (I6 room), (I6 arm), (B6 dead)], 4, .fresh⟩, ⟨[(I6 (x.kind)), (S6 x.nm), .sl (u8s x.d) (List.length x.d) .any, (I6 (x.n))], 4, .fresh⟩, ⟨[.sl [] 0 .nil, (I6 0), (I6 0), (B6 false)], 4, .fresh⟩]⟩ ?_
    refine CN (x.kind == 1) (fun h2 => ?_) (fun h2 => ?_)
    · have h2' := eq_of_beq h2
      exfalso; omega
    · have h2' := ne_of_beq_false h2
      refine SQ (RT 2 ?_)
      refine KL [18, 29] ⟨[U6, U6, .ptr 0 0, .ptr 1 0, .ptr 2 0, (I6 0), U6, (I6 (x.kind))] ++ UU 20 ++ [(B6 (x.kind == 2))] ++ UU 30, [⟨[.sl (fisc l) (List.length l) .any, (I6 room), (I6 arm), (B6 dead)], 4, .fresh⟩, ⟨[(I6 (x.kind)), (S6 x.nm), .sl (u8s x.d) (List.length x.d) .any, (I6 (x.n))], 4, .fresh⟩, ⟨[.sl [] 0 .nil, (I6 0), (I6 0), (B6 false)], 4, .fresh⟩]⟩ ?_
      refine CN (x.kind == 2) (fun h3 => ?_) (fun h3 => ?_)
      · have h3' := eq_of_beq h3
        exfalso; omega
      · have h3' := ne_of_beq_false h3
        refine SQ (RT 2 ?_)
        refine KL [28, 37] ⟨[U6, U6, .ptr 0 0, .ptr 1 0, .ptr 2 0, (I6 0), U6, (I6 (x.kind))] ++ UU 28 ++ [(B6 (x.kind == 3))] ++ UU 22, [⟨[.sl (fisc l) (List.length l) .any, (I6 room), (I6 arm), (B6 dead)], 4, .fresh⟩, ⟨[(I6 (x.kind)), (S6 x.nm), .sl (u8s x.d) (List.length x.d) .any, (I6 (x.n))], 4, .fresh⟩, ⟨[.sl [] 0 .nil, (I6 0), (I6 0), (B6 false)], 4, .fresh⟩]⟩ ?_
        refine CN (x.kind == 3) (fun h4 => ?_) (fun h4 => ?_)
        · have h4' := eq_of_beq h4
          exfalso; omega
        · have h4' := ne_of_beq_false h4
          refine SQ (RT 2 ?_)
          refine KL [36, 45] ⟨[U6, U6, .ptr 0 0, .ptr 1 0, .ptr 2 0, (I6 0), U6, (I6 (x.kind))] ++ UU 36 ++ [(B6 (x.kind == 4))] ++ UU 14, [⟨[.sl (fisc l) (List.length l) .any, (I6 room), (I6 arm), (B6 dead)], 4, .fresh⟩, ⟨[(I6 (x.kind)), (S6 x.nm), .sl (u8s x.d) (List.length x.d) .any, (I6 (x.n))], 4, .fresh⟩, ⟨[.sl [] 0 .nil, (I6 0), (I6 0), (B6 false)], 4, .fresh⟩]⟩ ?_
          refine CN (x.kind == 4) (fun h5 => ?_) (fun h5 => ?_)
          · have h5' := eq_of_beq h5
            exfalso; omega
          · have h5' := ne_of_beq_false h5
            refine SQ (RT 2 ?_)
            refine KL [7, 44, 53] ⟨[U6, U6, .ptr 0 0, .ptr 1 0, .ptr 2 0, (I6 0)] ++ UU 46 ++ [(B6 (x.kind == 5))] ++ UU 6, [⟨[.sl (fisc l) (List.length l) .any, (I6 room), (I6 arm), (B6 dead)], 4, .fresh⟩, ⟨[(I6 (x.kind)), (S6 x.nm), .sl (u8s x.d) (List.length x.d) .any, (I6 (x.n))], 4, .fresh⟩, ⟨[.sl [] 0 .nil, (I6 0), (I6 0), (B6 false)], 4, .fresh⟩]⟩ ?_
            refine CN (x.kind == 5) (fun h6 => ?_) (fun h6 => ?_)
            · have h6' := eq_of_beq h6
              refine SQ (PI 3 (4 ≤ 4 ∧ True ∧ 3 < 4 ∧ True) ⟨(by omega), trivial, (by omega), trivial⟩ ?_)
              refine CD (h) ?_
              refine RI (4 ≤ 4 ∧ True ∧ True) ⟨(by omega), trivial, trivial⟩ ?_
              refine AWP.ret FA
            · have h6' := ne_of_beq_false h6
              exfalso; omega
theorem do6 (l : List FileD) (room arm : Int) (dead : Bool) (x : ActD) (hk : x.kind ≠ 0 ∧ x.kind ≠ 1 ∧ x.kind ≠ 2 ∧ x.kind ≠ 3 ∧ x.kind ≠ 4 ∧ x.kind ≠ 5) : EvD Try.prog 46 [.agg [.sl (fisc l) l.length .any, .sc (.int .i64 room), .sc (.int .i64 arm), .sc (.bool dead)], .agg (acc x)] (.tup [.agg [.sl (fisc l) l.length .any, .sc (.int .i64 room), .sc (.int .i64 arm), .sc (.bool dead)], .sc (.int .i64 0)]) := by
  refine EvD.body Try.func46 rfl (by simp [acc, dataAll, AVal.data]) (by simp [dataAll, AVal.data]) ?_
  refine AWP.seq ?_
  refine TO ⟨[.agg [.sl (fisc l) (List.length l) .any, (I6 room), (I6 arm), (B6 dead)], .agg [(I6 (x.kind)), (S6 x.nm), .sl (u8s x.d) (List.length x.d) .any, (I6 (x.n))]] ++ UU 57, []⟩ ?_
  refine AWP.reg (RT 4 ?_)
  refine AWP.seq (AWP.seq (KL [0, 1] ⟨[U6, U6, .ptr 0 0, .ptr 1 0, .ptr 2 0, (I6 0)] ++ UU 53, [⟨[.sl (fisc l) (List.length l) .any, (I6 room), (I6 arm), (B6 dead)], 4, .fresh⟩, ⟨[(I6 (x.kind)), (S6 x.nm), .sl (u8s x.d) (List.length x.d) .any, (I6 (x.n))], 4, .fresh⟩, ⟨[.sl [] 0 .nil, (I6 0), (I6 0), (B6 false)], 4, .fresh⟩]⟩ ?_))
  refine AWP.reg (RI (True ∧ 0 < 4 ∧ True) ⟨trivial, (by omega), trivial⟩ ?_)
  refine AWP.block (AWP.seq (KL [6] ⟨[U6, U6, .ptr 0 0, .ptr 1 0, .ptr 2 0, (I6 0), U6, (I6 (x.kind))] ++ UU 51, [⟨[.sl (fisc l) (List.length l) .any, (I6 room), (I6 arm), (B6 dead)], 4, .fresh⟩, ⟨[(I6 (x.kind)), (S6 x.nm), .sl (u8s x.d) (List.length x.d) .any, (I6 (x.n))], 4, .fresh⟩, ⟨[.sl [] 0 .nil, (I6 0), (I6 0), (B6 false)], 4, .fresh⟩]⟩ ?_))
  refine AWP.reg (RT 2 ?_)
  refine KL [9] ⟨[U6, U6, .ptr 0 0, .ptr 1 0, .ptr 2 0, (I6 0), U6, (I6 (x.kind)), (B6 (x.kind == 0))] ++ UU 50, [⟨[.sl (fisc l) (List.length l) .any, (I6 room), (I6 arm), (B6 dead)], 4, .fresh⟩, ⟨[(I6 (x.kind)), (S6 x.nm), .sl (u8s x.d) (List.length x.d) .any, (I6 (x.n))], 4, .fresh⟩, ⟨[.sl [] 0 .nil, (I6 0), (I6 0), (B6 false)], 4, .fresh⟩]⟩ ?_
  refine CN (x.kind == 0) (fun h1 => ?_) (fun h1 => ?_)
  · have h1' := eq_of_beq h1
    exfalso; omega
  · have h1' := ne_of_beq_false h1
    refine SQ (RT 2 ?_)
    refine KL [8, 19] ⟨[U6, U6, .ptr 0 0, .ptr 1 0, .ptr 2 0, (I6 0), U6, (I6 (x.kind))] ++ UU 10 ++ [(B6 (x.kind == 1))] ++ UU 40, [⟨[.sl (fisc l) (List.length l) .any, (I6 room), (I6 arm), (B6 dead)], 4, .fresh⟩, ⟨[(I6 (x.kind)), (S6 x.nm), .sl (u8s x.d) (List.length x.d) .any, (I6 (x.n))], 4, .fresh⟩, ⟨[.sl [] 0 .nil, (I6 0), (I6 0), (B6 false)], 4, .fresh⟩]⟩ ?_
    refine CN (x.kind == 1) (fun h2 => ?_) (fun h2 => ?_)
    · have h2' := eq_of_beq h2
      exfalso; omega
    · have h2' := ne_of_beq_false h2
      refine SQ (RT 2 ?_)
      refine KL [18, 29] ⟨[U6, U6, .ptr 0 0, .ptr 1 0, .ptr 2 0, (I6 0), U6, (I6 (x.kind))] ++ UU 20 ++ [(B6 (x.kind == 2))] ++ UU 30, [⟨[.sl (fisc l) (List.length l) .any, (I6 room), (I6 arm), (B6 dead)], 4, .fresh⟩, ⟨[(I6 (x.kind)), (S6 x.nm), .sl (u8s x.d) (List.length x.d) .any, (I6 (x.n))], 4, .fresh⟩, ⟨[.sl [] 0 .nil, (I6 0), (I6 0), (B6 false)], 4, .fresh⟩]⟩ ?_
      refine CN (x.kind == 2) (fun h3 => ?_) (fun h3 => ?_)
      · have h3' := eq_of_beq h3
        exfalso; omega
      · have h3' := ne_of_beq_false h3
        refine SQ (RT 2 ?_)
        refine KL [28, 37] ⟨[U6, U6, .ptr 0 0, .ptr 1 0, .ptr 2 0, (I6 0), U6, (I6 (x.kind))] ++ UU 28 ++ [(B6 (x.kind == 3))] ++ UU 22, [⟨[.sl (fisc l) (List.length l) .any, (I6 room), (I6 arm), (B6 dead)], 4, .fresh⟩, ⟨[(I6 (x.kind)), (S6 x.nm), .sl (u8s x.d) (List.length x.d) .any, (I6 (x.n))], 4, .fresh⟩, ⟨[.sl [] 0 .nil, (I6 0), (I6 0), (B6 false)], 4, .fresh⟩]⟩ ?_
        refine CN (x.kind == 3) (fun h4 => ?_) (fun h4 => ?_)
        · have h4' := eq_of_beq h4
          exfalso; omega
        · have h4' := ne_of_beq_false h4
          refine SQ (RT 2 ?_)
          refine KL [36, 45] ⟨[U6, U6, .ptr 0 0, .ptr 1 0, .ptr 2 0, (I6 0), U6, (I6 (x.kind))] ++ UU 36 ++ [(B6 (x.kind == 4))] ++ UU 14, [⟨[.sl (fisc l) (List.length l) .any, (I6 room), (I6 arm), (B6 dead)], 4, .fresh⟩, ⟨[(I6 (x.kind)), (S6 x.nm), .sl (u8s x.d) (List.length x.d) .any, (I6 (x.n))], 4, .fresh⟩, ⟨[.sl [] 0 .nil, (I6 0), (I6 0), (B6 false)], 4, .fresh⟩]⟩ ?_
          refine CN (x.kind == 4) (fun h5 => ?_) (fun h5 => ?_)
          · have h5' := eq_of_beq h5
            exfalso; omega
          · have h5' := ne_of_beq_false h5
            refine SQ (RT 2 ?_)
            refine KL [7, 44, 53] ⟨[U6, U6, .ptr 0 0, .ptr 1 0, .ptr 2 0, (I6 0)] ++ UU 46 ++ [(B6 (x.kind == 5))] ++ UU 6, [⟨[.sl (fisc l) (List.length l) .any, (I6 room), (I6 arm), (B6 dead)], 4, .fresh⟩, ⟨[(I6 (x.kind)), (S6 x.nm), .sl (u8s x.d) (List.length x.d) .any, (I6 (x.n))], 4, .fresh⟩, ⟨[.sl [] 0 .nil, (I6 0), (I6 0), (B6 false)], 4, .fresh⟩]⟩ ?_
            refine CN (x.kind == 5) (fun h6 => ?_) (fun h6 => ?_)
            · have h6' := eq_of_beq h6
              exfalso; omega
            · have h6' := ne_of_beq_false h6
              refine AWP.skip (SQ (RI (4 ≤ 4 ∧ 4 ≤ 4 ∧ True ∧ True) ⟨(by omega), (by omega), trivial, trivial⟩ ?_))
              refine AWP.ret FA
def sumA (l : List ActD) : Nat → Int
  | 0 => 0
  | i + 1 => sumA l i + ((l.getD i ac0).d.length : Int)
def smF (l : List ActD) (i : Nat) : Prop := (l.getD i ac0).nm.size ≤ 100 ∧ ((l.getD i ac0).d.length : Int) ≤ 6000 - sumA l i
def smallP (l : List ActD) : Prop := l.length ≤ 60 ∧ ∀ i, i < l.length → smF l i
noncomputable instance (l : List ActD) : Decidable (smallP l) := Classical.propDecidable _
theorem small (l : List ActD) (hx : l.length ≤ 1000000000000000) : EvD Try.prog 45 [.sl (acsc l) l.length .any] (.sc (.bool (decide (smallP l)))) := by
  refine EvD.body Try.func45 rfl (by simp [dataAll, AVal.data]) (by simp [dataAll, AVal.data]) ?_
  refine AWP.seq ?_
  refine TO ⟨[.sl (acsc l) (List.length l) .any] ++ UU 44, []⟩ ?_
  refine AWP.reg (RT 1 ?_)
  refine AWP.seq ?_
  refine TO ⟨[.sl (acsc l) (List.length l) .any, U6, (B6 false)] ++ UU 42, []⟩ ?_
  refine AWP.reg (RT 1 ?_)
  refine AWP.seq (AWP.seq ?_)
  refine TO ⟨[.sl (acsc l) (List.length l) .any, U6, (B6 false), (I6 0)] ++ UU 41, []⟩ ?_
  refine AWP.reg (RT 1 ?_)
  refine AWP.block ?_
  refine TO ⟨[.sl (acsc l) (List.length l) .any, U6, (B6 false), (I6 0), (I6 0)] ++ UU 40, []⟩ ?_
  refine AWP.loopM [true, false, true, true, true, false, false, false, false, false, false, false, false, false, false, false, false, false, false, false, false, false, false, false, false, false, false, false, false, false, false, false, false, false, false, false, false, false, false, false, false, false, false, false, false] (fun kk st => ∃ (i : Nat), kk = l.length - i ∧ i ≤ l.length ∧ (0 ≤ sumA l i ∧ sumA l i ≤ 6000) ∧ (∀ j, j < i → smF l j) ∧ st = ⟨[.sl (acsc l) (List.length l) .any, U6, (B6 false), (I6 (sumA l i)), (I6 (i : Int)), U6, U6, U6, U6, U6, U6, U6, U6, U6, U6, U6, U6, U6, U6, U6, U6, U6, U6, U6, U6, U6, U6, U6, U6, U6, U6, U6, U6, U6, U6, U6, U6, U6, U6, U6, U6, U6, U6, U6, .undef], []⟩) _ ⟨0, rfl, by omega, by show (0:Int) ≤ 0 ∧ (0:Int) ≤ 6000; omega, fun j h => absurd h (by omega), by kernel_rfl⟩ ?_
  rintro kk s ⟨i, rfl, hi, hsm, hd, rfl⟩
  refine AWP.seq (SQ (PT 5 5 ?_))
  refine DerQ.to ⟨[.sl (acsc l) (List.length l) .any, U6, (B6 false), (I6 (sumA l i)), (I6 (↑i : Int)), (I6 (↑i : Int)), .sl (acsc l) (List.length l) .any, (I6 (↑(List.length l) : Int)), (B6 (decide ((↑i : Int) < (↑(List.length l) : Int)))), (B6 (decide ((↑i : Int) < (↑(List.length l) : Int))))] ++ UU 35, []⟩ (by kernel_rfl) ?_
  cases h1 : (decide ((↑i : Int) < (↑(List.length l) : Int)))
  · have h1' := of_decide_eq_false h1
    refine RT 1 ?_
    refine KL (NN 5 8) ⟨[.sl (acsc l) (List.length l) .any, U6, (B6 false), (I6 (sumA l i)), (I6 (↑i : Int))] ++ UU 8 ++ [(B6 false)] ++ UU 31, []⟩ ?_
    refine CN false (fun h => nomatch h) (fun _ => ?_)
    refine AWP.exit ?_
    refine SQ (RT 4 ?_)
    refine AWP.ret ?_
    refine FI (B6 (decide ((↑(List.length l) : Int) ≤ 60))) ?_
    refine Shrink.all ?_ rfl
    ((first | refine congrArg B6 ?_ | refine congrArg I6 ?_ | congr 2); exact decide_eq_decide.2 ⟨fun h1 => ⟨by omega, fun j hj => hd j (by omega)⟩, fun h1 => by have := h1.1; omega⟩; done)
  · have h1' := of_decide_eq_true h1
    refine RT 4 ?_
    refine KL (NN 5 8) ⟨[.sl (acsc l) (List.length l) .any, U6, (B6 false), (I6 (sumA l i)), (I6 (↑i : Int))] ++ UU 8 ++ [(B6 (decide ((↑(List.length l) : Int) ≤ 60)))] ++ UU 31, []⟩ ?_
    refine CN (decide ((↑(List.length l) : Int) ≤ 60)) (fun h2 => ?_) (fun h2 => ?_)
    · have h2' := of_decide_eq_true h2
      refine AWP.skip (AWP.seq (AWP.block (AWP.seq (SQ ?_))))
      refine DerQ.pre 5 (True ∧ True ∧ (((0 ≤ (↑i : Int)) ∧ ((↑i : Int) < (↑(List.length l) : Int))) ∧ (Int.toNat (↑i : Int) * 4 + 4 ≤ List.length (acsc l))) ∧ 2 ≤ 4 ∧ 0 < 1 ∧ True) ⟨[.sl (acsc l) (List.length l) .any, U6, (B6 false), (I6 (sumA l i)), (I6 (↑i : Int))] ++ UU 8 ++ [(B6 (decide ((↑(List.length l) : Int) ≤ 60))), U6, U6, .sl (acsc l) (List.length l) .any, (I6 (↑i : Int)), .dptr [List.getD (acsc l) (Int.toNat (↑i : Int) * 4 + 0) U6, List.getD (acsc l) (Int.toNat (↑i : Int) * 4 + 1) U6, List.getD (acsc l) (Int.toNat (↑i : Int) * 4 + 2) U6, List.getD (acsc l) (Int.toNat (↑i : Int) * 4 + 3) AVal.undef], .dptr [List.getD (acsc l) (Int.toNat (↑i : Int) * 4 + 1) AVal.undef], List.getD [List.getD (acsc l) (Int.toNat (↑i : Int) * 4 + 1) AVal.undef] 0 AVal.undef] ++ UU 24, []⟩ (by kernel_rfl) ⟨trivial, trivial, ⟨⟨(by omega), (by omega)⟩, (by (simp [spliceA_length] <;> omega))⟩, (by omega), (by omega), trivial⟩ ?_
      rw [Int.toNat_natCast (i)]
      rw [Nat.add_zero (i * 4)]
      rw [Go.Dk.ac_1 (l) (i) (by omega)]
      rw [Go.Dk.ac_2 (l) (i) (by omega)]
      refine DerQ.pre 3 (TT 3) ⟨[.sl (acsc l) (List.length l) .any, U6, (B6 false), (I6 (sumA l i)), (I6 (↑i : Int))] ++ UU 8 ++ [(B6 (decide ((↑(List.length l) : Int) ≤ 60))), U6, U6, .sl (acsc l) (List.length l) .any, (I6 (↑i : Int)), .dptr [List.getD (acsc l) (i * 4) U6, (S6 ((List.getD l i ac0).nm)), .sl (u8s (List.getD l i ac0).d) (List.length (List.getD l i ac0).d) .any, List.getD (acsc l) (i * 4 + 3) AVal.undef], .dptr [(S6 ((List.getD l i ac0).nm))], (S6 ((List.getD l i ac0).nm)), (I6 (↑(ByteArray.size (List.getD l i ac0).nm) : Int)), (B6 (decide ((↑(ByteArray.size (List.getD l i ac0).nm) : Int) > 100))), (B6 (decide ((↑(ByteArray.size (List.getD l i ac0).nm) : Int) > 100)))] ++ UU 21, []⟩ (by kernel_rfl) (tt 3) ?_
      cases h3 : (decide ((↑(ByteArray.size (List.getD l i ac0).nm) : Int) > 100))
      · have h3' := of_decide_eq_false h3
        refine DerQ.pre 5 (True ∧ True ∧ (((0 ≤ (↑i : Int)) ∧ ((↑i : Int) < (↑(List.length l) : Int))) ∧ (Int.toNat (↑i : Int) * 4 + 4 ≤ List.length (acsc l))) ∧ 3 ≤ 4 ∧ 0 < 1 ∧ True) ⟨[.sl (acsc l) (List.length l) .any, U6, (B6 false), (I6 (sumA l i)), (I6 (↑i : Int))] ++ UU 8 ++ [(B6 (decide ((↑(List.length l) : Int) ≤ 60))), U6, U6, .sl (acsc l) (List.length l) .any, (I6 (↑i : Int)), .dptr [List.getD (acsc l) (i * 4) U6, (S6 ((List.getD l i ac0).nm)), .sl (u8s (List.getD l i ac0).d) (List.length (List.getD l i ac0).d) .any, List.getD (acsc l) (i * 4 + 3) AVal.undef], .dptr [(S6 ((List.getD l i ac0).nm))], (S6 ((List.getD l i ac0).nm)), (I6 (↑(ByteArray.size (List.getD l i ac0).nm) : Int)), (B6 false), (B6 false), .sl (acsc l) (List.length l) .any, (I6 (↑i : Int)), .dptr [List.getD (acsc l) (Int.toNat (↑i : Int) * 4 + 0) U6, List.getD (acsc l) (Int.toNat (↑i : Int) * 4 + 1) U6, List.getD (acsc l) (Int.toNat (↑i : Int) * 4 + 2) U6, List.getD (acsc l) (Int.toNat (↑i : Int) * 4 + 3) AVal.undef], .dptr [List.getD (acsc l) (Int.toNat (↑i : Int) * 4 + 2) AVal.undef], List.getD [List.getD (acsc l) (Int.toNat (↑i : Int) * 4 + 2) AVal.undef] 0 AVal.undef] ++ UU 16, []⟩ (by kernel_rfl) ⟨trivial, trivial, ⟨⟨(by omega), (by omega)⟩, (by (simp [spliceA_length] <;> omega))⟩, (by omega), (by omega), trivial⟩ ?_
        rw [Int.toNat_natCast (i)]
        rw [Nat.add_zero (i * 4)]
        rw [Go.Dk.ac_1 (l) (i) (by omega)]
        rw [Go.Dk.ac_2 (l) (i) (by omega)]
        refine DerQ.run (TT 5) ⟨[.sl (acsc l) (List.length l) .any, U6, (B6 false), (I6 (sumA l i)), (I6 (↑i : Int))] ++ UU 8 ++ [(B6 (decide ((↑(List.length l) : Int) ≤ 60))), U6, U6, .sl (acsc l) (List.length l) .any, (I6 (↑i : Int)), .dptr [List.getD (acsc l) (i * 4) U6, (S6 ((List.getD l i ac0).nm)), .sl (u8s (List.getD l i ac0).d) (List.length (List.getD l i ac0).d) .any, List.getD (acsc l) (i * 4 + 3) AVal.undef], .dptr [(S6 ((List.getD l i ac0).nm))], (S6 ((List.getD l i ac0).nm)), (I6 (↑(ByteArray.size (List.getD l i ac0).nm) : Int)), (B6 false), (B6 false), .sl (acsc l) (List.length l) .any, (I6 (↑i : Int)), .dptr [List.getD (acsc l) (i * 4) U6, (S6 ((List.getD l i ac0).nm)), .sl (u8s (List.getD l i ac0).d) (List.length (List.getD l i ac0).d) .any, List.getD (acsc l) (i * 4 + 3) AVal.undef], .dptr [.sl (u8s (List.getD l i ac0).d) (List.length (List.getD l i ac0).d) .any], .sl (u8s (List.getD l i ac0).d) (List.length (List.getD l i ac0).d) .any, (I6 (↑(List.length (List.getD l i ac0).d) : Int)), (I6 (sumA l i)), (I6 (IntKind.wrap IntKind.i64 (6000 - sumA l i))), (B6 (decide ((↑(List.length (List.getD l i ac0).d) : Int) > IntKind.wrap IntKind.i64 (6000 - sumA l i)))), (B6 (decide ((↑(List.length (List.getD l i ac0).d) : Int) > IntKind.wrap IntKind.i64 (6000 - sumA l i))))] ++ UU 11, []⟩ (by kernel_rfl) (tt 5) ?_
        rw [IntWalk.i64_in (6000 - sumA l i) (by omega)]
        refine KL ([13] ++ NN 16 17) ⟨[.sl (acsc l) (List.length l) .any, U6, (B6 false), (I6 (sumA l i)), (I6 (↑i : Int))] ++ UU 28 ++ [(B6 (decide ((↑(List.length (List.getD l i ac0).d) : Int) > 6000 - sumA l i)))] ++ UU 11, []⟩ ?_
        refine CN (decide ((↑(List.length (List.getD l i ac0).d) : Int) > 6000 - sumA l i)) (fun h4 => ?_) (fun h4 => ?_)
        · have h4' := of_decide_eq_true h4
          refine SQ (RT 1 ?_)
          refine AWP.ret ?_
          refine FI (B6 false) ?_
          refine Shrink.all ?_ rfl
          (exact dec_no (fun h => by have h2 := h.2 i (by omega); unfold smF at h2; omega); done)
        · have h4' := of_decide_eq_false h4
          refine AWP.skip (AWP.reg ?_)
          refine DerQ.pre 6 (True ∧ True ∧ True ∧ (((0 ≤ (↑i : Int)) ∧ ((↑i : Int) < (↑(List.length l) : Int))) ∧ (Int.toNat (↑i : Int) * 4 + 4 ≤ List.length (acsc l))) ∧ 3 ≤ 4 ∧ 0 < 1 ∧ True) ⟨[.sl (acsc l) (List.length l) .any, U6, (B6 false), (I6 (sumA l i)), (I6 (↑i : Int))] ++ UU 28 ++ [(B6 (decide ((↑(List.length (List.getD l i ac0).d) : Int) > 6000 - sumA l i))), (I6 (sumA l i)), .sl (acsc l) (List.length l) .any, (I6 (↑i : Int)), .dptr [List.getD (acsc l) (Int.toNat (↑i : Int) * 4 + 0) U6, List.getD (acsc l) (Int.toNat (↑i : Int) * 4 + 1) U6, List.getD (acsc l) (Int.toNat (↑i : Int) * 4 + 2) U6, List.getD (acsc l) (Int.toNat (↑i : Int) * 4 + 3) AVal.undef], .dptr [List.getD (acsc l) (Int.toNat (↑i : Int) * 4 + 2) AVal.undef], List.getD [List.getD (acsc l) (Int.toNat (↑i : Int) * 4 + 2) AVal.undef] 0 AVal.undef] ++ UU 5, []⟩ (by kernel_rfl) ⟨trivial, trivial, trivial, ⟨⟨(by omega), (by omega)⟩, (by (simp [spliceA_length] <;> omega))⟩, (by omega), (by omega), trivial⟩ ?_
          rw [Int.toNat_natCast (i)]
          rw [Nat.add_zero (i * 4)]
          rw [Go.Dk.ac_1 (l) (i) (by omega)]
          rw [Go.Dk.ac_2 (l) (i) (by omega)]
          refine DerQ.run (TT 3) ⟨[.sl (acsc l) (List.length l) .any, U6, (B6 false), (I6 (IntKind.wrap IntKind.i64 (sumA l i + (↑(List.length (List.getD l i ac0).d) : Int)))), (I6 (↑i : Int))] ++ UU 28 ++ [(B6 (decide ((↑(List.length (List.getD l i ac0).d) : Int) > 6000 - sumA l i))), (I6 (sumA l i)), .sl (acsc l) (List.length l) .any, (I6 (↑i : Int)), .dptr [List.getD (acsc l) (i * 4) U6, (S6 ((List.getD l i ac0).nm)), .sl (u8s (List.getD l i ac0).d) (List.length (List.getD l i ac0).d) .any, List.getD (acsc l) (i * 4 + 3) AVal.undef], .dptr [.sl (u8s (List.getD l i ac0).d) (List.length (List.getD l i ac0).d) .any], .sl (u8s (List.getD l i ac0).d) (List.length (List.getD l i ac0).d) .any, (I6 (↑(List.length (List.getD l i ac0).d) : Int)), (I6 (IntKind.wrap IntKind.i64 (sumA l i + (↑(List.length (List.getD l i ac0).d) : Int)))), U6, U6, .undef], []⟩ (by kernel_rfl) (tt 3) ?_
          rw [IntWalk.i64_in (sumA l i + (↑(List.length (List.getD l i ac0).d) : Int)) (by omega)]
          refine KL (NN 33 9) ⟨[.sl (acsc l) (List.length l) .any, U6, (B6 false), (I6 (sumA l i + (↑(List.length (List.getD l i ac0).d) : Int))), (I6 (↑i : Int))] ++ UU 40, []⟩ ?_
          refine AWP.reg ?_
          refine DerQ.run (TT 3) ⟨[.sl (acsc l) (List.length l) .any, U6, (B6 false), (I6 (sumA l i + (↑(List.length (List.getD l i ac0).d) : Int))), (I6 (IntKind.wrap IntKind.i64 ((↑i : Int) + 1)))] ++ UU 9 ++ [(I6 (↑i : Int)), (I6 (IntKind.wrap IntKind.i64 ((↑i : Int) + 1)))] ++ UU 29, []⟩ (by kernel_rfl) (tt 3) ?_
          rw [IntWalk.i64_in ((↑i : Int) + 1) (by omega)]
          (exact ⟨_, by omega, i + 1, rfl, by omega, by show 0 ≤ sumA l i + _ ∧ sumA l i + _ ≤ _; omega, succ_all hd ⟨by omega, by omega⟩, by kernel_rfl⟩; done)
      · have h3' := of_decide_eq_true h3
        refine DerQ.run (True ∧ True) ⟨[.sl (acsc l) (List.length l) .any, U6, (B6 false), (I6 (sumA l i)), (I6 (↑i : Int))] ++ UU 8 ++ [(B6 (decide ((↑(List.length l) : Int) ≤ 60))), U6, U6, .sl (acsc l) (List.length l) .any, (I6 (↑i : Int)), .dptr [List.getD (acsc l) (i * 4) U6, (S6 ((List.getD l i ac0).nm)), .sl (u8s (List.getD l i ac0).d) (List.length (List.getD l i ac0).d) .any, List.getD (acsc l) (i * 4 + 3) AVal.undef], .dptr [(S6 ((List.getD l i ac0).nm))], (S6 ((List.getD l i ac0).nm)), (I6 (↑(ByteArray.size (List.getD l i ac0).nm) : Int)), (B6 true), (B6 true), .tup [], .tup [], .tup [], .tup [], .tup [], .tup [], .tup [], .tup [], .tup [], (B6 true)] ++ UU 11, []⟩ (by kernel_rfl) ⟨trivial, trivial⟩ ?_
        refine KL ([13] ++ NN 16 17) ⟨[.sl (acsc l) (List.length l) .any, U6, (B6 false), (I6 (sumA l i)), (I6 (↑i : Int))] ++ UU 28 ++ [(B6 true)] ++ UU 11, []⟩ ?_
        refine CN true (fun _ => ?_) (fun h => nomatch h)
        refine SQ (RT 1 ?_)
        refine AWP.ret ?_
        refine FI (B6 false) ?_
        refine Shrink.all ?_ rfl
        (exact dec_no (fun h => by have h2 := h.2 i (by omega); unfold smF at h2; omega); done)
    · have h2' := of_decide_eq_false h2
      refine AWP.exit ?_
      refine SQ (RT 4 ?_)
      refine AWP.ret ?_
      refine FI (B6 (decide ((↑(List.length l) : Int) ≤ 60))) ?_
      refine Shrink.all ?_ rfl
      ((first | refine congrArg B6 ?_ | refine congrArg I6 ?_ | congr 2); exact decide_eq_decide.2 ⟨fun h1 => ⟨by omega, fun j hj => hd j (by omega)⟩, fun h1 => by have := h1.1; omega⟩; done)
def BtsL (l : List FileD) : Prop := ∀ i, i < l.length → Bts (l.getD i fi0).d
theorem same_refl (l : List FileD) (room arm : Int) (dead : Bool) (hx : l.length ≤ 100000) (hb : BtsL l) : EvD Try.prog 48 [.agg [.sl (fisc l) l.length .any, .sc (.int .i64 room), .sc (.int .i64 arm), .sc (.bool dead)], .agg [.sl (fisc l) l.length .any, .sc (.int .i64 room), .sc (.int .i64 arm), .sc (.bool dead)]] (.sc (.bool true)) := by
  refine EvD.body Try.func48 rfl (by simp [dataAll, AVal.data]) (by simp [dataAll, AVal.data]) ?_
  refine AWP.seq ?_
  refine TO ⟨[.agg [.sl (fisc l) (List.length l) .any, (I6 room), (I6 arm), (B6 dead)], .agg [.sl (fisc l) (List.length l) .any, (I6 room), (I6 arm), (B6 dead)]] ++ UU 84, []⟩ ?_
  refine AWP.reg (RT 3 ?_)
  refine AWP.seq (AWP.seq (KL [0, 1] ⟨[U6, U6, .ptr 0 0, .ptr 1 0, (B6 false)] ++ UU 81, [⟨[.sl (fisc l) (List.length l) .any, (I6 room), (I6 arm), (B6 dead)], 4, .fresh⟩, ⟨[.sl (fisc l) (List.length l) .any, (I6 room), (I6 arm), (B6 dead)], 4, .fresh⟩]⟩ ?_))
  refine AWP.reg (PI 6 (True ∧ 1 < 4 ∧ True ∧ 1 < 4 ∧ True ∧ True ∧ True) ⟨trivial, (by omega), trivial, (by omega), trivial, trivial, trivial⟩ ?_)
  refine DerQ.to ⟨[U6, U6, .ptr 0 0, .ptr 1 0, (B6 false), U6, .ptr 0 1, (I6 room), .ptr 1 1, (I6 room), (B6 (room != room)), (B6 (room != room))] ++ UU 74, [⟨[.sl (fisc l) (List.length l) .any, (I6 room), (I6 arm), (B6 dead)], 4, .fresh⟩, ⟨[.sl (fisc l) (List.length l) .any, (I6 room), (I6 arm), (B6 dead)], 4, .fresh⟩]⟩ (by kernel_rfl) ?_
  cases h1 : (room != room)
  · have h1' := bne_eq_false_iff_eq.1 h1
    refine PI 7 (True ∧ 2 < 4 ∧ True ∧ 2 < 4 ∧ True ∧ True ∧ True ∧ True) ⟨trivial, (by omega), trivial, (by omega), trivial, trivial, trivial, trivial⟩ ?_
    refine DerQ.to ⟨[U6, U6, .ptr 0 0, .ptr 1 0, (B6 false), U6, .ptr 0 1, (I6 room), .ptr 1 1, (I6 room), (B6 false), (B6 false), .ptr 0 2, (I6 arm), .ptr 1 2, (I6 arm), (B6 (arm != arm)), (B6 (arm != arm)), (B6 (arm != arm))] ++ UU 67, [⟨[.sl (fisc l) (List.length l) .any, (I6 room), (I6 arm), (B6 dead)], 4, .fresh⟩, ⟨[.sl (fisc l) (List.length l) .any, (I6 room), (I6 arm), (B6 dead)], 4, .fresh⟩]⟩ (by kernel_rfl) ?_
    cases h2 : (arm != arm)
    · have h2' := bne_eq_false_iff_eq.1 h2
      refine PI 7 (True ∧ 3 < 4 ∧ True ∧ 3 < 4 ∧ True ∧ True ∧ True ∧ True) ⟨trivial, (by omega), trivial, (by omega), trivial, trivial, trivial, trivial⟩ ?_
      refine DerQ.to ⟨[U6, U6, .ptr 0 0, .ptr 1 0, (B6 false), U6, .ptr 0 1, (I6 room), .ptr 1 1, (I6 room), (B6 false), (B6 false), .ptr 0 2, (I6 arm), .ptr 1 2, (I6 arm), (B6 false), (B6 false), (B6 false), .ptr 0 3, (B6 dead), .ptr 1 3, (B6 dead), (B6 (!dead == dead)), (B6 (!dead == dead)), (B6 (!dead == dead))] ++ UU 60, [⟨[.sl (fisc l) (List.length l) .any, (I6 room), (I6 arm), (B6 dead)], 4, .fresh⟩, ⟨[.sl (fisc l) (List.length l) .any, (I6 room), (I6 arm), (B6 dead)], 4, .fresh⟩]⟩ (by kernel_rfl) ?_
      cases h3 : (!dead == dead)
      · have h3' := h3
        simp only [Bool.and_eq_true, Bool.and_eq_false_iff, Bool.or_eq_true, Bool.or_eq_false_iff, Bool.not_eq_true', Bool.not_eq_false', beq_iff_eq, beq_eq_false_iff_ne, decide_eq_true_eq, decide_eq_false_iff_not, ne_eq] at h3'
        refine RI (True ∧ 0 < 4 ∧ True ∧ True ∧ 0 < 4 ∧ True ∧ True ∧ True ∧ True) ⟨trivial, (by omega), trivial, trivial, (by omega), trivial, trivial, trivial, trivial⟩ ?_
        refine KL (NN 6 27) ⟨[U6, U6, .ptr 0 0, .ptr 1 0, (B6 false)] ++ UU 28 ++ [(B6 ((↑(List.length l) : Int) != (↑(List.length l) : Int)))] ++ UU 52, [⟨[.sl (fisc l) (List.length l) .any, (I6 room), (I6 arm), (B6 dead)], 4, .fresh⟩, ⟨[.sl (fisc l) (List.length l) .any, (I6 room), (I6 arm), (B6 dead)], 4, .fresh⟩]⟩ ?_
        refine CN ((↑(List.length l) : Int) != (↑(List.length l) : Int)) (fun h4 => ?_) (fun h4 => ?_)
        · have h4' := bne_iff_ne.1 h4
          exfalso; omega
        · have h4' := bne_eq_false_iff_eq.1 h4
          refine AWP.skip (AWP.seq (SQ (RT 1 ?_)))
          refine AWP.block (KL [33] ⟨[U6, U6, .ptr 0 0, .ptr 1 0, (B6 false), (I6 0)] ++ UU 80, [⟨[.sl (fisc l) (List.length l) .any, (I6 room), (I6 arm), (B6 dead)], 4, .fresh⟩, ⟨[.sl (fisc l) (List.length l) .any, (I6 room), (I6 arm), (B6 dead)], 4, .fresh⟩]⟩ ?_)
          refine AWP.loopM [false, false, true, true, true, true, false, false, false, false, false, false, false, false, false, false, false, false, false, false, false, false, false, false, false, false, false, false, false, false, false, false, false, false, false, false, false, false, false, false, false, false, false, false, false, false, false, false, false, false, false, false, false, false, false, false, false, false, false, false, false, false, false, false, false, false, false, false, false, false, false, false, false, false, false, false, false, false, false, false, false, false, false, false, false, false] (fun kk st => ∃ (i : Nat), kk = l.length - i ∧ i ≤ l.length ∧ st = ⟨[U6, U6, .ptr 0 0, .ptr 1 0, (B6 false), (I6 (i : Int)), U6, U6, U6, U6, U6, U6, U6, U6, U6, U6, U6, U6, U6, U6, U6, U6, U6, U6, U6, U6, U6, U6, U6, U6, U6, U6, U6, U6, U6, U6, U6, U6, U6, U6, U6, U6, U6, U6, U6, U6, U6, U6, U6, U6, U6, U6, U6, U6, U6, U6, U6, U6, U6, U6, U6, U6, U6, U6, U6, U6, U6, U6, U6, U6, U6, U6, U6, U6, U6, U6, U6, U6, U6, U6, U6, U6, U6, U6, U6, .undef], [⟨[.sl (fisc l) (List.length l) .any, (I6 room), (I6 arm), (B6 dead)], 4, .fresh⟩, ⟨[.sl (fisc l) (List.length l) .any, (I6 room), (I6 arm), (B6 dead)], 4, .fresh⟩]⟩) _ ⟨0, rfl, by omega, by kernel_rfl⟩ ?_
          rintro kk s ⟨i, rfl, hi, rfl⟩
          refine AWP.seq (SQ (RI (True ∧ True ∧ 0 < 4 ∧ True ∧ True ∧ True) ⟨trivial, trivial, (by omega), trivial, trivial, trivial⟩ ?_))
          refine KL [34, 35, 36, 37] ⟨[U6, U6, .ptr 0 0, .ptr 1 0, (B6 false), (I6 (↑i : Int))] ++ UU 32 ++ [(B6 (decide ((↑i : Int) < (↑(List.length l) : Int))))] ++ UU 47, [⟨[.sl (fisc l) (List.length l) .any, (I6 room), (I6 arm), (B6 dead)], 4, .fresh⟩, ⟨[.sl (fisc l) (List.length l) .any, (I6 room), (I6 arm), (B6 dead)], 4, .fresh⟩]⟩ ?_
          refine CN (decide ((↑i : Int) < (↑(List.length l) : Int))) (fun h5 => ?_) (fun h5 => ?_)
          · have h5' := of_decide_eq_true h5
            refine AWP.skip (AWP.seq (AWP.block (AWP.seq ?_)))
            refine AWP.drawX mixed (fun _ => false) (by kernel_rfl) ?_
            refine DerX.pre 12 ((True) ∧ (((0 : Nat) < (4 : Nat)) ∧ ((True) ∧ ((((0 ≤ (↑i : Int)) ∧ ((↑i : Int) < (↑(List.length l) : Int))) ∧ (Int.toNat (↑i : Int) * 3 + 3 ≤ List.length (fisc l))) ∧ (((1 : Nat) ≤ (3 : Nat)) ∧ (((0 : Nat) < (1 : Nat)) ∧ ((True) ∧ (((0 : Nat) < (4 : Nat)) ∧ ((True) ∧ ((((0 ≤ (↑i : Int)) ∧ ((↑i : Int) < (↑(List.length l) : Int))) ∧ (Int.toNat (↑i : Int) * 3 + 3 ≤ List.length (fisc l))) ∧ (((1 : Nat) ≤ (3 : Nat)) ∧ (((0 : Nat) < (1 : Nat)) ∧ (True))))))))))))) [.ptr 0 0, .sl (fisc l) (List.length l) .any, (I6 (↑i : Int)), .dptr [List.getD (fisc l) (Int.toNat (↑i : Int) * 3 + 0) U6, List.getD (fisc l) (Int.toNat (↑i : Int) * 3 + 1) U6, List.getD (fisc l) (Int.toNat (↑i : Int) * 3 + 2) AVal.undef], .dptr [List.getD (fisc l) (Int.toNat (↑i : Int) * 3 + 0) AVal.undef], List.getD [List.getD (fisc l) (Int.toNat (↑i : Int) * 3 + 0) AVal.undef] 0 U6, .ptr 1 0, .sl (fisc l) (List.length l) .any, (I6 (↑i : Int)), .dptr [List.getD (fisc l) (Int.toNat (↑i : Int) * 3 + 0) U6, List.getD (fisc l) (Int.toNat (↑i : Int) * 3 + 1) U6, List.getD (fisc l) (Int.toNat (↑i : Int) * 3 + 2) AVal.undef], .dptr [List.getD (fisc l) (Int.toNat (↑i : Int) * 3 + 0) AVal.undef], List.getD [List.getD (fisc l) (Int.toNat (↑i : Int) * 3 + 0) AVal.undef] 0 AVal.undef] ⟨[U6, U6, .ptr 0 0, .ptr 1 0, (B6 false), (I6 (↑i : Int))] ++ UU 32 ++ [(B6 (decide ((↑i : Int) < (↑(List.length l) : Int)))), U6, U6, .ptr 0 0, .sl (fisc l) (List.length l) .any, (I6 (↑i : Int)), .dptr [List.getD (fisc l) (Int.toNat (↑i : Int) * 3 + 0) U6, List.getD (fisc l) (Int.toNat (↑i : Int) * 3 + 1) U6, List.getD (fisc l) (Int.toNat (↑i : Int) * 3 + 2) AVal.undef], .dptr [List.getD (fisc l) (Int.toNat (↑i : Int) * 3 + 0) AVal.undef], List.getD (fisc l) (Int.toNat (↑i : Int) * 3 + 0) U6, .ptr 1 0, .sl (fisc l) (List.length l) .any, (I6 (↑i : Int)), .dptr [List.getD (fisc l) (Int.toNat (↑i : Int) * 3 + 0) U6, List.getD (fisc l) (Int.toNat (↑i : Int) * 3 + 1) U6, List.getD (fisc l) (Int.toNat (↑i : Int) * 3 + 2) AVal.undef], .dptr [List.getD (fisc l) (Int.toNat (↑i : Int) * 3 + 0) AVal.undef], List.getD (fisc l) (Int.toNat (↑i : Int) * 3 + 0) AVal.undef] ++ UU 33, [⟨[.sl (fisc l) (List.length l) .any, (I6 room), (I6 arm), (B6 dead)], 4, .fresh⟩, ⟨[.sl (fisc l) (List.length l) .any, (I6 room), (I6 arm), (B6 dead)], 4, .fresh⟩]⟩ (by intro ext; kernel_rfl) (by kernel_rfl) ⟨trivial, ⟨(by omega), ⟨trivial, ⟨⟨⟨(by omega), (by omega)⟩, (by (simp [spliceA_length] <;> omega))⟩, ⟨(by omega), ⟨(by omega), ⟨trivial, ⟨(by omega), ⟨trivial, ⟨⟨⟨(by omega), (by omega)⟩, (by (simp [spliceA_length] <;> omega))⟩, ⟨(by omega), ⟨(by omega), trivial⟩⟩⟩⟩⟩⟩⟩⟩⟩⟩⟩⟩ ?_
            rw [Int.toNat_natCast (i)]
            rw [Nat.add_zero (i * 3)]
            rw [Go.Dk.fi_0 (l) (i) (by omega)]
            rw [Go.Dk.fi_1 (l) (i) (by omega)]
            rw [Go.Dk.fi_2 (l) (i) (by omega)]
            refine DerX.pre 2 (TT 2) [(B6 (!ByteArray.toList (List.getD l i fi0).nm == ByteArray.toList (List.getD l i fi0).nm)), (B6 (!ByteArray.toList (List.getD l i fi0).nm == ByteArray.toList (List.getD l i fi0).nm))] ⟨[U6, U6, .ptr 0 0, .ptr 1 0, (B6 false), (I6 (↑i : Int))] ++ UU 32 ++ [(B6 (decide ((↑i : Int) < (↑(List.length l) : Int)))), U6, U6, .ptr 0 0, .sl (fisc l) (List.length l) .any, (I6 (↑i : Int)), .dptr [(S6 ((List.getD l i fi0).nm)), .sl (u8s (List.getD l i fi0).d) (List.length (List.getD l i fi0).d) .any, (I6 ((List.getD l i fi0).sf))], .dptr [(S6 ((List.getD l i fi0).nm))], (S6 ((List.getD l i fi0).nm)), .ptr 1 0, .sl (fisc l) (List.length l) .any, (I6 (↑i : Int)), .dptr [(S6 ((List.getD l i fi0).nm)), .sl (u8s (List.getD l i fi0).d) (List.length (List.getD l i fi0).d) .any, (I6 ((List.getD l i fi0).sf))], .dptr [(S6 ((List.getD l i fi0).nm))], (S6 ((List.getD l i fi0).nm)), (B6 (!ByteArray.toList (List.getD l i fi0).nm == ByteArray.toList (List.getD l i fi0).nm)), (B6 (!ByteArray.toList (List.getD l i fi0).nm == ByteArray.toList (List.getD l i fi0).nm))] ++ UU 31, [⟨[.sl (fisc l) (List.length l) .any, (I6 room), (I6 arm), (B6 dead)], 4, .fresh⟩, ⟨[.sl (fisc l) (List.length l) .any, (I6 room), (I6 arm), (B6 dead)], 4, .fresh⟩]⟩ (by intro ext; kernel_rfl) (by kernel_rfl) (tt 2) ?_
            rw [Go.Abs.str_ne ((List.getD l i fi0).nm) ((List.getD l i fi0).nm)]
            cases h6 : (decide ¬(List.getD l i fi0).nm = (List.getD l i fi0).nm)
            · have h6' := of_decide_eq_false h6
              refine DerX.pre 12 ((True) ∧ (((0 : Nat) < (4 : Nat)) ∧ ((True) ∧ ((((0 ≤ (↑i : Int)) ∧ ((↑i : Int) < (↑(List.length l) : Int))) ∧ (Int.toNat (↑i : Int) * 3 + 3 ≤ List.length (fisc l))) ∧ (((3 : Nat) ≤ (3 : Nat)) ∧ (((0 : Nat) < (1 : Nat)) ∧ ((True) ∧ (((0 : Nat) < (4 : Nat)) ∧ ((True) ∧ ((((0 ≤ (↑i : Int)) ∧ ((↑i : Int) < (↑(List.length l) : Int))) ∧ (Int.toNat (↑i : Int) * 3 + 3 ≤ List.length (fisc l))) ∧ (((3 : Nat) ≤ (3 : Nat)) ∧ (((0 : Nat) < (1 : Nat)) ∧ (True))))))))))))) [.ptr 0 0, .sl (fisc l) (List.length l) .any, (I6 (↑i : Int)), .dptr [List.getD (fisc l) (Int.toNat (↑i : Int) * 3 + 0) U6, List.getD (fisc l) (Int.toNat (↑i : Int) * 3 + 1) U6, List.getD (fisc l) (Int.toNat (↑i : Int) * 3 + 2) AVal.undef], .dptr [List.getD (fisc l) (Int.toNat (↑i : Int) * 3 + 2) AVal.undef], List.getD [List.getD (fisc l) (Int.toNat (↑i : Int) * 3 + 2) AVal.undef] 0 U6, .ptr 1 0, .sl (fisc l) (List.length l) .any, (I6 (↑i : Int)), .dptr [List.getD (fisc l) (Int.toNat (↑i : Int) * 3 + 0) U6, List.getD (fisc l) (Int.toNat (↑i : Int) * 3 + 1) U6, List.getD (fisc l) (Int.toNat (↑i : Int) * 3 + 2) AVal.undef], .dptr [List.getD (fisc l) (Int.toNat (↑i : Int) * 3 + 2) AVal.undef], List.getD [List.getD (fisc l) (Int.toNat (↑i : Int) * 3 + 2) AVal.undef] 0 AVal.undef] ⟨[U6, U6, .ptr 0 0, .ptr 1 0, (B6 false), (I6 (↑i : Int))] ++ UU 32 ++ [(B6 (decide ((↑i : Int) < (↑(List.length l) : Int)))), U6, U6, .ptr 0 0, .sl (fisc l) (List.length l) .any, (I6 (↑i : Int)), .dptr [(S6 ((List.getD l i fi0).nm)), .sl (u8s (List.getD l i fi0).d) (List.length (List.getD l i fi0).d) .any, (I6 ((List.getD l i fi0).sf))], .dptr [(S6 ((List.getD l i fi0).nm))], (S6 ((List.getD l i fi0).nm)), .ptr 1 0, .sl (fisc l) (List.length l) .any, (I6 (↑i : Int)), .dptr [(S6 ((List.getD l i fi0).nm)), .sl (u8s (List.getD l i fi0).d) (List.length (List.getD l i fi0).d) .any, (I6 ((List.getD l i fi0).sf))], .dptr [(S6 ((List.getD l i fi0).nm))], (S6 ((List.getD l i fi0).nm)), (B6 false), (B6 false), .ptr 0 0, .sl (fisc l) (List.length l) .any, (I6 (↑i : Int)), .dptr [List.getD (fisc l) (Int.toNat (↑i : Int) * 3 + 0) U6, List.getD (fisc l) (Int.toNat (↑i : Int) * 3 + 1) U6, List.getD (fisc l) (Int.toNat (↑i : Int) * 3 + 2) AVal.undef], .dptr [List.getD (fisc l) (Int.toNat (↑i : Int) * 3 + 2) AVal.undef], List.getD (fisc l) (Int.toNat (↑i : Int) * 3 + 2) U6, .ptr 1 0, .sl (fisc l) (List.length l) .any, (I6 (↑i : Int)), .dptr [List.getD (fisc l) (Int.toNat (↑i : Int) * 3 + 0) U6, List.getD (fisc l) (Int.toNat (↑i : Int) * 3 + 1) U6, List.getD (fisc l) (Int.toNat (↑i : Int) * 3 + 2) AVal.undef], .dptr [List.getD (fisc l) (Int.toNat (↑i : Int) * 3 + 2) AVal.undef], List.getD (fisc l) (Int.toNat (↑i : Int) * 3 + 2) AVal.undef] ++ UU 19, [⟨[.sl (fisc l) (List.length l) .any, (I6 room), (I6 arm), (B6 dead)], 4, .fresh⟩, ⟨[.sl (fisc l) (List.length l) .any, (I6 room), (I6 arm), (B6 dead)], 4, .fresh⟩]⟩ (by intro ext; kernel_rfl) (by kernel_rfl) ⟨trivial, ⟨(by omega), ⟨trivial, ⟨⟨⟨(by omega), (by omega)⟩, (by (simp [spliceA_length] <;> omega))⟩, ⟨(by omega), ⟨(by omega), ⟨trivial, ⟨(by omega), ⟨trivial, ⟨⟨⟨(by omega), (by omega)⟩, (by (simp [spliceA_length] <;> omega))⟩, ⟨(by omega), ⟨(by omega), trivial⟩⟩⟩⟩⟩⟩⟩⟩⟩⟩⟩⟩ ?_
              rw [Int.toNat_natCast (i)]
              rw [Nat.add_zero (i * 3)]
              rw [Go.Dk.fi_0 (l) (i) (by omega)]
              rw [Go.Dk.fi_1 (l) (i) (by omega)]
              rw [Go.Dk.fi_2 (l) (i) (by omega)]
              refine DerX.preI 3 ((True) ∧ ((True) ∧ ((True) ∧ (True)))) (by intro ext; kernel_rfl) ⟨trivial, ⟨trivial, ⟨trivial, trivial⟩⟩⟩ ?_
              refine AWP.toX ⟨[U6, U6, .ptr 0 0, .ptr 1 0, (B6 false), (I6 (↑i : Int))] ++ UU 32 ++ [(B6 (decide ((↑i : Int) < (↑(List.length l) : Int)))), U6, U6, .ptr 0 0, .sl (fisc l) (List.length l) .any, (I6 (↑i : Int)), .dptr [(S6 ((List.getD l i fi0).nm)), .sl (u8s (List.getD l i fi0).d) (List.length (List.getD l i fi0).d) .any, (I6 ((List.getD l i fi0).sf))], .dptr [(S6 ((List.getD l i fi0).nm))], (S6 ((List.getD l i fi0).nm)), .ptr 1 0, .sl (fisc l) (List.length l) .any, (I6 (↑i : Int)), .dptr [(S6 ((List.getD l i fi0).nm)), .sl (u8s (List.getD l i fi0).d) (List.length (List.getD l i fi0).d) .any, (I6 ((List.getD l i fi0).sf))], .dptr [(S6 ((List.getD l i fi0).nm))], (S6 ((List.getD l i fi0).nm)), (B6 false), (B6 false), .ptr 0 0, .sl (fisc l) (List.length l) .any, (I6 (↑i : Int)), .dptr [(S6 ((List.getD l i fi0).nm)), .sl (u8s (List.getD l i fi0).d) (List.length (List.getD l i fi0).d) .any, (I6 ((List.getD l i fi0).sf))], .dptr [(I6 ((List.getD l i fi0).sf))], (I6 ((List.getD l i fi0).sf)), .ptr 1 0, .sl (fisc l) (List.length l) .any, (I6 (↑i : Int)), .dptr [(S6 ((List.getD l i fi0).nm)), .sl (u8s (List.getD l i fi0).d) (List.length (List.getD l i fi0).d) .any, (I6 ((List.getD l i fi0).sf))], .dptr [(I6 ((List.getD l i fi0).sf))], (I6 ((List.getD l i fi0).sf)), (B6 ((List.getD l i fi0).sf != (List.getD l i fi0).sf)), (B6 ((List.getD l i fi0).sf != (List.getD l i fi0).sf)), (B6 ((List.getD l i fi0).sf != (List.getD l i fi0).sf))] ++ UU 16, [⟨[.sl (fisc l) (List.length l) .any, (I6 room), (I6 arm), (B6 dead)], 4, .fresh⟩, ⟨[.sl (fisc l) (List.length l) .any, (I6 room), (I6 arm), (B6 dead)], 4, .fresh⟩]⟩ (by kernel_rfl) ?_
              cases h7 : ((List.getD l i fi0).sf != (List.getD l i fi0).sf)
              · have h7' := bne_eq_false_iff_eq.1 h7
                refine DerX.pre 6 ((True) ∧ (((0 : Nat) < (4 : Nat)) ∧ ((True) ∧ ((((0 ≤ (↑i : Int)) ∧ ((↑i : Int) < (↑(List.length l) : Int))) ∧ (Int.toNat (↑i : Int) * 3 + 3 ≤ List.length (fisc l))) ∧ (((2 : Nat) ≤ (3 : Nat)) ∧ (((0 : Nat) < (1 : Nat)) ∧ (True))))))) [.ptr 0 0, .sl (fisc l) (List.length l) .any, (I6 (↑i : Int)), .dptr [List.getD (fisc l) (Int.toNat (↑i : Int) * 3 + 0) U6, List.getD (fisc l) (Int.toNat (↑i : Int) * 3 + 1) U6, List.getD (fisc l) (Int.toNat (↑i : Int) * 3 + 2) AVal.undef], .dptr [List.getD (fisc l) (Int.toNat (↑i : Int) * 3 + 1) AVal.undef], List.getD [List.getD (fisc l) (Int.toNat (↑i : Int) * 3 + 1) AVal.undef] 0 AVal.undef] ⟨[U6, U6, .ptr 0 0, .ptr 1 0, (B6 false), (I6 (↑i : Int))] ++ UU 32 ++ [(B6 (decide ((↑i : Int) < (↑(List.length l) : Int)))), U6, U6, .ptr 0 0, .sl (fisc l) (List.length l) .any, (I6 (↑i : Int)), .dptr [(S6 ((List.getD l i fi0).nm)), .sl (u8s (List.getD l i fi0).d) (List.length (List.getD l i fi0).d) .any, (I6 ((List.getD l i fi0).sf))], .dptr [(S6 ((List.getD l i fi0).nm))], (S6 ((List.getD l i fi0).nm)), .ptr 1 0, .sl (fisc l) (List.length l) .any, (I6 (↑i : Int)), .dptr [(S6 ((List.getD l i fi0).nm)), .sl (u8s (List.getD l i fi0).d) (List.length (List.getD l i fi0).d) .any, (I6 ((List.getD l i fi0).sf))], .dptr [(S6 ((List.getD l i fi0).nm))], (S6 ((List.getD l i fi0).nm)), (B6 false), (B6 false), .ptr 0 0, .sl (fisc l) (List.length l) .any, (I6 (↑i : Int)), .dptr [(S6 ((List.getD l i fi0).nm)), .sl (u8s (List.getD l i fi0).d) (List.length (List.getD l i fi0).d) .any, (I6 ((List.getD l i fi0).sf))], .dptr [(I6 ((List.getD l i fi0).sf))], (I6 ((List.getD l i fi0).sf)), .ptr 1 0, .sl (fisc l) (List.length l) .any, (I6 (↑i : Int)), .dptr [(S6 ((List.getD l i fi0).nm)), .sl (u8s (List.getD l i fi0).d) (List.length (List.getD l i fi0).d) .any, (I6 ((List.getD l i fi0).sf))], .dptr [(I6 ((List.getD l i fi0).sf))], (I6 ((List.getD l i fi0).sf)), (B6 false), (B6 false), (B6 false), .ptr 0 0, .sl (fisc l) (List.length l) .any, (I6 (↑i : Int)), .dptr [List.getD (fisc l) (Int.toNat (↑i : Int) * 3 + 0) U6, List.getD (fisc l) (Int.toNat (↑i : Int) * 3 + 1) U6, List.getD (fisc l) (Int.toNat (↑i : Int) * 3 + 2) AVal.undef], .dptr [List.getD (fisc l) (Int.toNat (↑i : Int) * 3 + 1) AVal.undef], List.getD (fisc l) (Int.toNat (↑i : Int) * 3 + 1) AVal.undef] ++ UU 10, [⟨[.sl (fisc l) (List.length l) .any, (I6 room), (I6 arm), (B6 dead)], 4, .fresh⟩, ⟨[.sl (fisc l) (List.length l) .any, (I6 room), (I6 arm), (B6 dead)], 4, .fresh⟩]⟩ (by intro ext; kernel_rfl) (by kernel_rfl) ⟨trivial, ⟨(by omega), ⟨trivial, ⟨⟨⟨(by omega), (by omega)⟩, (by (simp [spliceA_length] <;> omega))⟩, ⟨(by omega), ⟨(by omega), trivial⟩⟩⟩⟩⟩⟩ ?_
                rw [Int.toNat_natCast (i)]
                rw [Nat.add_zero (i * 3)]
                rw [Go.Dk.fi_0 (l) (i) (by omega)]
                rw [Go.Dk.fi_1 (l) (i) (by omega)]
                rw [Go.Dk.fi_2 (l) (i) (by omega)]
                refine DerX.pre 7 (((List.length (List.getD l i fi0).d = List.length (u8s (List.getD l i fi0).d)) ∧ (∀ (i_1 : Nat), i_1 < List.length (u8s (List.getD l i fi0).d) → isByteA (List.getD (u8s (List.getD l i fi0).d) i_1 AVal.undef) = true)) ∧ ((True) ∧ (((0 : Nat) < (4 : Nat)) ∧ ((True) ∧ ((((0 ≤ (↑i : Int)) ∧ ((↑i : Int) < (↑(List.length l) : Int))) ∧ (Int.toNat (↑i : Int) * 3 + 3 ≤ List.length (fisc l))) ∧ (((2 : Nat) ≤ (3 : Nat)) ∧ (((0 : Nat) < (1 : Nat)) ∧ (True)))))))) [(S6 (strOf (u8s (List.getD l i fi0).d))), .ptr 1 0, .sl (fisc l) (List.length l) .any, (I6 (↑i : Int)), .dptr [List.getD (fisc l) (Int.toNat (↑i : Int) * 3 + 0) U6, List.getD (fisc l) (Int.toNat (↑i : Int) * 3 + 1) U6, List.getD (fisc l) (Int.toNat (↑i : Int) * 3 + 2) AVal.undef], .dptr [List.getD (fisc l) (Int.toNat (↑i : Int) * 3 + 1) AVal.undef], List.getD [List.getD (fisc l) (Int.toNat (↑i : Int) * 3 + 1) AVal.undef] 0 AVal.undef] ⟨[U6, U6, .ptr 0 0, .ptr 1 0, (B6 false), (I6 (↑i : Int))] ++ UU 32 ++ [(B6 (decide ((↑i : Int) < (↑(List.length l) : Int)))), U6, U6, .ptr 0 0, .sl (fisc l) (List.length l) .any, (I6 (↑i : Int)), .dptr [(S6 ((List.getD l i fi0).nm)), .sl (u8s (List.getD l i fi0).d) (List.length (List.getD l i fi0).d) .any, (I6 ((List.getD l i fi0).sf))], .dptr [(S6 ((List.getD l i fi0).nm))], (S6 ((List.getD l i fi0).nm)), .ptr 1 0, .sl (fisc l) (List.length l) .any, (I6 (↑i : Int)), .dptr [(S6 ((List.getD l i fi0).nm)), .sl (u8s (List.getD l i fi0).d) (List.length (List.getD l i fi0).d) .any, (I6 ((List.getD l i fi0).sf))], .dptr [(S6 ((List.getD l i fi0).nm))], (S6 ((List.getD l i fi0).nm)), (B6 false), (B6 false), .ptr 0 0, .sl (fisc l) (List.length l) .any, (I6 (↑i : Int)), .dptr [(S6 ((List.getD l i fi0).nm)), .sl (u8s (List.getD l i fi0).d) (List.length (List.getD l i fi0).d) .any, (I6 ((List.getD l i fi0).sf))], .dptr [(I6 ((List.getD l i fi0).sf))], (I6 ((List.getD l i fi0).sf)), .ptr 1 0, .sl (fisc l) (List.length l) .any, (I6 (↑i : Int)), .dptr [(S6 ((List.getD l i fi0).nm)), .sl (u8s (List.getD l i fi0).d) (List.length (List.getD l i fi0).d) .any, (I6 ((List.getD l i fi0).sf))], .dptr [(I6 ((List.getD l i fi0).sf))], (I6 ((List.getD l i fi0).sf)), (B6 false), (B6 false), (B6 false), .ptr 0 0, .sl (fisc l) (List.length l) .any, (I6 (↑i : Int)), .dptr [(S6 ((List.getD l i fi0).nm)), .sl (u8s (List.getD l i fi0).d) (List.length (List.getD l i fi0).d) .any, (I6 ((List.getD l i fi0).sf))], .dptr [.sl (u8s (List.getD l i fi0).d) (List.length (List.getD l i fi0).d) .any], .sl (u8s (List.getD l i fi0).d) (List.length (List.getD l i fi0).d) .any, (S6 (strOf (u8s (List.getD l i fi0).d))), .ptr 1 0, .sl (fisc l) (List.length l) .any, (I6 (↑i : Int)), .dptr [List.getD (fisc l) (Int.toNat (↑i : Int) * 3 + 0) U6, List.getD (fisc l) (Int.toNat (↑i : Int) * 3 + 1) U6, List.getD (fisc l) (Int.toNat (↑i : Int) * 3 + 2) AVal.undef], .dptr [List.getD (fisc l) (Int.toNat (↑i : Int) * 3 + 1) AVal.undef], List.getD (fisc l) (Int.toNat (↑i : Int) * 3 + 1) U6, U6, U6, .undef], [⟨[.sl (fisc l) (List.length l) .any, (I6 room), (I6 arm), (B6 dead)], 4, .fresh⟩, ⟨[.sl (fisc l) (List.length l) .any, (I6 room), (I6 arm), (B6 dead)], 4, .fresh⟩]⟩ (by intro ext; kernel_rfl) (by kernel_rfl) ⟨⟨(by simp), (by exact u8s_isByte _)⟩, ⟨trivial, ⟨(by omega), ⟨trivial, ⟨⟨⟨(by omega), (by omega)⟩, (by (simp [spliceA_length] <;> omega))⟩, ⟨(by omega), ⟨(by omega), trivial⟩⟩⟩⟩⟩⟩⟩ ?_
                rw [Int.toNat_natCast (i)]
                rw [Nat.add_zero (i * 3)]
                rw [Go.Dk.fi_0 (l) (i) (by omega)]
                rw [Go.Dk.fi_1 (l) (i) (by omega)]
                rw [Go.Dk.fi_2 (l) (i) (by omega)]
                refine DerX.pre 3 (((List.length (List.getD l i fi0).d = List.length (u8s (List.getD l i fi0).d)) ∧ (∀ (i_1 : Nat), i_1 < List.length (u8s (List.getD l i fi0).d) → isByteA (List.getD (u8s (List.getD l i fi0).d) i_1 AVal.undef) = true)) ∧ ((True) ∧ ((True) ∧ (True)))) [(S6 (strOf (u8s (List.getD l i fi0).d))), (B6 (!ByteArray.toList (strOf (u8s (List.getD l i fi0).d)) == ByteArray.toList (strOf (u8s (List.getD l i fi0).d)))), (B6 (!ByteArray.toList (strOf (u8s (List.getD l i fi0).d)) == ByteArray.toList (strOf (u8s (List.getD l i fi0).d))))] ⟨[U6, U6, .ptr 0 0, .ptr 1 0, (B6 false), (I6 (↑i : Int))] ++ UU 32 ++ [(B6 (decide ((↑i : Int) < (↑(List.length l) : Int)))), U6, U6, .ptr 0 0, .sl (fisc l) (List.length l) .any, (I6 (↑i : Int)), .dptr [(S6 ((List.getD l i fi0).nm)), .sl (u8s (List.getD l i fi0).d) (List.length (List.getD l i fi0).d) .any, (I6 ((List.getD l i fi0).sf))], .dptr [(S6 ((List.getD l i fi0).nm))], (S6 ((List.getD l i fi0).nm)), .ptr 1 0, .sl (fisc l) (List.length l) .any, (I6 (↑i : Int)), .dptr [(S6 ((List.getD l i fi0).nm)), .sl (u8s (List.getD l i fi0).d) (List.length (List.getD l i fi0).d) .any, (I6 ((List.getD l i fi0).sf))], .dptr [(S6 ((List.getD l i fi0).nm))], (S6 ((List.getD l i fi0).nm)), (B6 false), (B6 false), .ptr 0 0, .sl (fisc l) (List.length l) .any, (I6 (↑i : Int)), .dptr [(S6 ((List.getD l i fi0).nm)), .sl (u8s (List.getD l i fi0).d) (List.length (List.getD l i fi0).d) .any, (I6 ((List.getD l i fi0).sf))], .dptr [(I6 ((List.getD l i fi0).sf))], (I6 ((List.getD l i fi0).sf)), .ptr 1 0, .sl (fisc l) (List.length l) .any, (I6 (↑i : Int)), .dptr [(S6 ((List.getD l i fi0).nm)), .sl (u8s (List.getD l i fi0).d) (List.length (List.getD l i fi0).d) .any, (I6 ((List.getD l i fi0).sf))], .dptr [(I6 ((List.getD l i fi0).sf))], (I6 ((List.getD l i fi0).sf)), (B6 false), (B6 false), (B6 false), .ptr 0 0, .sl (fisc l) (List.length l) .any, (I6 (↑i : Int)), .dptr [(S6 ((List.getD l i fi0).nm)), .sl (u8s (List.getD l i fi0).d) (List.length (List.getD l i fi0).d) .any, (I6 ((List.getD l i fi0).sf))], .dptr [.sl (u8s (List.getD l i fi0).d) (List.length (List.getD l i fi0).d) .any], .sl (u8s (List.getD l i fi0).d) (List.length (List.getD l i fi0).d) .any, (S6 (strOf (u8s (List.getD l i fi0).d))), .ptr 1 0, .sl (fisc l) (List.length l) .any, (I6 (↑i : Int)), .dptr [(S6 ((List.getD l i fi0).nm)), .sl (u8s (List.getD l i fi0).d) (List.length (List.getD l i fi0).d) .any, (I6 ((List.getD l i fi0).sf))], .dptr [.sl (u8s (List.getD l i fi0).d) (List.length (List.getD l i fi0).d) .any], .sl (u8s (List.getD l i fi0).d) (List.length (List.getD l i fi0).d) .any, (S6 (strOf (u8s (List.getD l i fi0).d))), (B6 (!ByteArray.toList (strOf (u8s (List.getD l i fi0).d)) == ByteArray.toList (strOf (u8s (List.getD l i fi0).d)))), (B6 (!ByteArray.toList (strOf (u8s (List.getD l i fi0).d)) == ByteArray.toList (strOf (u8s (List.getD l i fi0).d))))], [⟨[.sl (fisc l) (List.length l) .any, (I6 room), (I6 arm), (B6 dead)], 4, .fresh⟩, ⟨[.sl (fisc l) (List.length l) .any, (I6 room), (I6 arm), (B6 dead)], 4, .fresh⟩]⟩ (by intro ext; kernel_rfl) (by kernel_rfl) ⟨⟨(by simp), (by exact u8s_isByte _)⟩, ⟨trivial, ⟨trivial, trivial⟩⟩⟩ ?_
                rw [Go.Abs.str_ne (strOf (u8s (List.getD l i fi0).d)) (strOf (u8s (List.getD l i fi0).d))]
                refine DerX.nil ?_
                refine KL ([38] ++ NN 41 44) ⟨[U6, U6, .ptr 0 0, .ptr 1 0, (B6 false), (I6 (↑i : Int))] ++ UU 79 ++ [(B6 (decide ¬strOf (u8s (List.getD l i fi0).d) = strOf (u8s (List.getD l i fi0).d)))], [⟨[.sl (fisc l) (List.length l) .any, (I6 room), (I6 arm), (B6 dead)], 4, .fresh⟩, ⟨[.sl (fisc l) (List.length l) .any, (I6 room), (I6 arm), (B6 dead)], 4, .fresh⟩]⟩ ?_
                refine CN (decide ¬strOf (u8s (List.getD l i fi0).d) = strOf (u8s (List.getD l i fi0).d)) (fun h8 => ?_) (fun h8 => ?_)
                · have h8' := of_decide_eq_true h8
                  (exfalso; (exfalso; simp_all; done); done)
                · have h8' := of_decide_eq_false h8
                  refine AWP.skip (AWP.reg ?_)
                  refine DerQ.run (TT 3) ⟨[U6, U6, .ptr 0 0, .ptr 1 0, (B6 false), (I6 (IntKind.wrap IntKind.i64 ((↑i : Int) + 1)))] ++ UU 33 ++ [(I6 (↑i : Int)), (I6 (IntKind.wrap IntKind.i64 ((↑i : Int) + 1)))] ++ UU 44 ++ [(B6 (decide ¬strOf (u8s (List.getD l i fi0).d) = strOf (u8s (List.getD l i fi0).d)))], [⟨[.sl (fisc l) (List.length l) .any, (I6 room), (I6 arm), (B6 dead)], 4, .fresh⟩, ⟨[.sl (fisc l) (List.length l) .any, (I6 room), (I6 arm), (B6 dead)], 4, .fresh⟩]⟩ (by kernel_rfl) (tt 3) ?_
                  rw [IntWalk.i64_in ((↑i : Int) + 1) (by omega)]
                  (exact ⟨_, by omega, i + 1, rfl, by omega, by kernel_rfl⟩; done)
              · have h7' := bne_iff_ne.1 h7
                exfalso; omega
            · have h6' := of_decide_eq_true h6
              (exfalso; (exfalso; simp_all; done); done)
          · have h5' := of_decide_eq_false h5
            refine AWP.exit ?_
            refine AWP.seq (KL [2, 3, 5, 38] ⟨[U6, U6, U6, U6, (B6 false)] ++ UU 81, [⟨[.sl (fisc l) (List.length l) .any, (I6 room), (I6 arm), (B6 dead)], 4, .fresh⟩, ⟨[.sl (fisc l) (List.length l) .any, (I6 room), (I6 arm), (B6 dead)], 4, .fresh⟩]⟩ ?_)
            refine AWP.reg (RT 1 ?_)
            refine AWP.ret FA
      · have h3' := h3
        simp only [Bool.and_eq_true, Bool.and_eq_false_iff, Bool.or_eq_true, Bool.or_eq_false_iff, Bool.not_eq_true', Bool.not_eq_false', beq_iff_eq, beq_eq_false_iff_ne, decide_eq_true_eq, decide_eq_false_iff_not, ne_eq] at h3'
        (exfalso; (exfalso; simp_all; done); done)
    · have h2' := bne_iff_ne.1 h2
      exfalso; omega
  · have h1' := bne_iff_ne.1 h1
    exfalso; omega
end Go.Dk
