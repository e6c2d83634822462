/- Walks and laws. -/
import Derived.Test.YtfkilkfaiiijbaaCnt12
import Derived.Test.YtfkilkfaiiijbaaLibC
set_option maxRecDepth 100000
set_option maxHeartbeats 0
set_option linter.unusedSimpArgs false
set_option linter.unusedVariables false
namespace Go.Cnt
open Go Go.Abs Go.Proofs Go.Ops
theorem dec_t {P : Program} {f : FuncId} {args : List AVal} {p : Prop} [Decidable p] (h : EvD P f args (.sc (.bool (decide p)))) (hp : p) : EvD P f args (.sc (.bool true)) := by
  rwa [decide_eq_true hp] at h
def tT : TxD := ⟨1, 1, fun _ => 0, 0, []⟩
def tU : TxD := ⟨2, 1, fun _ => 0, 0, []⟩
def tV : TxD := ⟨3, 1, fun i => if i = 1 then 1 else 0, 0, []⟩
theorem g1 : EvD Try.prog 37 [.agg [.sc (.int .i64 (1)), .sc (.int .i64 (0)), .sl [] 0 .any, .sl [] 0 .any, .sl [] 0 .any, .sl [] 0 .any], .agg [.sc (.int .i64 (1)), .sc (.int .i64 (1)), .sc (.int .i64 (0)), .sc (.int .i64 (0)), .sc (.int .i64 (0)), .sc (.int .i64 (0)), .sc (.int .i64 (0)), .sc (.int .i64 (0)), .sc (.int .i64 (0)), .sc (.int .i64 (0)), .sc (.int .i64 (0)), .sc (.int .i64 (0)), .sc (.int .i64 (0)), .sc (.int .i64 (0)), .sc (.int .i64 (0)), .sc (.int .i64 (0)), .sl [] 0 .any], .sc (.int .i64 (1)), .sc (.int .i64 (3))] (.agg [.sc (.int .i64 (1)), .sc (.int .i64 (0)), .sl [.sc (.int .i64 (1)), .sc (.int .i64 (1)), .sc (.int .i64 (1)), .sc (.int .i64 (3))] 1 .any, .sl [] 0 .any, .sl [] 0 .any, .sl [] 0 .any]) :=
  do_end .on tT 1 3 1 0 [] 0 0 0 [] [] [] rfl rfl rfl (by decide) (by decide) (by decide) (by decide) (by intro j hj; simp at hj)
theorem g2 : EvD Try.prog 37 [.agg [.sc (.int .i64 (1)), .sc (.int .i64 (0)), .sl [.sc (.int .i64 (1)), .sc (.int .i64 (1)), .sc (.int .i64 (1)), .sc (.int .i64 (3))] 1 .any, .sl [] 0 .any, .sl [] 0 .any, .sl [] 0 .any], .agg [.sc (.int .i64 (2)), .sc (.int .i64 (1)), .sc (.int .i64 (0)), .sc (.int .i64 (0)), .sc (.int .i64 (0)), .sc (.int .i64 (0)), .sc (.int .i64 (0)), .sc (.int .i64 (0)), .sc (.int .i64 (0)), .sc (.int .i64 (0)), .sc (.int .i64 (0)), .sc (.int .i64 (0)), .sc (.int .i64 (0)), .sc (.int .i64 (0)), .sc (.int .i64 (0)), .sc (.int .i64 (0)), .sl [] 0 .any], .sc (.int .i64 (1)), .sc (.int .i64 (4))] (.agg [.sc (.int .i64 (1)), .sc (.int .i64 (0)), .sl [.sc (.int .i64 (1)), .sc (.int .i64 (1)), .sc (.int .i64 (1)), .sc (.int .i64 (3)), .sc (.int .i64 (2)), .sc (.int .i64 (1)), .sc (.int .i64 (1)), .sc (.int .i64 (4))] 2 .any, .sl [] 0 .any, .sl [] 0 .any, .sl [] 0 .any]) :=
  do_end .on tU 1 4 1 0 [⟨1, 1, 1, 3⟩] 0 0 0 [] [] [] rfl rfl rfl (by decide) (by decide) (by decide) (by decide) (by decide)
theorem g3 : EvD Try.prog 40 [.agg [.sc (.int .i64 (1)), .sc (.int .i64 (0)), .sl [.sc (.int .i64 (1)), .sc (.int .i64 (1)), .sc (.int .i64 (1)), .sc (.int .i64 (3)), .sc (.int .i64 (2)), .sc (.int .i64 (1)), .sc (.int .i64 (1)), .sc (.int .i64 (4))] 2 .any, .sl [] 0 .any, .sl [] 0 .any, .sl [] 0 .any], .agg [.sc (.int .i64 (0)), .sc (.int .i64 (1)), .sc (.int .i64 (0)), .sc (.int .i64 (0)), .sc (.int .i64 (0)), .sc (.int .i64 (0)), .sc (.int .i64 (0)), .sc (.int .i64 (0)), .sc (.int .i64 (0)), .sc (.int .i64 (0)), .sc (.int .i64 (0)), .sc (.int .i64 (0)), .sc (.int .i64 (0))]] (.agg [.sc (.int .i64 (1)), .sc (.int .i64 (3)), .sl [.sc (.int .i64 (2)), .sc (.int .i64 (1)), .sc (.int .i64 (1)), .sc (.int .i64 (4))] 1 .any, .sl [] 0 .any, .sl [] 0 .any, .sl [] 0 .any]) :=
  fold_in .on tV.v 1 0 [⟨1, 1, 1, 3⟩, ⟨2, 1, 1, 4⟩] 0 0 0 [] [] [] rfl rfl rfl (by decide) (by decide) (by decide)
theorem g4 : EvD Try.prog 34 [.agg [.sc (.int .i64 (1)), .sc (.int .i64 (0)), .sl [.sc (.int .i64 (1)), .sc (.int .i64 (1)), .sc (.int .i64 (1)), .sc (.int .i64 (3)), .sc (.int .i64 (2)), .sc (.int .i64 (1)), .sc (.int .i64 (1)), .sc (.int .i64 (4))] 2 .any, .sl [] 0 .any, .sl [] 0 .any, .sl [] 0 .any]] (.agg [.sc (.int .i64 (1)), .sc (.int .i64 (7)), .sl [] 0 .any, .sl [] 0 .any]) :=
  read_yes 1 0 [⟨1, 1, 1, 3⟩, ⟨2, 1, 1, 4⟩] 0 0 0 [] [] [] rfl rfl rfl (by decide) (by decide)
theorem g5 : EvD Try.prog 33 [.agg [.sc (.int .i64 (1)), .sc (.int .i64 (0)), .sl [.sc (.int .i64 (1)), .sc (.int .i64 (1)), .sc (.int .i64 (1)), .sc (.int .i64 (3)), .sc (.int .i64 (2)), .sc (.int .i64 (1)), .sc (.int .i64 (1)), .sc (.int .i64 (4))] 2 .any, .sl [] 0 .any, .sl [] 0 .any, .sl [] 0 .any], .agg [.sc (.int .i64 (3)), .sc (.int .i64 (1)), .sc (.int .i64 (0)), .sc (.int .i64 (1)), .sc (.int .i64 (0)), .sc (.int .i64 (0)), .sc (.int .i64 (0)), .sc (.int .i64 (0)), .sc (.int .i64 (0)), .sc (.int .i64 (0)), .sc (.int .i64 (0)), .sc (.int .i64 (0)), .sc (.int .i64 (0)), .sc (.int .i64 (0)), .sc (.int .i64 (0)), .sc (.int .i64 (0)), .sl [] 0 .any], .sc (.int .i64 (1))] (.agg [.sc (.int .i64 (1)), .sc (.int .i64 (0)), .sl [.sc (.int .i64 (2)), .sc (.int .i64 (1)), .sc (.int .i64 (1)), .sc (.int .i64 (4))] 1 .any, .sl [] 0 .any, .sl [] 0 .any, .sl [] 0 .any]) :=
  clear_yes .on tV 1 1 0 [⟨1, 1, 1, 3⟩, ⟨2, 1, 1, 4⟩] 0 0 0 [] [] [] rfl rfl rfl (by decide) (by decide)
theorem g6 : EvD Try.prog 34 [.agg [.sc (.int .i64 (1)), .sc (.int .i64 (0)), .sl [.sc (.int .i64 (2)), .sc (.int .i64 (1)), .sc (.int .i64 (1)), .sc (.int .i64 (4))] 1 .any, .sl [] 0 .any, .sl [] 0 .any, .sl [] 0 .any]] (.agg [.sc (.int .i64 (1)), .sc (.int .i64 (4)), .sl [] 0 .any, .sl [] 0 .any]) :=
  read_yes 1 0 [⟨2, 1, 1, 4⟩] 0 0 0 [] [] [] rfl rfl rfl (by decide) (by decide)
theorem g7 : EvD Try.prog 34 [.agg [.sc (.int .i64 (1)), .sc (.int .i64 (3)), .sl [.sc (.int .i64 (2)), .sc (.int .i64 (1)), .sc (.int .i64 (1)), .sc (.int .i64 (4))] 1 .any, .sl [] 0 .any, .sl [] 0 .any, .sl [] 0 .any]] (.agg [.sc (.int .i64 (1)), .sc (.int .i64 (7)), .sl [] 0 .any, .sl [] 0 .any]) :=
  read_yes 1 3 [⟨2, 1, 1, 4⟩] 0 0 0 [] [] [] rfl rfl rfl (by decide) (by decide)
theorem g8 : EvD Try.prog 35 [.agg [.sc (.int .i64 (1)), .sc (.int .i64 (3)), .sl [.sc (.int .i64 (2)), .sc (.int .i64 (1)), .sc (.int .i64 (1)), .sc (.int .i64 (4))] 1 .any, .sl [] 0 .any, .sl [] 0 .any, .sl [] 0 .any]] (.sc (.bool true)) :=
  dec_t (check 1 3 [⟨2, 1, 1, 4⟩] 0 0 0 [] [] [] rfl rfl rfl (by decide)) (by decide)
theorem g9 : EvD Try.prog 37 [.agg [.sc (.int .i64 (1)), .sc (.int .i64 (0)), .sl [.sc (.int .i64 (1)), .sc (.int .i64 (1)), .sc (.int .i64 (1)), .sc (.int .i64 (3)), .sc (.int .i64 (2)), .sc (.int .i64 (1)), .sc (.int .i64 (1)), .sc (.int .i64 (4))] 2 .any, .sl [] 0 .any, .sl [] 0 .any, .sl [] 0 .any], .agg [.sc (.int .i64 (1)), .sc (.int .i64 (1)), .sc (.int .i64 (0)), .sc (.int .i64 (0)), .sc (.int .i64 (0)), .sc (.int .i64 (0)), .sc (.int .i64 (0)), .sc (.int .i64 (0)), .sc (.int .i64 (0)), .sc (.int .i64 (0)), .sc (.int .i64 (0)), .sc (.int .i64 (0)), .sc (.int .i64 (0)), .sc (.int .i64 (0)), .sc (.int .i64 (0)), .sc (.int .i64 (0)), .sl [] 0 .any], .sc (.int .i64 (1)), .sc (.int .i64 (9))] (.agg [.sc (.int .i64 (1)), .sc (.int .i64 (0)), .sl [.sc (.int .i64 (1)), .sc (.int .i64 (1)), .sc (.int .i64 (1)), .sc (.int .i64 (3)), .sc (.int .i64 (2)), .sc (.int .i64 (1)), .sc (.int .i64 (1)), .sc (.int .i64 (4))] 2 .any, .sl [] 0 .any, .sl [] 0 .any, .sl [] 0 .any]) :=
  do_again .on tT 1 9 1 0 ⟨1, 1, 1, 3⟩ ⟨2, 1, 1, 4⟩ 0 0 0 [] [] [] rfl rfl rfl (by decide) (by decide) (by decide) rfl rfl rfl
theorem g10 : EvD Try.prog 36 [.agg [.sc (.int .i64 (1)), .sc (.int .i64 (0)), .sl [.sc (.int .i64 (1)), .sc (.int .i64 (1)), .sc (.int .i64 (1)), .sc (.int .i64 (3)), .sc (.int .i64 (2)), .sc (.int .i64 (1)), .sc (.int .i64 (1)), .sc (.int .i64 (4))] 2 .any, .sl [] 0 .any, .sl [] 0 .any, .sl [] 0 .any], .agg [.sc (.int .i64 (1)), .sc (.int .i64 (0)), .sl [.sc (.int .i64 (1)), .sc (.int .i64 (1)), .sc (.int .i64 (1)), .sc (.int .i64 (3)), .sc (.int .i64 (2)), .sc (.int .i64 (1)), .sc (.int .i64 (1)), .sc (.int .i64 (4))] 2 .any, .sl [] 0 .any, .sl [] 0 .any, .sl [] 0 .any]] (.sc (.bool true)) :=
  dec_t (r_same0 1 0 1 0 [⟨1, 1, 1, 3⟩, ⟨2, 1, 1, 4⟩] [⟨1, 1, 1, 3⟩, ⟨2, 1, 1, 4⟩] [] [] [] [] [] [] rfl rfl rfl rfl rfl rfl (by decide)) (by decide)
theorem heads : EvD Try.prog 32 [] (.sc (.bool true)) := by
  refine EvD.body Try.func32 rfl rfl rfl ?_
  refine AWP.seq ?_
  refine TO ⟨[.undef] ++ UU 68, []⟩ ?_
  refine AWP.reg (RT 1 ?_)
  refine AWP.seq ?_
  refine TO ⟨[(B6 false)] ++ UU 68, []⟩ ?_
  refine AWP.reg (RI (True ∧ True ∧ True ∧ 17 ≤ 17 ∧ True) ⟨trivial, trivial, trivial, (by omega), trivial⟩ ?_)
  refine AWP.seq (KL [6, 7] ⟨[(B6 false), .ptr 0 0] ++ UU 67, [⟨[(I6 1), (I6 1), (I6 0), (I6 0), (I6 0), (I6 0), (I6 0), (I6 0), (I6 0), (I6 0), (I6 0), (I6 0), (I6 0), (I6 0), (I6 0), (I6 0), .sl [] 0 .nil], 17, .fresh⟩]⟩ ?_)
  refine AWP.reg (RI (True ∧ True ∧ True ∧ 17 ≤ 17 ∧ True) ⟨trivial, trivial, trivial, (by omega), trivial⟩ ?_)
  refine AWP.seq (KL [8, 9] ⟨[(B6 false), .ptr 0 0, .ptr 1 0] ++ UU 66, [⟨[(I6 1), (I6 1), (I6 0), (I6 0), (I6 0), (I6 0), (I6 0), (I6 0), (I6 0), (I6 0), (I6 0), (I6 0), (I6 0), (I6 0), (I6 0), (I6 0), .sl [] 0 .nil], 17, .fresh⟩, ⟨[(I6 2), (I6 1), (I6 0), (I6 0), (I6 0), (I6 0), (I6 0), (I6 0), (I6 0), (I6 0), (I6 0), (I6 0), (I6 0), (I6 0), (I6 0), (I6 0), .sl [] 0 .nil], 17, .fresh⟩]⟩ ?_)
  refine AWP.reg (RI (True ∧ True ∧ True ∧ 17 ≤ 17 ∧ True) ⟨trivial, trivial, trivial, (by omega), trivial⟩ ?_)
  refine AWP.seq (KL [10, 11] ⟨[(B6 false), .ptr 0 0, .ptr 1 0, .ptr 2 0] ++ UU 65, [⟨[(I6 1), (I6 1), (I6 0), (I6 0), (I6 0), (I6 0), (I6 0), (I6 0), (I6 0), (I6 0), (I6 0), (I6 0), (I6 0), (I6 0), (I6 0), (I6 0), .sl [] 0 .nil], 17, .fresh⟩, ⟨[(I6 2), (I6 1), (I6 0), (I6 0), (I6 0), (I6 0), (I6 0), (I6 0), (I6 0), (I6 0), (I6 0), (I6 0), (I6 0), (I6 0), (I6 0), (I6 0), .sl [] 0 .nil], 17, .fresh⟩, ⟨[(I6 3), (I6 1), (I6 0), (I6 0), (I6 0), (I6 0), (I6 0), (I6 0), (I6 0), (I6 0), (I6 0), (I6 0), (I6 0), (I6 0), (I6 0), (I6 0), .sl [] 0 .nil], 17, .fresh⟩]⟩ ?_)
  refine AWP.reg (RI (True ∧ (((0 : Int) ≤ (1 : Int)) ∧ ((1 : Int) < (13 : Int))) ∧ 4 ≤ 17 ∧ True) ⟨trivial, ⟨(by omega), (by omega)⟩, (by omega), trivial⟩ ?_)
  refine AWP.seq (KL [12, 13] ⟨[(B6 false), .ptr 0 0, .ptr 1 0, .ptr 2 0] ++ UU 65, [⟨[(I6 1), (I6 1), (I6 0), (I6 0), (I6 0), (I6 0), (I6 0), (I6 0), (I6 0), (I6 0), (I6 0), (I6 0), (I6 0), (I6 0), (I6 0), (I6 0), .sl [] 0 .nil], 17, .fresh⟩, ⟨[(I6 2), (I6 1), (I6 0), (I6 0), (I6 0), (I6 0), (I6 0), (I6 0), (I6 0), (I6 0), (I6 0), (I6 0), (I6 0), (I6 0), (I6 0), (I6 0), .sl [] 0 .nil], 17, .fresh⟩, ⟨[(I6 3), (I6 1), (I6 0), (I6 1), (I6 0), (I6 0), (I6 0), (I6 0), (I6 0), (I6 0), (I6 0), (I6 0), (I6 0), (I6 0), (I6 0), (I6 0), .sl [] 0 .nil], 17, .fresh⟩]⟩ ?_)
  refine AWP.drawX mixed (fun o => [4, 0].contains (o.dst.getD 0)) (by kernel_rfl) ?_
  refine DerX.preI 2 ((True) ∧ (((17 : Nat) ≤ (17 : Nat)) ∧ (True))) (by intro ext; kernel_rfl) ⟨trivial, ⟨(by omega), trivial⟩⟩ ?_
  refine DerX.callEI (g1) ⟨by kernel_rfl, by kernel_rfl⟩ ?_
  refine DerX.quietI ((17 : Nat) ≤ (17 : Nat)) (by intro ext; kernel_rfl) (by kernel_rfl) (by omega) ?_
  refine DerX.callEI (g2) ⟨by kernel_rfl, by kernel_rfl⟩ ?_
  refine DerX.effI (True) (by kernel_rfl) ⟨by kernel_rfl, by kernel_rfl, by kernel_rfl⟩ trivial ?_
  refine DerX.effI ((6 : Nat) ≤ (6 : Nat)) (by kernel_rfl) ⟨by kernel_rfl, by kernel_rfl, by kernel_rfl⟩ (by omega) ?_
  refine DerX.nil ?_
  refine AWP.seq (KL ([2] ++ NN 14 5) ⟨[(B6 false), .ptr 0 0, U6, .ptr 2 0, .ptr 3 0] ++ UU 64, [⟨[(I6 1), (I6 1), (I6 0), (I6 0), (I6 0), (I6 0), (I6 0), (I6 0), (I6 0), (I6 0), (I6 0), (I6 0), (I6 0), (I6 0), (I6 0), (I6 0), .sl [] 0 .nil], 17, .fresh⟩, ⟨[(I6 2), (I6 1), (I6 0), (I6 0), (I6 0), (I6 0), (I6 0), (I6 0), (I6 0), (I6 0), (I6 0), (I6 0), (I6 0), (I6 0), (I6 0), (I6 0), .sl [] 0 .nil], 17, .fresh⟩, ⟨[(I6 3), (I6 1), (I6 0), (I6 1), (I6 0), (I6 0), (I6 0), (I6 0), (I6 0), (I6 0), (I6 0), (I6 0), (I6 0), (I6 0), (I6 0), (I6 0), .sl [] 0 .nil], 17, .fresh⟩, ⟨[(I6 1), (I6 0), .sl [(I6 1), (I6 1), (I6 1), (I6 3), (I6 2), (I6 1), (I6 1), (I6 4)] 2 .any, .sl [] 0 .any, .sl [] 0 .any, .sl [] 0 .any], 6, .fresh⟩]⟩ ?_)
  refine AWP.reg (PI 3 (6 ≤ 6 ∧ True ∧ 15 ≤ 17 ∧ True) ⟨(by omega), trivial, (by omega), trivial⟩ ?_)
  refine CD (g3) ?_
  refine RI (True ∧ 6 ≤ 6 ∧ True) ⟨trivial, (by omega), trivial⟩ ?_
  refine AWP.seq (KL [19, 20, 21, 22] ⟨[(B6 false), .ptr 0 0, U6, .ptr 2 0, .ptr 3 0, .ptr 4 0] ++ UU 63, [⟨[(I6 1), (I6 1), (I6 0), (I6 0), (I6 0), (I6 0), (I6 0), (I6 0), (I6 0), (I6 0), (I6 0), (I6 0), (I6 0), (I6 0), (I6 0), (I6 0), .sl [] 0 .nil], 17, .fresh⟩, ⟨[(I6 2), (I6 1), (I6 0), (I6 0), (I6 0), (I6 0), (I6 0), (I6 0), (I6 0), (I6 0), (I6 0), (I6 0), (I6 0), (I6 0), (I6 0), (I6 0), .sl [] 0 .nil], 17, .fresh⟩, ⟨[(I6 3), (I6 1), (I6 0), (I6 1), (I6 0), (I6 0), (I6 0), (I6 0), (I6 0), (I6 0), (I6 0), (I6 0), (I6 0), (I6 0), (I6 0), (I6 0), .sl [] 0 .nil], 17, .fresh⟩, ⟨[(I6 1), (I6 0), .sl [(I6 1), (I6 1), (I6 1), (I6 3), (I6 2), (I6 1), (I6 1), (I6 4)] 2 .any, .sl [] 0 .any, .sl [] 0 .any, .sl [] 0 .any], 6, .fresh⟩, ⟨[(I6 1), (I6 3), .sl [(I6 2), (I6 1), (I6 1), (I6 4)] 1 .any, .sl [] 0 .any, .sl [] 0 .any, .sl [] 0 .any], 6, .fresh⟩]⟩ ?_)
  refine AWP.drawX mixed (fun o => [24, 29, 36, 37, 43, 60, 65, 67].contains (o.dst.getD 0)) (by kernel_rfl) ?_
  refine DerX.quietI ((6 : Nat) ≤ (6 : Nat)) (by intro ext; kernel_rfl) (by kernel_rfl) (by omega) ?_
  refine DerX.callDI (g4) ⟨by kernel_rfl, by kernel_rfl⟩ ?_
  refine DerX.preI 4 (((1 : Nat) < (4 : Nat)) ∧ ((True) ∧ ((True) ∧ (((6 : Nat) ≤ (6 : Nat)) ∧ (True))))) (by intro ext; kernel_rfl) ⟨(by omega), ⟨trivial, ⟨trivial, ⟨(by omega), trivial⟩⟩⟩⟩ ?_
  refine DerX.callDI (g4) ⟨by kernel_rfl, by kernel_rfl⟩ ?_
  refine DerX.preI 6 (((0 : Nat) < (4 : Nat)) ∧ ((True) ∧ ((True) ∧ ((True) ∧ (((6 : Nat) ≤ (6 : Nat)) ∧ (((17 : Nat) ≤ (17 : Nat)) ∧ (True))))))) (by intro ext; kernel_rfl) ⟨(by omega), ⟨trivial, ⟨trivial, ⟨trivial, ⟨(by omega), ⟨(by omega), trivial⟩⟩⟩⟩⟩⟩ ?_
  refine DerX.callEI (g5) ⟨by kernel_rfl, by kernel_rfl⟩ ?_
  refine DerX.callDI (g6) ⟨by kernel_rfl, by kernel_rfl⟩ ?_
  refine DerX.preI 5 (((1 : Nat) < (4 : Nat)) ∧ ((True) ∧ ((True) ∧ ((True) ∧ (((6 : Nat) ≤ (6 : Nat)) ∧ (True)))))) (by intro ext; kernel_rfl) ⟨(by omega), ⟨trivial, ⟨trivial, ⟨trivial, ⟨(by omega), trivial⟩⟩⟩⟩⟩ ?_
  refine DerX.callDI (g7) ⟨by kernel_rfl, by kernel_rfl⟩ ?_
  refine DerX.preI 16 (((1 : Nat) < (4 : Nat)) ∧ ((True) ∧ ((True) ∧ ((True) ∧ ((True) ∧ (((2 : Nat) < (6 : Nat)) ∧ ((True) ∧ ((True) ∧ ((True) ∧ ((True) ∧ ((True) ∧ (((1 : Nat) < (6 : Nat)) ∧ ((True) ∧ ((True) ∧ ((True) ∧ (((6 : Nat) ≤ (6 : Nat)) ∧ (True))))))))))))))))) (by intro ext; kernel_rfl) ⟨(by omega), ⟨trivial, ⟨trivial, ⟨trivial, ⟨trivial, ⟨(by omega), ⟨trivial, ⟨trivial, ⟨trivial, ⟨trivial, ⟨trivial, ⟨(by omega), ⟨trivial, ⟨trivial, ⟨trivial, ⟨(by omega), trivial⟩⟩⟩⟩⟩⟩⟩⟩⟩⟩⟩⟩⟩⟩⟩⟩ ?_
  refine DerX.callDI (g8) ⟨by kernel_rfl, by kernel_rfl⟩ ?_
  refine DerX.preI 4 ((True) ∧ ((True) ∧ (((6 : Nat) ≤ (6 : Nat)) ∧ (((17 : Nat) ≤ (17 : Nat)) ∧ (True))))) (by intro ext; kernel_rfl) ⟨trivial, ⟨trivial, ⟨(by omega), ⟨(by omega), trivial⟩⟩⟩⟩ ?_
  refine DerX.callEI (g9) ⟨by kernel_rfl, by kernel_rfl⟩ ?_
  refine DerX.quietI ((6 : Nat) ≤ (6 : Nat)) (by intro ext; kernel_rfl) (by kernel_rfl) (by omega) ?_
  refine DerX.callDI (g10) ⟨by kernel_rfl, by kernel_rfl⟩ ?_
  refine DerX.preI 2 ((True) ∧ ((True) ∧ (True))) (by intro ext; kernel_rfl) ⟨trivial, ⟨trivial, trivial⟩⟩ ?_
  refine DerX.nil ?_
  refine AWP.ret FA
end Go.Cnt
