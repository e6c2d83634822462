/- Walks and laws. -/
import Derived.Test.YtmcjdeiicbgmhabChB5
import Derived.Test.YtmcjdeiicbgmhabLibB
set_option maxRecDepth 100000
set_option maxHeartbeats 0
set_option linter.unusedSimpArgs false
set_option linter.unusedVariables false
namespace Go.Chu
open Go Go.Abs Go.Proofs
structure MT where
  k : Int
  f : Int
  d : Int
  t : Go.Ops.TxD
  v : Nat → Int
  r : Nat → Int
  fl : Bool
  nu : Int
  n : Int
  c : Int
  data : List Int
  i : Go.Tr.T
  e : Go.Tr.T
  ps : List Int
def ints (l : List Int) : List AVal := l.map fun p => .sc (.int .i64 p)
def MT.toM (g : Gate) (x : MT) : MsgD where
  kind := x.k
  src := x.f
  dst := x.d
  tx := Go.Ops.txc g x.t
  vec := vecc g x.v
  row := vecc g x.r
  flag := x.fl
  num := x.nu
  n := x.n
  cnt := x.c
  data := x.data
  st := [.sc (.int .i64 x.i.n), .sl (Go.Tr.tcs x.i.ks) x.i.ks.length .any, .sc (.int .i64 x.e.n), .sl (Go.Tr.tcs x.e.ks) x.e.ks.length .any]
  peers := .sl (ints x.ps) x.ps.length .any
  htx := by simp
  hvec := by simp
  hrow := by simp
  hst := rfl
  htxd := by simp
  hvecd := by simp
  hrowd := by simp
  hstd := rfl
  hpd := rfl
theorem mt_tx (g g' : Gate) (x : MT) : List.take 17 (List.drop 3 (msgc g (x.toM g'))) = Go.Ops.txc g' x.t := msg_tx g _
theorem mt_st (g g' : Gate) (x : MT) : List.take 4 (List.drop 51 (msgc g (x.toM g'))) = [.sc (.int .i64 x.i.n), .sl (Go.Tr.tcs x.i.ks) x.i.ks.length .any, .sc (.int .i64 x.e.n), .sl (Go.Tr.tcs x.e.ks) x.e.ks.length .any] := msg_st g _
theorem mt_50 (g g' : Gate) (x : MT) : List.getD (msgc g (x.toM g')) 50 .undef = .sl (u8s x.data) x.data.length .any := msg_50 g _
theorem mt_55 (g g' : Gate) (x : MT) : List.getD (msgc g (x.toM g')) 55 .undef = .sl (ints x.ps) x.ps.length .any := msg_55 g _
def fewM (x : MT) : Prop := Go.Ops.smallP x.t ∧ x.data.length ≤ 2000 ∧ (Go.Tr.size (.mk x.i.n x.i.ks) ≤ 120 ∧ Go.Tr.size (.mk x.e.n x.e.ks) ≤ 120) ∧ x.ps.length ≤ 40
instance (x : MT) : Decidable (fewM x) := by unfold fewM; infer_instance
theorem r_mfew (g : Gate) (x : MT) : EvD Try.prog 10 [.agg (msgc g (x.toM g))] (.sc (.bool (decide (fewM x)))) := by
  have c1 := Go.Ops.r_small g x.t
  have c2 := Go.Tr.sr_few x.i.n x.e.n x.i.ks x.e.ks
  refine EvD.body Try.func10 rfl (by simp [dataAll, AVal.data]) rfl ?_
  refine AWP.seq ?_
  refine TO ⟨[.agg (msgc g (MT.toM g x))] ++ UU 22, []⟩ ?_
  refine AWP.reg (RT 2 ?_)
  refine AWP.seq (KL [0] ⟨[U6, .ptr 0 0, (B6 false)] ++ UU 20, [⟨msgc g (MT.toM g x), 56, .fresh⟩]⟩ ?_)
  refine AWP.reg ?_
  refine DerQ.pre 2 (True ∧ (20 ≤ List.length (msgc g (MT.toM g x))) ∧ True) ⟨[U6, .ptr 0 0, (B6 false), .ptr 0 3, .agg (List.take 17 (List.drop 3 (msgc g (MT.toM g x))))] ++ UU 18, [⟨msgc g (MT.toM g x), 56, .fresh⟩]⟩ (by kernel_rfl) ⟨trivial, (by simp), trivial⟩ ?_
  rw [Go.Chu.mt_tx (g) (g) (x)]
  refine CD (c1) ?_
  refine PT 1 1 ?_
  refine DerQ.to ⟨[U6, .ptr 0 0, (B6 false), .ptr 0 3, .agg (Ops.txc g x.t), (B6 (decide (Ops.smallP x.t))), (B6 (decide (Ops.smallP x.t)))] ++ UU 16, [⟨msgc g (MT.toM g x), 56, .fresh⟩]⟩ (by kernel_rfl) ?_
  cases h1 : (decide (Ops.smallP x.t))
  · have h1' := of_decide_eq_false h1
    refine RT 6 ?_
    refine AWP.ret ?_
    refine FI (.sc (.bool false)) ?_
    refine Shrink.all ?_ rfl
    (exact dec_no (fun h => by have h1 := h.1; have h2 := h.2.1; have h3 := h.2.2.1; have h4 := h.2.2.2; simp_all; done); done)
  · have h1' := of_decide_eq_true h1
    refine DerQ.pre 2 (True ∧ (50 < List.length (msgc g (MT.toM g x))) ∧ True) ⟨[U6, .ptr 0 0, (B6 false), .ptr 0 3, .agg (Ops.txc g x.t), (B6 true), (B6 true), .ptr 0 50, List.getD (msgc g (MT.toM g x)) 50 AVal.undef] ++ UU 14, [⟨msgc g (MT.toM g x), 56, .fresh⟩]⟩ (by kernel_rfl) ⟨trivial, (by simp), trivial⟩ ?_
    rw [Go.Chu.mt_50 (g) (g) (x)]
    refine PT 4 4 ?_
    refine DerQ.to ⟨[U6, .ptr 0 0, (B6 false), .ptr 0 3, .agg (Ops.txc g x.t), (B6 true), (B6 true), .ptr 0 50, .sl (u8s x.data) (List.length x.data) .any, (I6 (↑(List.length x.data) : Int)), (B6 (decide ((↑(List.length x.data) : Int) ≤ 2000))), (B6 (decide ((↑(List.length x.data) : Int) ≤ 2000))), (B6 (decide ((↑(List.length x.data) : Int) ≤ 2000)))] ++ UU 10, [⟨msgc g (MT.toM g x), 56, .fresh⟩]⟩ (by kernel_rfl) ?_
    cases h2 : (decide ((↑(List.length x.data) : Int) ≤ 2000))
    · have h2' := of_decide_eq_false h2
      refine RT 4 ?_
      refine AWP.ret ?_
      refine FI (.sc (.bool false)) ?_
      refine Shrink.all ?_ rfl
      (exact dec_no (fun h => by have h1 := h.1; have h2 := h.2.1; have h3 := h.2.2.1; have h4 := h.2.2.2; omega); done)
    · have h2' := of_decide_eq_true h2
      refine DerQ.pre 2 (True ∧ (55 ≤ List.length (msgc g (MT.toM g x))) ∧ True) ⟨[U6, .ptr 0 0, (B6 false), .ptr 0 3, .agg (Ops.txc g x.t), (B6 true), (B6 true), .ptr 0 50, .sl (u8s x.data) (List.length x.data) .any, (I6 (↑(List.length x.data) : Int)), (B6 true), (B6 true), (B6 true), .ptr 0 51, .agg (List.take 4 (List.drop 51 (msgc g (MT.toM g x))))] ++ UU 8, [⟨msgc g (MT.toM g x), 56, .fresh⟩]⟩ (by kernel_rfl) ⟨trivial, (by simp), trivial⟩ ?_
      rw [Go.Chu.mt_st (g) (g) (x)]
      refine CD (c2) ?_
      refine PT 2 2 ?_
      refine DerQ.to ⟨[U6, .ptr 0 0, (B6 false), .ptr 0 3, .agg (Ops.txc g x.t), (B6 true), (B6 true), .ptr 0 50, .sl (u8s x.data) (List.length x.data) .any, (I6 (↑(List.length x.data) : Int)), (B6 true), (B6 true), (B6 true), .ptr 0 51, .agg [(I6 (Tr.T.n x.i)), .sl (Tr.tcs (Tr.T.ks x.i)) (List.length (Tr.T.ks x.i)) .any, (I6 (Tr.T.n x.e)), .sl (Tr.tcs (Tr.T.ks x.e)) (List.length (Tr.T.ks x.e)) .any], (B6 (decide (Tr.size (Tr.T.mk (Tr.T.n x.i) (Tr.T.ks x.i)) ≤ 120 ∧ Tr.size (Tr.T.mk (Tr.T.n x.e) (Tr.T.ks x.e)) ≤ 120))), (B6 (decide (Tr.size (Tr.T.mk (Tr.T.n x.i) (Tr.T.ks x.i)) ≤ 120 ∧ Tr.size (Tr.T.mk (Tr.T.n x.e) (Tr.T.ks x.e)) ≤ 120))), (B6 (decide (Tr.size (Tr.T.mk (Tr.T.n x.i) (Tr.T.ks x.i)) ≤ 120 ∧ Tr.size (Tr.T.mk (Tr.T.n x.e) (Tr.T.ks x.e)) ≤ 120)))] ++ UU 5, [⟨msgc g (MT.toM g x), 56, .fresh⟩]⟩ (by kernel_rfl) ?_
      cases h3 : (decide (Tr.size (Tr.T.mk (Tr.T.n x.i) (Tr.T.ks x.i)) ≤ 120 ∧ Tr.size (Tr.T.mk (Tr.T.n x.e) (Tr.T.ks x.e)) ≤ 120))
      · have h3' := of_decide_eq_false h3
        refine RT 2 ?_
        refine AWP.ret ?_
        refine FI (.sc (.bool false)) ?_
        refine Shrink.all ?_ rfl
        (exact dec_no (fun h => by have h1 := h.1; have h2 := h.2.1; have h3 := h.2.2.1; have h4 := h.2.2.2; simp_all; done); done)
      · have h3' := of_decide_eq_true h3
        refine DerQ.pre 2 (True ∧ (55 < List.length (msgc g (MT.toM g x))) ∧ True) ⟨[U6, .ptr 0 0, (B6 false), .ptr 0 3, .agg (Ops.txc g x.t), (B6 true), (B6 true), .ptr 0 50, .sl (u8s x.data) (List.length x.data) .any, (I6 (↑(List.length x.data) : Int)), (B6 true), (B6 true), (B6 true), .ptr 0 51, .agg [(I6 (Tr.T.n x.i)), .sl (Tr.tcs (Tr.T.ks x.i)) (List.length (Tr.T.ks x.i)) .any, (I6 (Tr.T.n x.e)), .sl (Tr.tcs (Tr.T.ks x.e)) (List.length (Tr.T.ks x.e)) .any], (B6 true), (B6 true), (B6 true), .ptr 0 55, List.getD (msgc g (MT.toM g x)) 55 U6, U6, U6, .undef], [⟨msgc g (MT.toM g x), 56, .fresh⟩]⟩ (by kernel_rfl) ⟨trivial, (by simp), trivial⟩ ?_
        rw [Go.Chu.mt_55 (g) (g) (x)]
        refine RT 4 ?_
        refine AWP.ret ?_
        refine FI (.sc (.bool (decide ((↑(List.length x.ps) : Int) ≤ 40)))) ?_
        refine Shrink.all ?_ rfl
        (congr 2; exact decide_eq_decide.2 ⟨fun h => ⟨by assumption, by omega, by assumption, by omega⟩, fun h => by have h4 := h.2.2.2; omega⟩; done)
theorem r_txsame0 : EvD Try.prog 41 [.agg (nums 16 ++ [.sl [] 0 .any]), .agg (nums 16 ++ [.sl [] 0 .any])] (.sc (.bool true)) := by
  have c1 : EvD Try.prog 50 [.sl [] 0 .any, .sl [] 0 .any] (.sc (.bool true)) := Go.Ops.r_ops [] [] (by simp)
  refine EvD.body Try.func41 rfl rfl rfl ?_
  refine AWP.seq ?_
  refine TO ⟨[.agg [(I6 0), (I6 0), (I6 0), (I6 0), (I6 0), (I6 0), (I6 0), (I6 0), (I6 0), (I6 0), (I6 0), (I6 0), (I6 0), (I6 0), (I6 0), (I6 0), .sl [] 0 .any], .agg [(I6 0), (I6 0), (I6 0), (I6 0), (I6 0), (I6 0), (I6 0), (I6 0), (I6 0), (I6 0), (I6 0), (I6 0), (I6 0), (I6 0), (I6 0), (I6 0), .sl [] 0 .any]] ++ UU 29, []⟩ ?_
  refine AWP.reg (RT 3 ?_)
  refine AWP.seq (KL [0, 1] ⟨[U6, U6, .ptr 0 0, .ptr 1 0, (B6 false)] ++ UU 26, [⟨[(I6 0), (I6 0), (I6 0), (I6 0), (I6 0), (I6 0), (I6 0), (I6 0), (I6 0), (I6 0), (I6 0), (I6 0), (I6 0), (I6 0), (I6 0), (I6 0), .sl [] 0 .any], 17, .fresh⟩, ⟨[(I6 0), (I6 0), (I6 0), (I6 0), (I6 0), (I6 0), (I6 0), (I6 0), (I6 0), (I6 0), (I6 0), (I6 0), (I6 0), (I6 0), (I6 0), (I6 0), .sl [] 0 .any], 17, .fresh⟩]⟩ ?_)
  refine AWP.reg (PI 24 (True ∧ 2 ≤ 17 ∧ True ∧ 2 ≤ 17 ∧ ((((0 : Nat) < (2 : Nat)) ∧ (((0 : Nat) < (2 : Nat)) ∧ (True))) ∧ (((1 : Nat) < (2 : Nat)) ∧ (((1 : Nat) < (2 : Nat)) ∧ (True)))) ∧ True ∧ True ∧ 15 ≤ 17 ∧ True ∧ 15 ≤ 17 ∧ ((((0 : Nat) < (13 : Nat)) ∧ (((0 : Nat) < (13 : Nat)) ∧ (True))) ∧ ((((1 : Nat) < (13 : Nat)) ∧ (((1 : Nat) < (13 : Nat)) ∧ (True))) ∧ ((((2 : Nat) < (13 : Nat)) ∧ (((2 : Nat) < (13 : Nat)) ∧ (True))) ∧ ((((3 : Nat) < (13 : Nat)) ∧ (((3 : Nat) < (13 : Nat)) ∧ (True))) ∧ ((((4 : Nat) < (13 : Nat)) ∧ (((4 : Nat) < (13 : Nat)) ∧ (True))) ∧ ((((5 : Nat) < (13 : Nat)) ∧ (((5 : Nat) < (13 : Nat)) ∧ (True))) ∧ ((((6 : Nat) < (13 : Nat)) ∧ (((6 : Nat) < (13 : Nat)) ∧ (True))) ∧ ((((7 : Nat) < (13 : Nat)) ∧ (((7 : Nat) < (13 : Nat)) ∧ (True))) ∧ ((((8 : Nat) < (13 : Nat)) ∧ (((8 : Nat) < (13 : Nat)) ∧ (True))) ∧ ((((9 : Nat) < (13 : Nat)) ∧ (((9 : Nat) < (13 : Nat)) ∧ (True))) ∧ ((((10 : Nat) < (13 : Nat)) ∧ (((10 : Nat) < (13 : Nat)) ∧ (True))) ∧ ((((11 : Nat) < (13 : Nat)) ∧ (((11 : Nat) < (13 : Nat)) ∧ (True))) ∧ (((12 : Nat) < (13 : Nat)) ∧ (((12 : Nat) < (13 : Nat)) ∧ (True))))))))))))))) ∧ True ∧ True ∧ True ∧ 15 < 17 ∧ True ∧ 15 < 17 ∧ True ∧ True ∧ True ∧ True ∧ 16 < 17 ∧ True ∧ 16 < 17 ∧ True) ⟨trivial, (by omega), trivial, (by omega), ⟨⟨(by omega), ⟨(by omega), trivial⟩⟩, ⟨(by omega), ⟨(by omega), trivial⟩⟩⟩, trivial, trivial, (by omega), trivial, (by omega), ⟨⟨(by omega), ⟨(by omega), trivial⟩⟩, ⟨⟨(by omega), ⟨(by omega), trivial⟩⟩, ⟨⟨(by omega), ⟨(by omega), trivial⟩⟩, ⟨⟨(by omega), ⟨(by omega), trivial⟩⟩, ⟨⟨(by omega), ⟨(by omega), trivial⟩⟩, ⟨⟨(by omega), ⟨(by omega), trivial⟩⟩, ⟨⟨(by omega), ⟨(by omega), trivial⟩⟩, ⟨⟨(by omega), ⟨(by omega), trivial⟩⟩, ⟨⟨(by omega), ⟨(by omega), trivial⟩⟩, ⟨⟨(by omega), ⟨(by omega), trivial⟩⟩, ⟨⟨(by omega), ⟨(by omega), trivial⟩⟩, ⟨⟨(by omega), ⟨(by omega), trivial⟩⟩, ⟨(by omega), ⟨(by omega), trivial⟩⟩⟩⟩⟩⟩⟩⟩⟩⟩⟩⟩⟩⟩, trivial, trivial, trivial, (by omega), trivial, (by omega), trivial, trivial, trivial, trivial, (by omega), trivial, (by omega), trivial⟩ ?_)
  refine CD (c1) ?_
  refine RT 2 ?_
  refine AWP.ret FA
theorem r_ints0 : EvD Try.prog 43 [.sl [] 0 .any, .sl [] 0 .any] (.sc (.bool true)) := by
  refine EvD.body Try.func43 rfl rfl rfl ?_
  refine AWP.seq ?_
  refine TO ⟨[.sl [] 0 .any, .sl [] 0 .any] ++ UU 24, []⟩ ?_
  refine AWP.reg (RT 1 ?_)
  refine AWP.seq (AWP.seq ?_)
  refine TO ⟨[.sl [] 0 .any, .sl [] 0 .any, U6, U6, (B6 false)] ++ UU 21, []⟩ ?_
  refine AWP.reg (RT 5 ?_)
  refine KL [6, 7, 8, 9] ⟨[.sl [] 0 .any, .sl [] 0 .any, U6, U6, (B6 false)] ++ UU 5 ++ [(B6 false)] ++ UU 15, []⟩ ?_
  refine CN false (fun h => nomatch h) (fun _ => ?_)
  refine AWP.skip (AWP.seq (SQ (RT 1 ?_)))
  refine AWP.block (KL [10] ⟨[.sl [] 0 .any, .sl [] 0 .any, U6, U6, (B6 false), (I6 0)] ++ UU 20, []⟩ ?_)
  refine AWP.loopM [true, true, false, false, true, true, false, false, false, false, false, false, false, false, false, false, false, false, false, false, false, false, false, false, false, false] (fun kk st => ∃ (i : Nat), kk = i ∧ st = ⟨[.sl [] 0 .any, .sl [] 0 .any, U6, U6, (B6 false), (I6 0), U6, U6, U6, U6, U6, U6, U6, U6, U6, U6, U6, U6, U6, U6, U6, U6, U6, U6, U6, .undef], []⟩) _ ⟨0, rfl, by kernel_rfl⟩ ?_
  rintro kk s ⟨i, rfl, rfl⟩
  refine AWP.seq (SQ (RT 4 ?_))
  refine KL [11, 12, 13] ⟨[.sl [] 0 .any, .sl [] 0 .any, U6, U6, (B6 false), (I6 0)] ++ UU 8 ++ [(B6 false)] ++ UU 11, []⟩ ?_
  refine CN false (fun h => nomatch h) (fun _ => ?_)
  refine AWP.exit ?_
  refine AWP.seq (KL [0, 1, 5, 14] ⟨[U6, U6, U6, U6, (B6 false)] ++ UU 21, []⟩ ?_)
  refine AWP.reg (RT 1 ?_)
  refine AWP.ret FA
theorem r_msame (k f t m n o : Int) (x : List Int) : EvD Try.prog 22 [.agg (msgl (pieceM k f t m n o x)), .agg (msgl (pieceM k f t m n o x))] (.sc (.bool true)) := by
  have c1 : EvD Try.prog 38 [.agg [.sc (.int .i64 0), .sl [] 0 .any, .sc (.int .i64 0), .sl [] 0 .any]] (.sc (.bool true)) := Go.Tr.sr_few 0 0 [] []
  have c2 : EvD Try.prog 42 [.agg [.sc (.int .i64 0), .sl [] 0 .any, .sc (.int .i64 0), .sl [] 0 .any], .agg [.sc (.int .i64 0), .sl [] 0 .any, .sc (.int .i64 0), .sl [] 0 .any]] (.sc (.bool true)) := by
    have h := Go.Tr.sr_same 0 0 [] [] 0 0 [] [] (by decide) (by decide)
    exact h
  refine EvD.body Try.func22 rfl rfl rfl ?_
  refine AWP.seq ?_
  refine TO ⟨[.agg [(I6 k), (I6 f), (I6 t), (I6 0), (I6 0), (I6 0), (I6 0), (I6 0), (I6 0), (I6 0), (I6 0), (I6 0), (I6 0), (I6 0), (I6 0), (I6 0), (I6 0), (I6 0), (I6 0), .sl [] 0 .any, (I6 0), (I6 0), (I6 0), (I6 0), (I6 0), (I6 0), (I6 0), (I6 0), (I6 0), (I6 0), (I6 0), (I6 0), (I6 0), (I6 0), (I6 0), (I6 0), (I6 0), (I6 0), (I6 0), (I6 0), (I6 0), (I6 0), (I6 0), (I6 0), (I6 0), (I6 0), (B6 false), (I6 m), (I6 n), (I6 o), .sl (u8s x) (List.length x) .any, (I6 0), .sl [] 0 .any, (I6 0), .sl [] 0 .any, .sl [] 0 .any], .agg [(I6 k), (I6 f), (I6 t), (I6 0), (I6 0), (I6 0), (I6 0), (I6 0), (I6 0), (I6 0), (I6 0), (I6 0), (I6 0), (I6 0), (I6 0), (I6 0), (I6 0), (I6 0), (I6 0), .sl [] 0 .any, (I6 0), (I6 0), (I6 0), (I6 0), (I6 0), (I6 0), (I6 0), (I6 0), (I6 0), (I6 0), (I6 0), (I6 0), (I6 0), (I6 0), (I6 0), (I6 0), (I6 0), (I6 0), (I6 0), (I6 0), (I6 0), (I6 0), (I6 0), (I6 0), (I6 0), (I6 0), (B6 false), (I6 m), (I6 n), (I6 o), .sl (u8s x) (List.length x) .any, (I6 0), .sl [] 0 .any, (I6 0), .sl [] 0 .any, .sl [] 0 .any]] ++ UU 92, []⟩ ?_
  refine AWP.reg (RT 3 ?_)
  refine AWP.seq (AWP.seq (KL [0, 1] ⟨[U6, U6, .ptr 0 0, .ptr 1 0, (B6 false)] ++ UU 89, [⟨[(I6 k), (I6 f), (I6 t), (I6 0), (I6 0), (I6 0), (I6 0), (I6 0), (I6 0), (I6 0), (I6 0), (I6 0), (I6 0), (I6 0), (I6 0), (I6 0), (I6 0), (I6 0), (I6 0), .sl [] 0 .any, (I6 0), (I6 0), (I6 0), (I6 0), (I6 0), (I6 0), (I6 0), (I6 0), (I6 0), (I6 0), (I6 0), (I6 0), (I6 0), (I6 0), (I6 0), (I6 0), (I6 0), (I6 0), (I6 0), (I6 0), (I6 0), (I6 0), (I6 0), (I6 0), (I6 0), (I6 0), (B6 false), (I6 m), (I6 n), (I6 o), .sl (u8s x) (List.length x) .any, (I6 0), .sl [] 0 .any, (I6 0), .sl [] 0 .any, .sl [] 0 .any], 56, .fresh⟩, ⟨[(I6 k), (I6 f), (I6 t), (I6 0), (I6 0), (I6 0), (I6 0), (I6 0), (I6 0), (I6 0), (I6 0), (I6 0), (I6 0), (I6 0), (I6 0), (I6 0), (I6 0), (I6 0), (I6 0), .sl [] 0 .any, (I6 0), (I6 0), (I6 0), (I6 0), (I6 0), (I6 0), (I6 0), (I6 0), (I6 0), (I6 0), (I6 0), (I6 0), (I6 0), (I6 0), (I6 0), (I6 0), (I6 0), (I6 0), (I6 0), (I6 0), (I6 0), (I6 0), (I6 0), (I6 0), (I6 0), (I6 0), (B6 false), (I6 m), (I6 n), (I6 o), .sl (u8s x) (List.length x) .any, (I6 0), .sl [] 0 .any, (I6 0), .sl [] 0 .any, .sl [] 0 .any], 56, .fresh⟩]⟩ ?_))
  refine AWP.reg (PI 6 (True ∧ 0 < 56 ∧ True ∧ 0 < 56 ∧ True ∧ True ∧ True) ⟨trivial, (by omega), trivial, (by omega), trivial, trivial, trivial⟩ ?_)
  refine DerQ.to ⟨[U6, U6, .ptr 0 0, .ptr 1 0, (B6 false), .ptr 0 0, (I6 k), .ptr 1 0, (I6 k), (B6 (k != k)), (B6 (k != k))] ++ UU 83, [⟨[(I6 k), (I6 f), (I6 t), (I6 0), (I6 0), (I6 0), (I6 0), (I6 0), (I6 0), (I6 0), (I6 0), (I6 0), (I6 0), (I6 0), (I6 0), (I6 0), (I6 0), (I6 0), (I6 0), .sl [] 0 .any, (I6 0), (I6 0), (I6 0), (I6 0), (I6 0), (I6 0), (I6 0), (I6 0), (I6 0), (I6 0), (I6 0), (I6 0), (I6 0), (I6 0), (I6 0), (I6 0), (I6 0), (I6 0), (I6 0), (I6 0), (I6 0), (I6 0), (I6 0), (I6 0), (I6 0), (I6 0), (B6 false), (I6 m), (I6 n), (I6 o), .sl (u8s x) (List.length x) .any, (I6 0), .sl [] 0 .any, (I6 0), .sl [] 0 .any, .sl [] 0 .any], 56, .fresh⟩, ⟨[(I6 k), (I6 f), (I6 t), (I6 0), (I6 0), (I6 0), (I6 0), (I6 0), (I6 0), (I6 0), (I6 0), (I6 0), (I6 0), (I6 0), (I6 0), (I6 0), (I6 0), (I6 0), (I6 0), .sl [] 0 .any, (I6 0), (I6 0), (I6 0), (I6 0), (I6 0), (I6 0), (I6 0), (I6 0), (I6 0), (I6 0), (I6 0), (I6 0), (I6 0), (I6 0), (I6 0), (I6 0), (I6 0), (I6 0), (I6 0), (I6 0), (I6 0), (I6 0), (I6 0), (I6 0), (I6 0), (I6 0), (B6 false), (I6 m), (I6 n), (I6 o), .sl (u8s x) (List.length x) .any, (I6 0), .sl [] 0 .any, (I6 0), .sl [] 0 .any, .sl [] 0 .any], 56, .fresh⟩]⟩ (by kernel_rfl) ?_
  cases h1 : (k != k)
  · have h1' := bne_eq_false_iff_eq.1 h1
    refine PI 7 (True ∧ 1 < 56 ∧ True ∧ 1 < 56 ∧ True ∧ True ∧ True ∧ True) ⟨trivial, (by omega), trivial, (by omega), trivial, trivial, trivial, trivial⟩ ?_
    refine DerQ.to ⟨[U6, U6, .ptr 0 0, .ptr 1 0, (B6 false), .ptr 0 0, (I6 k), .ptr 1 0, (I6 k), (B6 false), (B6 false), .ptr 0 1, (I6 f), .ptr 1 1, (I6 f), (B6 (f != f)), (B6 (f != f)), (B6 (f != f))] ++ UU 76, [⟨[(I6 k), (I6 f), (I6 t), (I6 0), (I6 0), (I6 0), (I6 0), (I6 0), (I6 0), (I6 0), (I6 0), (I6 0), (I6 0), (I6 0), (I6 0), (I6 0), (I6 0), (I6 0), (I6 0), .sl [] 0 .any, (I6 0), (I6 0), (I6 0), (I6 0), (I6 0), (I6 0), (I6 0), (I6 0), (I6 0), (I6 0), (I6 0), (I6 0), (I6 0), (I6 0), (I6 0), (I6 0), (I6 0), (I6 0), (I6 0), (I6 0), (I6 0), (I6 0), (I6 0), (I6 0), (I6 0), (I6 0), (B6 false), (I6 m), (I6 n), (I6 o), .sl (u8s x) (List.length x) .any, (I6 0), .sl [] 0 .any, (I6 0), .sl [] 0 .any, .sl [] 0 .any], 56, .fresh⟩, ⟨[(I6 k), (I6 f), (I6 t), (I6 0), (I6 0), (I6 0), (I6 0), (I6 0), (I6 0), (I6 0), (I6 0), (I6 0), (I6 0), (I6 0), (I6 0), (I6 0), (I6 0), (I6 0), (I6 0), .sl [] 0 .any, (I6 0), (I6 0), (I6 0), (I6 0), (I6 0), (I6 0), (I6 0), (I6 0), (I6 0), (I6 0), (I6 0), (I6 0), (I6 0), (I6 0), (I6 0), (I6 0), (I6 0), (I6 0), (I6 0), (I6 0), (I6 0), (I6 0), (I6 0), (I6 0), (I6 0), (I6 0), (B6 false), (I6 m), (I6 n), (I6 o), .sl (u8s x) (List.length x) .any, (I6 0), .sl [] 0 .any, (I6 0), .sl [] 0 .any, .sl [] 0 .any], 56, .fresh⟩]⟩ (by kernel_rfl) ?_
    cases h2 : (f != f)
    · have h2' := bne_eq_false_iff_eq.1 h2
      refine PI 7 (True ∧ 2 < 56 ∧ True ∧ 2 < 56 ∧ True ∧ True ∧ True ∧ True) ⟨trivial, (by omega), trivial, (by omega), trivial, trivial, trivial, trivial⟩ ?_
      refine DerQ.to ⟨[U6, U6, .ptr 0 0, .ptr 1 0, (B6 false), .ptr 0 0, (I6 k), .ptr 1 0, (I6 k), (B6 false), (B6 false), .ptr 0 1, (I6 f), .ptr 1 1, (I6 f), (B6 false), (B6 false), (B6 false), .ptr 0 2, (I6 t), .ptr 1 2, (I6 t), (B6 (t != t)), (B6 (t != t)), (B6 (t != t))] ++ UU 69, [⟨[(I6 k), (I6 f), (I6 t), (I6 0), (I6 0), (I6 0), (I6 0), (I6 0), (I6 0), (I6 0), (I6 0), (I6 0), (I6 0), (I6 0), (I6 0), (I6 0), (I6 0), (I6 0), (I6 0), .sl [] 0 .any, (I6 0), (I6 0), (I6 0), (I6 0), (I6 0), (I6 0), (I6 0), (I6 0), (I6 0), (I6 0), (I6 0), (I6 0), (I6 0), (I6 0), (I6 0), (I6 0), (I6 0), (I6 0), (I6 0), (I6 0), (I6 0), (I6 0), (I6 0), (I6 0), (I6 0), (I6 0), (B6 false), (I6 m), (I6 n), (I6 o), .sl (u8s x) (List.length x) .any, (I6 0), .sl [] 0 .any, (I6 0), .sl [] 0 .any, .sl [] 0 .any], 56, .fresh⟩, ⟨[(I6 k), (I6 f), (I6 t), (I6 0), (I6 0), (I6 0), (I6 0), (I6 0), (I6 0), (I6 0), (I6 0), (I6 0), (I6 0), (I6 0), (I6 0), (I6 0), (I6 0), (I6 0), (I6 0), .sl [] 0 .any, (I6 0), (I6 0), (I6 0), (I6 0), (I6 0), (I6 0), (I6 0), (I6 0), (I6 0), (I6 0), (I6 0), (I6 0), (I6 0), (I6 0), (I6 0), (I6 0), (I6 0), (I6 0), (I6 0), (I6 0), (I6 0), (I6 0), (I6 0), (I6 0), (I6 0), (I6 0), (B6 false), (I6 m), (I6 n), (I6 o), .sl (u8s x) (List.length x) .any, (I6 0), .sl [] 0 .any, (I6 0), .sl [] 0 .any, .sl [] 0 .any], 56, .fresh⟩]⟩ (by kernel_rfl) ?_
      cases h3 : (t != t)
      · have h3' := bne_eq_false_iff_eq.1 h3
        refine PI 28 (True ∧ 33 ≤ 56 ∧ True ∧ 33 ≤ 56 ∧ ((((0 : Nat) < (13 : Nat)) ∧ (((0 : Nat) < (13 : Nat)) ∧ (True))) ∧ ((((1 : Nat) < (13 : Nat)) ∧ (((1 : Nat) < (13 : Nat)) ∧ (True))) ∧ ((((2 : Nat) < (13 : Nat)) ∧ (((2 : Nat) < (13 : Nat)) ∧ (True))) ∧ ((((3 : Nat) < (13 : Nat)) ∧ (((3 : Nat) < (13 : Nat)) ∧ (True))) ∧ ((((4 : Nat) < (13 : Nat)) ∧ (((4 : Nat) < (13 : Nat)) ∧ (True))) ∧ ((((5 : Nat) < (13 : Nat)) ∧ (((5 : Nat) < (13 : Nat)) ∧ (True))) ∧ ((((6 : Nat) < (13 : Nat)) ∧ (((6 : Nat) < (13 : Nat)) ∧ (True))) ∧ ((((7 : Nat) < (13 : Nat)) ∧ (((7 : Nat) < (13 : Nat)) ∧ (True))) ∧ ((((8 : Nat) < (13 : Nat)) ∧ (((8 : Nat) < (13 : Nat)) ∧ (True))) ∧ ((((9 : Nat) < (13 : Nat)) ∧ (((9 : Nat) < (13 : Nat)) ∧ (True))) ∧ ((((10 : Nat) < (13 : Nat)) ∧ (((10 : Nat) < (13 : Nat)) ∧ (True))) ∧ ((((11 : Nat) < (13 : Nat)) ∧ (((11 : Nat) < (13 : Nat)) ∧ (True))) ∧ (((12 : Nat) < (13 : Nat)) ∧ (((12 : Nat) < (13 : Nat)) ∧ (True))))))))))))))) ∧ True ∧ True ∧ True ∧ 46 ≤ 56 ∧ True ∧ 46 ≤ 56 ∧ ((((0 : Nat) < (13 : Nat)) ∧ (((0 : Nat) < (13 : Nat)) ∧ (True))) ∧ ((((1 : Nat) < (13 : Nat)) ∧ (((1 : Nat) < (13 : Nat)) ∧ (True))) ∧ ((((2 : Nat) < (13 : Nat)) ∧ (((2 : Nat) < (13 : Nat)) ∧ (True))) ∧ ((((3 : Nat) < (13 : Nat)) ∧ (((3 : Nat) < (13 : Nat)) ∧ (True))) ∧ ((((4 : Nat) < (13 : Nat)) ∧ (((4 : Nat) < (13 : Nat)) ∧ (True))) ∧ ((((5 : Nat) < (13 : Nat)) ∧ (((5 : Nat) < (13 : Nat)) ∧ (True))) ∧ ((((6 : Nat) < (13 : Nat)) ∧ (((6 : Nat) < (13 : Nat)) ∧ (True))) ∧ ((((7 : Nat) < (13 : Nat)) ∧ (((7 : Nat) < (13 : Nat)) ∧ (True))) ∧ ((((8 : Nat) < (13 : Nat)) ∧ (((8 : Nat) < (13 : Nat)) ∧ (True))) ∧ ((((9 : Nat) < (13 : Nat)) ∧ (((9 : Nat) < (13 : Nat)) ∧ (True))) ∧ ((((10 : Nat) < (13 : Nat)) ∧ (((10 : Nat) < (13 : Nat)) ∧ (True))) ∧ ((((11 : Nat) < (13 : Nat)) ∧ (((11 : Nat) < (13 : Nat)) ∧ (True))) ∧ (((12 : Nat) < (13 : Nat)) ∧ (((12 : Nat) < (13 : Nat)) ∧ (True))))))))))))))) ∧ True ∧ True ∧ True ∧ 46 < 56 ∧ True ∧ 46 < 56 ∧ True ∧ True ∧ True ∧ True ∧ 47 < 56 ∧ True ∧ 47 < 56 ∧ True ∧ True ∧ True ∧ True) ⟨trivial, (by omega), trivial, (by omega), ⟨⟨(by omega), ⟨(by omega), trivial⟩⟩, ⟨⟨(by omega), ⟨(by omega), trivial⟩⟩, ⟨⟨(by omega), ⟨(by omega), trivial⟩⟩, ⟨⟨(by omega), ⟨(by omega), trivial⟩⟩, ⟨⟨(by omega), ⟨(by omega), trivial⟩⟩, ⟨⟨(by omega), ⟨(by omega), trivial⟩⟩, ⟨⟨(by omega), ⟨(by omega), trivial⟩⟩, ⟨⟨(by omega), ⟨(by omega), trivial⟩⟩, ⟨⟨(by omega), ⟨(by omega), trivial⟩⟩, ⟨⟨(by omega), ⟨(by omega), trivial⟩⟩, ⟨⟨(by omega), ⟨(by omega), trivial⟩⟩, ⟨⟨(by omega), ⟨(by omega), trivial⟩⟩, ⟨(by omega), ⟨(by omega), trivial⟩⟩⟩⟩⟩⟩⟩⟩⟩⟩⟩⟩⟩⟩, trivial, trivial, trivial, (by omega), trivial, (by omega), ⟨⟨(by omega), ⟨(by omega), trivial⟩⟩, ⟨⟨(by omega), ⟨(by omega), trivial⟩⟩, ⟨⟨(by omega), ⟨(by omega), trivial⟩⟩, ⟨⟨(by omega), ⟨(by omega), trivial⟩⟩, ⟨⟨(by omega), ⟨(by omega), trivial⟩⟩, ⟨⟨(by omega), ⟨(by omega), trivial⟩⟩, ⟨⟨(by omega), ⟨(by omega), trivial⟩⟩, ⟨⟨(by omega), ⟨(by omega), trivial⟩⟩, ⟨⟨(by omega), ⟨(by omega), trivial⟩⟩, ⟨⟨(by omega), ⟨(by omega), trivial⟩⟩, ⟨⟨(by omega), ⟨(by omega), trivial⟩⟩, ⟨⟨(by omega), ⟨(by omega), trivial⟩⟩, ⟨(by omega), ⟨(by omega), trivial⟩⟩⟩⟩⟩⟩⟩⟩⟩⟩⟩⟩⟩⟩, trivial, trivial, trivial, (by omega), trivial, (by omega), trivial, trivial, trivial, trivial, (by omega), trivial, (by omega), trivial, trivial, trivial, trivial⟩ ?_
        refine DerQ.to ⟨[U6, U6, .ptr 0 0, .ptr 1 0, (B6 false), .ptr 0 0, (I6 k), .ptr 1 0, (I6 k), (B6 false), (B6 false), .ptr 0 1, (I6 f), .ptr 1 1, (I6 f), (B6 false), (B6 false), (B6 false), .ptr 0 2, (I6 t), .ptr 1 2, (I6 t), (B6 false), (B6 false), (B6 false), .ptr 0 20, .agg [(I6 0), (I6 0), (I6 0), (I6 0), (I6 0), (I6 0), (I6 0), (I6 0), (I6 0), (I6 0), (I6 0), (I6 0), (I6 0)], .ptr 1 20, .agg [(I6 0), (I6 0), (I6 0), (I6 0), (I6 0), (I6 0), (I6 0), (I6 0), (I6 0), (I6 0), (I6 0), (I6 0), (I6 0)], (B6 false), (B6 false), (B6 false), .ptr 0 33, .agg [(I6 0), (I6 0), (I6 0), (I6 0), (I6 0), (I6 0), (I6 0), (I6 0), (I6 0), (I6 0), (I6 0), (I6 0), (I6 0)], .ptr 1 33, .agg [(I6 0), (I6 0), (I6 0), (I6 0), (I6 0), (I6 0), (I6 0), (I6 0), (I6 0), (I6 0), (I6 0), (I6 0), (I6 0)], (B6 false), (B6 false), (B6 false), .ptr 0 46, (B6 false), .ptr 1 46, (B6 false), (B6 false), (B6 false), (B6 false), .ptr 0 47, (I6 m), .ptr 1 47, (I6 m), (B6 (m != m)), (B6 (m != m)), (B6 (m != m))] ++ UU 41, [⟨[(I6 k), (I6 f), (I6 t), (I6 0), (I6 0), (I6 0), (I6 0), (I6 0), (I6 0), (I6 0), (I6 0), (I6 0), (I6 0), (I6 0), (I6 0), (I6 0), (I6 0), (I6 0), (I6 0), .sl [] 0 .any, (I6 0), (I6 0), (I6 0), (I6 0), (I6 0), (I6 0), (I6 0), (I6 0), (I6 0), (I6 0), (I6 0), (I6 0), (I6 0), (I6 0), (I6 0), (I6 0), (I6 0), (I6 0), (I6 0), (I6 0), (I6 0), (I6 0), (I6 0), (I6 0), (I6 0), (I6 0), (B6 false), (I6 m), (I6 n), (I6 o), .sl (u8s x) (List.length x) .any, (I6 0), .sl [] 0 .any, (I6 0), .sl [] 0 .any, .sl [] 0 .any], 56, .fresh⟩, ⟨[(I6 k), (I6 f), (I6 t), (I6 0), (I6 0), (I6 0), (I6 0), (I6 0), (I6 0), (I6 0), (I6 0), (I6 0), (I6 0), (I6 0), (I6 0), (I6 0), (I6 0), (I6 0), (I6 0), .sl [] 0 .any, (I6 0), (I6 0), (I6 0), (I6 0), (I6 0), (I6 0), (I6 0), (I6 0), (I6 0), (I6 0), (I6 0), (I6 0), (I6 0), (I6 0), (I6 0), (I6 0), (I6 0), (I6 0), (I6 0), (I6 0), (I6 0), (I6 0), (I6 0), (I6 0), (I6 0), (I6 0), (B6 false), (I6 m), (I6 n), (I6 o), .sl (u8s x) (List.length x) .any, (I6 0), .sl [] 0 .any, (I6 0), .sl [] 0 .any, .sl [] 0 .any], 56, .fresh⟩]⟩ (by kernel_rfl) ?_
        cases h4 : (m != m)
        · have h4' := bne_eq_false_iff_eq.1 h4
          refine PI 7 (True ∧ 48 < 56 ∧ True ∧ 48 < 56 ∧ True ∧ True ∧ True ∧ True) ⟨trivial, (by omega), trivial, (by omega), trivial, trivial, trivial, trivial⟩ ?_
          refine DerQ.to ⟨[U6, U6, .ptr 0 0, .ptr 1 0, (B6 false), .ptr 0 0, (I6 k), .ptr 1 0, (I6 k), (B6 false), (B6 false), .ptr 0 1, (I6 f), .ptr 1 1, (I6 f), (B6 false), (B6 false), (B6 false), .ptr 0 2, (I6 t), .ptr 1 2, (I6 t), (B6 false), (B6 false), (B6 false), .ptr 0 20, .agg [(I6 0), (I6 0), (I6 0), (I6 0), (I6 0), (I6 0), (I6 0), (I6 0), (I6 0), (I6 0), (I6 0), (I6 0), (I6 0)], .ptr 1 20, .agg [(I6 0), (I6 0), (I6 0), (I6 0), (I6 0), (I6 0), (I6 0), (I6 0), (I6 0), (I6 0), (I6 0), (I6 0), (I6 0)], (B6 false), (B6 false), (B6 false), .ptr 0 33, .agg [(I6 0), (I6 0), (I6 0), (I6 0), (I6 0), (I6 0), (I6 0), (I6 0), (I6 0), (I6 0), (I6 0), (I6 0), (I6 0)], .ptr 1 33, .agg [(I6 0), (I6 0), (I6 0), (I6 0), (I6 0), (I6 0), (I6 0), (I6 0), (I6 0), (I6 0), (I6 0), (I6 0), (I6 0)], (B6 false), (B6 false), (B6 false), .ptr 0 46, (B6 false), .ptr 1 46, (B6 false), (B6 false), (B6 false), (B6 false), .ptr 0 47, (I6 m), .ptr 1 47, (I6 m), (B6 false), (B6 false), (B6 false), .ptr 0 48, (I6 n), .ptr 1 48, (I6 n), (B6 (n != n)), (B6 (n != n)), (B6 (n != n))] ++ UU 34, [⟨[(I6 k), (I6 f), (I6 t), (I6 0), (I6 0), (I6 0), (I6 0), (I6 0), (I6 0), (I6 0), (I6 0), (I6 0), (I6 0), (I6 0), (I6 0), (I6 0), (I6 0), (I6 0), (I6 0), .sl [] 0 .any, (I6 0), (I6 0), (I6 0), (I6 0), (I6 0), (I6 0), (I6 0), (I6 0), (I6 0), (I6 0), (I6 0), (I6 0), (I6 0), (I6 0), (I6 0), (I6 0), (I6 0), (I6 0), (I6 0), (I6 0), (I6 0), (I6 0), (I6 0), (I6 0), (I6 0), (I6 0), (B6 false), (I6 m), (I6 n), (I6 o), .sl (u8s x) (List.length x) .any, (I6 0), .sl [] 0 .any, (I6 0), .sl [] 0 .any, .sl [] 0 .any], 56, .fresh⟩, ⟨[(I6 k), (I6 f), (I6 t), (I6 0), (I6 0), (I6 0), (I6 0), (I6 0), (I6 0), (I6 0), (I6 0), (I6 0), (I6 0), (I6 0), (I6 0), (I6 0), (I6 0), (I6 0), (I6 0), .sl [] 0 .any, (I6 0), (I6 0), (I6 0), (I6 0), (I6 0), (I6 0), (I6 0), (I6 0), (I6 0), (I6 0), (I6 0), (I6 0), (I6 0), (I6 0), (I6 0), (I6 0), (I6 0), (I6 0), (I6 0), (I6 0), (I6 0), (I6 0), (I6 0), (I6 0), (I6 0), (I6 0), (B6 false), (I6 m), (I6 n), (I6 o), .sl (u8s x) (List.length x) .any, (I6 0), .sl [] 0 .any, (I6 0), .sl [] 0 .any, .sl [] 0 .any], 56, .fresh⟩]⟩ (by kernel_rfl) ?_
          cases h5 : (n != n)
          · have h5' := bne_eq_false_iff_eq.1 h5
            refine RI (True ∧ 49 < 56 ∧ True ∧ 49 < 56 ∧ True ∧ True ∧ True) ⟨trivial, (by omega), trivial, (by omega), trivial, trivial, trivial⟩ ?_
            refine KL (NN 5 60) ⟨[U6, U6, .ptr 0 0, .ptr 1 0, (B6 false)] ++ UU 60 ++ [(B6 (o != o))] ++ UU 28, [⟨[(I6 k), (I6 f), (I6 t), (I6 0), (I6 0), (I6 0), (I6 0), (I6 0), (I6 0), (I6 0), (I6 0), (I6 0), (I6 0), (I6 0), (I6 0), (I6 0), (I6 0), (I6 0), (I6 0), .sl [] 0 .any, (I6 0), (I6 0), (I6 0), (I6 0), (I6 0), (I6 0), (I6 0), (I6 0), (I6 0), (I6 0), (I6 0), (I6 0), (I6 0), (I6 0), (I6 0), (I6 0), (I6 0), (I6 0), (I6 0), (I6 0), (I6 0), (I6 0), (I6 0), (I6 0), (I6 0), (I6 0), (B6 false), (I6 m), (I6 n), (I6 o), .sl (u8s x) (List.length x) .any, (I6 0), .sl [] 0 .any, (I6 0), .sl [] 0 .any, .sl [] 0 .any], 56, .fresh⟩, ⟨[(I6 k), (I6 f), (I6 t), (I6 0), (I6 0), (I6 0), (I6 0), (I6 0), (I6 0), (I6 0), (I6 0), (I6 0), (I6 0), (I6 0), (I6 0), (I6 0), (I6 0), (I6 0), (I6 0), .sl [] 0 .any, (I6 0), (I6 0), (I6 0), (I6 0), (I6 0), (I6 0), (I6 0), (I6 0), (I6 0), (I6 0), (I6 0), (I6 0), (I6 0), (I6 0), (I6 0), (I6 0), (I6 0), (I6 0), (I6 0), (I6 0), (I6 0), (I6 0), (I6 0), (I6 0), (I6 0), (I6 0), (B6 false), (I6 m), (I6 n), (I6 o), .sl (u8s x) (List.length x) .any, (I6 0), .sl [] 0 .any, (I6 0), .sl [] 0 .any, .sl [] 0 .any], 56, .fresh⟩]⟩ ?_
            refine CN (o != o) (fun h6 => ?_) (fun h6 => ?_)
            · have h6' := bne_iff_ne.1 h6
              exfalso; omega
            · have h6' := bne_eq_false_iff_eq.1 h6
              refine AWP.skip (SQ (PI 4 (True ∧ 20 ≤ 56 ∧ True ∧ 20 ≤ 56 ∧ True) ⟨trivial, (by omega), trivial, (by omega), trivial⟩ ?_))
              refine CD (r_txsame0) ?_
              refine PI 10 (True ∧ True ∧ 50 < 56 ∧ ((List.length x = List.length (u8s x)) ∧ (∀ (i : Nat), i < List.length (u8s x) → isByteA (List.getD (u8s x) i AVal.undef) = true)) ∧ True ∧ 50 < 56 ∧ ((List.length x = List.length (u8s x)) ∧ (∀ (i : Nat), i < List.length (u8s x) → isByteA (List.getD (u8s x) i AVal.undef) = true)) ∧ True ∧ True ∧ True ∧ True) ⟨trivial, trivial, (by omega), ⟨(by simp), (by exact u8s_isByte _)⟩, trivial, (by omega), ⟨(by simp), (by exact u8s_isByte _)⟩, trivial, trivial, trivial, trivial⟩ ?_
              refine DerQ.to ⟨[U6, U6, .ptr 0 0, .ptr 1 0, (B6 false)] ++ UU 60 ++ [(B6 (o != o)), .ptr 0 3, .agg [(I6 0), (I6 0), (I6 0), (I6 0), (I6 0), (I6 0), (I6 0), (I6 0), (I6 0), (I6 0), (I6 0), (I6 0), (I6 0), (I6 0), (I6 0), (I6 0), .sl [] 0 .any], .ptr 1 3, .agg [(I6 0), (I6 0), (I6 0), (I6 0), (I6 0), (I6 0), (I6 0), (I6 0), (I6 0), (I6 0), (I6 0), (I6 0), (I6 0), (I6 0), (I6 0), (I6 0), .sl [] 0 .any], (B6 true), (B6 true), .ptr 0 50, .sl (u8s x) (List.length x) .any, (S6 (strOf (u8s x))), .ptr 1 50, .sl (u8s x) (List.length x) .any, (S6 (strOf (u8s x))), (B6 (ByteArray.toList (strOf (u8s x)) == ByteArray.toList (strOf (u8s x)))), (B6 (ByteArray.toList (strOf (u8s x)) == ByteArray.toList (strOf (u8s x)))), (B6 (ByteArray.toList (strOf (u8s x)) == ByteArray.toList (strOf (u8s x))))] ++ UU 13, [⟨[(I6 k), (I6 f), (I6 t), (I6 0), (I6 0), (I6 0), (I6 0), (I6 0), (I6 0), (I6 0), (I6 0), (I6 0), (I6 0), (I6 0), (I6 0), (I6 0), (I6 0), (I6 0), (I6 0), .sl [] 0 .any, (I6 0), (I6 0), (I6 0), (I6 0), (I6 0), (I6 0), (I6 0), (I6 0), (I6 0), (I6 0), (I6 0), (I6 0), (I6 0), (I6 0), (I6 0), (I6 0), (I6 0), (I6 0), (I6 0), (I6 0), (I6 0), (I6 0), (I6 0), (I6 0), (I6 0), (I6 0), (B6 false), (I6 m), (I6 n), (I6 o), .sl (u8s x) (List.length x) .any, (I6 0), .sl [] 0 .any, (I6 0), .sl [] 0 .any, .sl [] 0 .any], 56, .fresh⟩, ⟨[(I6 k), (I6 f), (I6 t), (I6 0), (I6 0), (I6 0), (I6 0), (I6 0), (I6 0), (I6 0), (I6 0), (I6 0), (I6 0), (I6 0), (I6 0), (I6 0), (I6 0), (I6 0), (I6 0), .sl [] 0 .any, (I6 0), (I6 0), (I6 0), (I6 0), (I6 0), (I6 0), (I6 0), (I6 0), (I6 0), (I6 0), (I6 0), (I6 0), (I6 0), (I6 0), (I6 0), (I6 0), (I6 0), (I6 0), (I6 0), (I6 0), (I6 0), (I6 0), (I6 0), (I6 0), (I6 0), (I6 0), (B6 false), (I6 m), (I6 n), (I6 o), .sl (u8s x) (List.length x) .any, (I6 0), .sl [] 0 .any, (I6 0), .sl [] 0 .any, .sl [] 0 .any], 56, .fresh⟩]⟩ (by kernel_rfl) ?_
              cases h7 : (ByteArray.toList (strOf (u8s x)) == ByteArray.toList (strOf (u8s x)))
              · have h7' := ne_of_beq_false h7
                (exfalso; simp_all; done)
              · have h7' := eq_of_beq h7
                refine PI 4 (True ∧ 55 ≤ 56 ∧ True ∧ 55 ≤ 56 ∧ True) ⟨trivial, (by omega), trivial, (by omega), trivial⟩ ?_
                refine CD (c2) ?_
                refine PI 6 (True ∧ True ∧ True ∧ 55 < 56 ∧ True ∧ 55 < 56 ∧ True) ⟨trivial, trivial, trivial, (by omega), trivial, (by omega), trivial⟩ ?_
                refine CD (r_ints0) ?_
                refine RT 2 ?_
                refine AWP.ret FA
          · have h5' := bne_iff_ne.1 h5
            exfalso; omega
        · have h4' := bne_iff_ne.1 h4
          exfalso; omega
      · have h3' := bne_iff_ne.1 h3
        exfalso; omega
    · have h2' := bne_iff_ne.1 h2
      exfalso; omega
  · have h1' := bne_iff_ne.1 h1
    exfalso; omega
end Go.Chu
