/- Walks and laws. -/
import Derived.Test.YtmcjdeiicbgmhabChB5
import Derived.Test.YtmcjdeiicbgmhabLibB
set_option maxRecDepth 100000
set_option maxHeartbeats 0
set_option linter.unusedSimpArgs false
set_option linter.unusedVariables false
namespace Go.Chu
open Go Go.Abs Go.Proofs
structure MT where
  k : Int
  f : Int
  d : Int
  t : Go.Ops.TxD
  v : Nat → Int
  r : Nat → Int
  fl : Bool
  nu : Int
  n : Int
  c : Int
  data : List Int
  i : Go.Tr.T
  e : Go.Tr.T
  ps : List Int
def ints (l : List Int) : List AVal := l.map fun p => .sc (.int .i64 p)
def MT.toM (g : Gate) (x : MT) : MsgD where
  kind := x.k
  src := x.f
  dst := x.d
  tx := Go.Ops.txc g x.t
  vec := vecc g x.v
  row := vecc g x.r
  flag := x.fl
  num := x.nu
  n := x.n
  cnt := x.c
  data := x.data
  st := [.sc (.int .i64 x.i.n), .sl (Go.Tr.tcs x.i.ks) x.i.ks.length .any, .sc (.int .i64 x.e.n), .sl (Go.Tr.tcs x.e.ks) x.e.ks.length .any]
  peers := .sl (ints x.ps) x.ps.length .any
  htx := by simp
  hvec := by simp
  hrow := by simp
  hst := rfl
  htxd := by simp
  hvecd := by simp
  hrowd := by simp
  hstd := rfl
  hpd := rfl
theorem mt_tx (g g' : Gate) (x : MT) : List.take 17 (List.drop 3 (msgc g (x.toM g'))) = Go.Ops.txc g' x.t := msg_tx g _
theorem mt_st (g g' : Gate) (x : MT) : List.take 4 (List.drop 51 (msgc g (x.toM g'))) = [.sc (.int .i64 x.i.n), .sl (Go.Tr.tcs x.i.ks) x.i.ks.length .any, .sc (.int .i64 x.e.n), .sl (Go.Tr.tcs x.e.ks) x.e.ks.length .any] := msg_st g _
theorem mt_50 (g g' : Gate) (x : MT) : List.getD (msgc g (x.toM g')) 50 .undef = .sl (u8s x.data) x.data.length .any := msg_50 g _
theorem mt_55 (g g' : Gate) (x : MT) : List.getD (msgc g (x.toM g')) 55 .undef = .sl (ints x.ps) x.ps.length .any := msg_55 g _
def fewM (x : MT) : Prop := Go.Ops.smallP x.t ∧ x.data.length ≤ 2000 ∧ (Go.Tr.size (.mk x.i.n x.i.ks) ≤ 120 ∧ Go.Tr.size (.mk x.e.n x.e.ks) ≤ 120) ∧ x.ps.length ≤ 40
instance (x : MT) : Decidable (fewM x) := by unfold fewM; infer_instance
theorem r_mfew (g : Gate) (x : MT) : EvD Try.prog 10 [.agg (msgc g (x.toM g))] (.sc (.bool (decide (fewM x)))) := by
  have c1 := Go.Ops.r_small g x.t
  have c2 := Go.Tr.sr_few x.i.n x.e.n x.i.ks x.e.ks
  refine EvD.body Try.func10 rfl (by simp [dataAll, AVal.data]) rfl ?_
  refine AWP.seq ?_
  refine TO ⟨[.agg (msgc g (MT.toM g x))] ++ UU 22, []⟩ ?_
  refine AWP.reg (RT 2 ?_)
  refine AWP.seq (KL [0] ⟨[U6, .ptr 0 0, (B6 false)] ++ UU 20, [⟨msgc g (MT.toM g x), 56, .fresh⟩]⟩ ?_)
  refine AWP.reg ?_
  refine DerQ.pre 2 (True ∧ (20 ≤ List.length (msgc g (MT.toM g x))) ∧ True) ⟨[U6, .ptr 0 0, (B6 false), .ptr 0 3, .agg (List.take 17 (List.drop 3 (msgc g (MT.toM g x))))] ++ UU 18, [⟨msgc g (MT.toM g x), 56, .fresh⟩]⟩ (by kernel_rfl) ⟨trivial, (by simp), trivial⟩ ?_
  rw [Go.Chu.mt_tx (g) (g) (x)]
  refine CD (c1) ?_
  refine PT 1 1 ?_
  refine DerQ.to ⟨[U6, .ptr 0 0, (B6 false), .ptr 0 3, .agg (Ops.txc g x.t), (B6 (decide (Ops.smallP x.t))), (B6 (decide (Ops.smallP x.t)))] ++ UU 16, [⟨msgc g (MT.toM g x), 56, .fresh⟩]⟩ (by kernel_rfl) ?_
  cases h1 : (decide (Ops.smallP x.t))
  · have h1' := of_decide_eq_false h1
    refine RT 6 ?_
    refine AWP.ret ?_
    refine FI (.sc (.bool false)) ?_
    refine Shrink.all ?_ rfl
    (exact dec_no (fun h => by have h1 := h.1; have h2 := h.2.1; have h3 := h.2.2.1; have h4 := h.2.2.2; simp_all; done); done)
  · have h1' := of_decide_eq_true h1
    refine DerQ.pre 2 (True ∧ (50 < List.length (msgc g (MT.toM g x))) ∧ True) ⟨[U6, .ptr 0 0, (B6 false), .ptr 0 3, .agg (Ops.txc g x.t), (B6 true), (B6 true), .ptr 0 50, List.getD (msgc g (MT.toM g x)) 50 AVal.undef] ++ UU 14, [⟨msgc g (MT.toM g x), 56, .fresh⟩]⟩ (by kernel_rfl) ⟨trivial, (by simp), trivial⟩ ?_
    rw [Go.Chu.mt_50 (g) (g) (x)]
    refine PT 4 4 ?_
    refine DerQ.to ⟨[U6, .ptr 0 0, (B6 false), .ptr 0 3, .agg (Ops.txc g x.t), (B6 true), (B6 true), .ptr 0 50, .sl (u8s x.data) (List.length x.data) .any, (I6 (↑(List.length x.data) : Int)), (B6 (decide ((↑(List.length x.data) : Int) ≤ 2000))), (B6 (decide ((↑(List.length x.data) : Int) ≤ 2000))), (B6 (decide ((↑(List.length x.data) : Int) ≤ 2000)))] ++ UU 10, [⟨msgc g (MT.toM g x), 56, .fresh⟩]⟩ (by kernel_rfl) ?_
    cases h2 : (decide ((↑(List.length x.data) : Int) ≤ 2000))
    · have h2' := of_decide_eq_false h2
      refine RT 4 ?_
      refine AWP.ret ?_
      refine FI (.sc (.bool false)) ?_
      refine Shrink.all ?_ rfl
      (exact dec_no (fun h => by have h1 := h.1; have h2 := h.2.1; have h3 := h.2.2.1; have h4 := h.2.2.2; omega); done)
    · have h2' := of_decide_eq_true h2
      refine DerQ.pre 2 (True ∧ (55 ≤ List.length (msgc g (MT.toM g x))) ∧ True) ⟨[U6, .ptr 0 0, (B6 false), .ptr 0 3, .agg (Ops.txc g x.t), (B6 true), (B6 true), .ptr 0 50, .sl (u8s x.data) (List.length x.data) .any, (I6 (↑(List.length x.data) : Int)), (B6 true), (B6 true), (B6 true), .ptr 0 51, .agg (List.take 4 (List.drop 51 (msgc g (MT.toM g x))))] ++ UU 8, [⟨msgc g (MT.toM g x), 56, .fresh⟩]⟩ (by kernel_rfl) ⟨trivial, (by simp), trivial⟩ ?_
      rw [Go.Chu.mt_st (g) (g) (x)]
      refine CD (c2) ?_
      refine PT 2 2 ?_
      refine DerQ.to ⟨[U6, .ptr 0 0, (B6 false), .ptr 0 3, .agg (Ops.txc g x.t), (B6 true), (B6 true), .ptr 0 50, .sl (u8s x.data) (List.length x.data) .any, (I6 (↑(List.length x.data) : Int)), (B6 true), (B6 true), (B6 true), .ptr 0 51, .agg [(I6 (Tr.T.n x.i)), .sl (Tr.tcs (Tr.T.ks x.i)) (List.length (Tr.T.ks x.i)) .any, (I6 (Tr.T.n x.e)), .sl (Tr.tcs (Tr.T.ks x.e)) (List.length (Tr.T.ks x.e)) .any], (B6 (decide (Tr.size (Tr.T.mk (Tr.T.n x.i) (Tr.T.ks x.i)) ≤ 120 ∧ Tr.size (Tr.T.mk (Tr.T.n x.e) (Tr.T.ks x.e)) ≤ 120))), (B6 (decide (Tr.size (Tr.T.mk (Tr.T.n x.i) (Tr.T.ks x.i)) ≤ 120 ∧ Tr.size (Tr.T.mk (Tr.T.n x.e) (Tr.T.ks x.e)) ≤ 120))), (B6 (decide (Tr.size (Tr.T.mk (Tr.T.n x.i) (Tr.T.ks x.i)) ≤ 120 ∧ Tr.size (Tr.T.mk (Tr.T.n x.e) (Tr.T.ks x.e)) ≤ 120)))] ++ UU 5, [⟨msgc g (MT.toM g x), 56, .fresh⟩]⟩ (by kernel_rfl) ?_
      cases h3 : (decide (Tr.size (Tr.T.mk (Tr.T.n x.i) (Tr.T.ks x.i)) ≤ 120 ∧ Tr.size (Tr.T.mk (Tr.T.n x.e) (Tr.T.ks x.e)) ≤ 120))
      · have h3' := of_decide_eq_false h3
        refine RT 2 ?_
        refine AWP.ret ?_
        refine FI (.sc (.bool false)) ?_
        refine Shrink.all ?_ rfl
        (exact dec_no (fun h => by have h1 := h.1; have h2 := h.2.1; have h3 := h.2.2.1; have h4 := h.2.2.2; simp_all; done); done)
      · have h3' := of_decide_eq_true h3
        refine DerQ.pre 2 (True ∧ (55 < List.length (msgc g (MT.toM g x))) ∧ True) ⟨[U6, .ptr 0 0, (B6 false), .ptr 0 3, .agg (Ops.txc g x.t), (B6 true), (B6 true), .ptr 0 50, .sl (u8s x.data) (List.length x.data) .any, (I6 (↑(List.length x.data) : Int)), (B6 true), (B6 true), (B6 true), .ptr 0 51, .agg [(I6 (Tr.T.n x.i)), .sl (Tr.tcs (Tr.T.ks x.i)) (List.length (Tr.T.ks x.i)) .any, (I6 (Tr.T.n x.e)), .sl (Tr.tcs (Tr.T.ks x.e)) (List.length (Tr.T.ks x.e)) .any], (B6 true), (B6 true), (B6 true), .ptr 0 55, List.getD (msgc g (MT.toM g x)) 55 U6, U6, U6, .undef], [⟨msgc g (MT.toM g x), 56, .fresh⟩]⟩ (by kernel_rfl) ⟨trivial, (by simp), trivial⟩ ?_
        rw [Go.Chu.mt_55 (g) (g) (x)]
        refine RT 4 ?_
        refine AWP.ret ?_
        refine FI (.sc (.bool (decide ((↑(List.length x.ps) : Int) ≤ 40)))) ?_
        refine Shrink.all ?_ rfl
        (congr 2; exact decide_eq_decide.2 ⟨fun h => ⟨by assumption, by omega, by assumption, by omega⟩, fun h => by have h4 := h.2.2.2; omega⟩; done)
end Go.Chu
