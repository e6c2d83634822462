/- Library: an abstract machine over the model, part 34. -/
import Derived.Test.YtmcjdeiicbgmhabAbs33
set_option linter.unusedVariables false
namespace Go.Abs
open Go
/-- A function of data may be given rows; they become data. -/
theorem EvF.fro {P : Program} {f : FuncId} {args args' a2 : List AVal} {r : AVal} {rows rows1 : List Row} {c1 : Prop} (l : List Nat) (he : EvD P f args r)
    (hf : frzQ l rows (.tup args') = some (c1, rows1, .tup a2)) (hc1 : c1) (ha : anyAll a2 = args) : EvF P f args' rows r rows1 := by
  intro X m w vs hrel hvl
  have hv : V ⟨rows, m, w, X⟩ (.tup args') (.tuple vs.toArray) := V.tup _ _ hvl.1 hvl.2
  obtain ⟨m2, k1, k2, k3, k4⟩ := frzQ_spec (N := rows.length) hf hc1 X m w _ hrel hv (Nat.le_refl _)
  have hvl2 : VL ⟨rows1, m2, w, X⟩ a2 vs := by
    generalize ht : Value.tuple vs.toArray = t at k2
    cases k2 with
    | tup _ vs' hl hv' =>
      have : vs = vs' := by simpa using ht
      subst this
      exact ⟨hl, hv'⟩
  refine (he.any ha rows1 X m2 w vs k1 hvl2).mono ?_
  rintro e w' ⟨v, m', rfl, h1, h2, h3, h4⟩
  exact ⟨v, m', rfl, h1, h2, k3, k4.trans (h4.mono k3)⟩
theorem DerQ.callF {P : Program} {ops : Array Oper} {o : Oper} {l : List Oper} {st : St} {K : St → Prop} {f : FuncId} {args : List AVal} {r : AVal} (he : EvD P f args r) (ids : List Nat) (args' a2 : List AVal) (c c1 : Prop) (rows1 : List Row) (st1 : St)
    (h : wantA ops o st.regs = some true ∧ Abs.callA P o (ev st.regs) = some (f, args') ∧ frzQ ids st.rows (.tup args') = some (c1, rows1, .tup a2) ∧ anyAll a2 = (snapL st.rows args').2 ∧ snapC st.rows args' args = c ∧ st.put o.dst r rows1 = st1)
    (hc : c) (hc1 : c1) (hk : DerQ P ops l st1 K) : DerQ P ops (o :: l) st K := by
  obtain ⟨h1, h2, h3, h4, h5, h6⟩ := h
  rw [← h5] at hc
  exact DerQ.call (EvF.fro ids he h3 hc1 (h4.trans (snapC_spec hc).2)) st1 ⟨h1, h2, h6⟩ hk
theorem DerX.callF {F : Oper → Bool} {P : Program} {ops : Array Oper} {R : List Row} {o : Oper} {l : List Oper} {st : St} {K : St → Prop} {f : FuncId} {args : List AVal} {r : AVal} (he : EvD P f args r) (ids : List Nat) (args' a2 : List AVal) (c c1 : Prop) (rows1 ext' : List Row) (st1 : St)
    (h : F o = true ∧ wantA ops o st.regs = some true ∧ Abs.callA P o (ev st.regs) = some (f, args') ∧ frzQ ids st.rows (.tup args') = some (c1, rows1, .tup a2) ∧ anyAll a2 = (snapL st.rows args').2 ∧ snapC st.rows args' args = c ∧ rows1 = R ++ ext' ∧ st.put o.dst r rows1 = st1)
    (hc : c) (hc1 : c1) (hk : DerX P F ops R l st1 K) : DerX P F ops R (o :: l) st K := by
  obtain ⟨h0, h1, h2, h3, h4, h5, h6, rfl⟩ := h
  rw [← h5] at hc
  obtain ⟨st', k1, k2⟩ := hk
  exact ⟨st', .eff o l _ _ r rows1 h0 h1 (callA_spec h2 (EvF.fro ids he h3 hc1 (h4.trans (snapC_spec hc).2))) ⟨ext', h6⟩ k1, k2⟩
end Go.Abs
namespace Go.Abs
open Go
theorem strOf_size (xs : List Int) : (strOf (u8s xs)).size = xs.length := by
  unfold strOf
  simp [ByteArray.size, u8s]
theorem spliceA_one (xs : List Int) (k : Nat) (x : Int) : spliceA (u8s xs) k (u8s [x]) = u8s (xs.set k x) := by
  simp [spliceA, u8s]
end Go.Abs
namespace Go.Abs
open Go
theorem strOf_len (cells : List AVal) : (strOf cells).size = cells.length := by
  unfold strOf
  simp [ByteArray.size]
end Go.Abs
namespace Go.Abs
open Go
theorem strOf_append (a b : List Int) : strOf (u8s a) ++ strOf (u8s b) = strOf (u8s (a ++ b)) := by
  apply ByteArray.ext
  apply Array.ext'
  rw [ByteArray.data_append]
  simp [strOf, u8s]
theorem strOf_app1 (x : Int) (b : List Int) : strOf [AVal.sc (Value.int IntKind.u8 x)] ++ strOf (u8s b) = strOf (u8s (x :: b)) := strOf_append [x] b
end Go.Abs
