/- Walks and laws. -/
import Derived.Test.YtfkilkfaiiijbaaLibC
set_option linter.unusedSimpArgs false
set_option linter.unusedVariables false
namespace Go.Ops
open Go Go.Abs
structure OpD where
  k : Int
  key : ByteArray
  f : ByteArray
  inner : Int
  a : Int
  n : Int
  t : ByteArray
  p : Int
  s : Int
  i : Int
  deriving DecidableEq
theorem opd_eq (x y : OpD) : x = y ↔ x.k = y.k ∧ x.key = y.key ∧ x.f = y.f ∧ x.inner = y.inner ∧ x.a = y.a ∧ x.n = y.n ∧ x.t = y.t ∧ x.p = y.p ∧ x.s = y.s ∧ x.i = y.i := by
  cases x; cases y; simp
def opc (o : OpD) : List AVal := [.sc (.int .i64 o.k), .sc (.string o.key), .sc (.string o.f), .sc (.int .i64 o.inner), .sc (.int .i64 o.a), .sc (.int .i64 o.n), .sc (.string o.t), .sc (.int .i64 o.p), .sc (.int .i64 o.s), .sc (.int .i64 o.i)]
def opsc (l : List OpD) : List AVal := l.flatMap opc
@[simp] theorem opc_length (o : OpD) : (opc o).length = 10 := rfl
@[simp] theorem opsc_length (l : List OpD) : (opsc l).length = l.length * 10 := by
  induction l with
  | nil => rfl
  | cons o l ih => simp [opsc] at ih ⊢; omega
theorem opc_data (o : OpD) : dataAll (opc o) = true := rfl
@[simp] theorem opsc_data (l : List OpD) : dataAll (opsc l) = true := by
  induction l with
  | nil => rfl
  | cons o l ih => rw [opsc, List.flatMap_cons, dataAll_append, opc_data]; exact ih
def op0 : OpD := ⟨0, .empty, .empty, 0, 0, 0, .empty, 0, 0, 0⟩
theorem opsc_at (l : List OpD) (i : Nat) (h : i < l.length) : List.take 10 (List.drop (i * 10) (opsc l)) = opc (l.getD i op0) := by
  induction l generalizing i with
  | nil => simp at h
  | cons o l ih =>
    cases i with
    | zero => rfl
    | succ i =>
      have e : (i + 1) * 10 = 10 + i * 10 := by omega
      rw [opsc, List.flatMap_cons, e, ← List.drop_drop]
      have : List.drop 10 (opc o ++ l.flatMap opc) = l.flatMap opc := List.drop_left' rfl
      rw [this, List.getD_cons_succ]
      exact ih i (by simpa using h)
theorem getD_seg (cs : List AVal) (k n j : Nat) (h : j < n) : List.getD cs (k + j) .undef = List.getD (List.take n (List.drop k cs)) j .undef := by
  rw [List.getD_eq_getElem?_getD, List.getD_eq_getElem?_getD, List.getElem?_take, if_pos h, List.getElem?_drop]
theorem opsc_cells (l : List OpD) (i : Nat) (h : i < l.length) : [List.getD (opsc l) (i * 10) .undef, List.getD (opsc l) (i * 10 + 1) .undef, List.getD (opsc l) (i * 10 + 2) .undef, List.getD (opsc l) (i * 10 + 3) .undef, List.getD (opsc l) (i * 10 + 4) .undef, List.getD (opsc l) (i * 10 + 5) .undef, List.getD (opsc l) (i * 10 + 6) .undef, List.getD (opsc l) (i * 10 + 7) .undef, List.getD (opsc l) (i * 10 + 8) .undef, List.getD (opsc l) (i * 10 + 9) .undef] = opc (l.getD i op0) := by
  have e0 : List.getD (opsc l) (i * 10) .undef = List.getD (opsc l) (i * 10 + 0) .undef := rfl
  rw [e0]
  rw [getD_seg _ _ 10 0 (by omega), getD_seg _ _ 10 1 (by omega), getD_seg _ _ 10 2 (by omega), getD_seg _ _ 10 3 (by omega), getD_seg _ _ 10 4 (by omega), getD_seg _ _ 10 5 (by omega), getD_seg _ _ 10 6 (by omega), getD_seg _ _ 10 7 (by omega), getD_seg _ _ 10 8 (by omega), getD_seg _ _ 10 9 (by omega), opsc_at l i h]
  rfl
structure TxD where
  p : Int
  s : Int
  v : Nat → Int
  time : Int
  ops : List OpD
def txc (g : Gate) (t : TxD) : List AVal := hide g ([.sc (.int .i64 t.p), .sc (.int .i64 t.s)] ++ vecc .on t.v ++ [.sc (.int .i64 t.time), .sl (opsc t.ops) t.ops.length .any])
@[simp] theorem txc_length (g : Gate) (t : TxD) : (txc g t).length = 17 := by simp [txc, hide_eq]
@[simp] theorem txc_data (g : Gate) (t : TxD) : dataAll (txc g t) = true := by
  rw [txc, hide_eq, dataAll_append, dataAll_append]; simp [dataAll, AVal.data]
@[simp] theorem txc_lt (k : Nat) (g : Gate) (t : TxD) : ltAll k (txc g t) = true := ltAll_of_data _ _ (txc_data g t)
theorem tx_take (g : Gate) (t : TxD) : List.take 17 (txc g t) = txc g t := List.take_of_length_le (by simp)
theorem tx_0 (g : Gate) (t : TxD) : List.getD (txc g t) 0 .undef = .sc (.int .i64 t.p) := by cases g <;> rfl
theorem tx_1 (g : Gate) (t : TxD) : List.getD (txc g t) 1 .undef = .sc (.int .i64 t.s) := by cases g <;> rfl
theorem tx_15 (g : Gate) (t : TxD) : List.getD (txc g t) 15 .undef = .sc (.int .i64 t.time) := by cases g <;> rfl
theorem tx_16 (g : Gate) (t : TxD) : List.getD (txc g t) 16 .undef = .sl (opsc t.ops) t.ops.length .any := by cases g <;> rfl
theorem tx_dot (g : Gate) (t : TxD) : List.take 2 (txc g t) = [.sc (.int .i64 t.p), .sc (.int .i64 t.s)] := by cases g <;> rfl
theorem tx_v (g : Gate) (t : TxD) (i : Nat) (h : i < 13) : List.getD (txc g t) (2 + i) .undef = .sc (.int .i64 (t.v i)) := by
  rw [getD_seg _ 2 13 i h]
  have e : List.take 13 (List.drop 2 (txc g t)) = vecc g t.v := by cases g <;> rfl
  rw [e, vecc_get g t.v i h]
theorem tx_deps (g : Gate) (t : TxD) : List.take 13 (List.drop 2 (txc g t)) = vecc g t.v := by cases g <;> rfl
end Go.Ops
