/- Walks and laws. -/
import Derived.Test.YtfkilkfaiiijbaaCnt0
set_option linter.unusedSimpArgs false
set_option linter.unusedVariables false
namespace Go.Cnt
open Go Go.Abs Go.Ops
/-! ### rows of structs, whichever -/
theorem recs_length {α : Type} (f : α → List AVal) (k : Nat) (hf : ∀ a, (f a).length = k) (l : List α) : (l.flatMap f).length = l.length * k := by
  induction l with
  | nil => simp
  | cons o l ih => rw [List.flatMap_cons, List.length_append, ih, hf, List.length_cons, Nat.add_mul]; omega
theorem recs_data {α : Type} (f : α → List AVal) (hf : ∀ a, dataAll (f a) = true) (l : List α) : dataAll (l.flatMap f) = true := by
  induction l with
  | nil => rfl
  | cons o l ih => rw [List.flatMap_cons, dataAll_append, hf, ih]; rfl
theorem recs_at {α : Type} (f : α → List AVal) (k : Nat) (hf : ∀ a, (f a).length = k) (d : α) (l : List α) (i : Nat) (h : i < l.length) : List.take k (List.drop (i * k) (l.flatMap f)) = f (l.getD i d) := by
  induction l generalizing i with
  | nil => simp at h
  | cons o l ih =>
    cases i with
    | zero => rw [Nat.zero_mul, List.drop_zero, List.flatMap_cons, List.take_left' (hf o)]; rfl
    | succ i =>
      have e : (i + 1) * k = k + i * k := by rw [Nat.add_mul]; omega
      rw [List.flatMap_cons, e, ← List.drop_drop, List.drop_left' (hf o), List.getD_cons_succ]
      exact ih i (by simpa using h)
theorem recs_get {α : Type} (f : α → List AVal) (k : Nat) (hf : ∀ a, (f a).length = k) (d : α) (l : List α) (i j : Nat) (h : i < l.length) (hj : j < k) : List.getD (l.flatMap f) (i * k + j) .undef = (f (l.getD i d)).getD j .undef := by
  rw [getD_seg _ _ k j hj, recs_at f k hf d l i h]
structure MarkD where
  p : Int
  s : Int
  i : Int
  deriving DecidableEq
def mkc (m : MarkD) : List AVal := [.sc (.int .i64 m.p), .sc (.int .i64 m.s), .sc (.int .i64 m.i)]
def mksc (l : List MarkD) : List AVal := l.flatMap mkc
@[simp] theorem mksc_length (l : List MarkD) : (mksc l).length = l.length * 3 := recs_length mkc 3 (fun _ => rfl) l
@[simp] theorem mksc_data (l : List MarkD) : dataAll (mksc l) = true := recs_data mkc (fun _ => rfl) l
structure WrD where
  m : MarkD
  time : Int
  t : ByteArray
def wrc (w : WrD) : List AVal := [.sc (.int .i64 w.m.p), .sc (.int .i64 w.m.s), .sc (.int .i64 w.m.i), .sc (.int .i64 w.time), .sc (.string w.t)]
def wrsc (l : List WrD) : List AVal := l.flatMap wrc
@[simp] theorem wrsc_length (l : List WrD) : (wrsc l).length = l.length * 5 := recs_length wrc 5 (fun _ => rfl) l
@[simp] theorem wrsc_data (l : List WrD) : dataAll (wrsc l) = true := recs_data wrc (fun _ => rfl) l
def wr0 : WrD := ⟨⟨0, 0, 0⟩, 0, .empty⟩
structure MeD where
  t : ByteArray
  b : Bool
  ms : List MarkD
def mec (x : MeD) : List AVal := [.sc (.string x.t), .sc (.bool x.b), .sl (mksc x.ms) x.ms.length .any]
def mesc (l : List MeD) : List AVal := l.flatMap mec
theorem mec_data (x : MeD) : dataAll (mec x) = true := by simp [mec, dataAll, AVal.data]
@[simp] theorem mesc_length (l : List MeD) : (mesc l).length = l.length * 3 := recs_length mec 3 (fun _ => rfl) l
@[simp] theorem mesc_data (l : List MeD) : dataAll (mesc l) = true := recs_data mec mec_data l
def me0 : MeD := ⟨.empty, false, []⟩
structure ElD where
  m : MarkD
  time : Int
  r : MarkD
  t : ByteArray
  ms : List MarkD
def elc (x : ElD) : List AVal := [.sc (.int .i64 x.m.p), .sc (.int .i64 x.m.s), .sc (.int .i64 x.m.i), .sc (.int .i64 x.time), .sc (.int .i64 x.r.p), .sc (.int .i64 x.r.s), .sc (.int .i64 x.r.i), .sc (.string x.t), .sl (mksc x.ms) x.ms.length .any]
def elsc (l : List ElD) : List AVal := l.flatMap elc
theorem elc_data (x : ElD) : dataAll (elc x) = true := by simp [elc, dataAll, AVal.data]
@[simp] theorem elsc_length (l : List ElD) : (elsc l).length = l.length * 9 := recs_length elc 9 (fun _ => rfl) l
@[simp] theorem elsc_data (l : List ElD) : dataAll (elsc l) = true := recs_data elc elc_data l
def el0 : ElD := ⟨⟨0, 0, 0⟩, 0, ⟨0, 0, 0⟩, .empty, []⟩
abbrev CB (k b : Int) (a : List AmtD) (x : List WrD) (y : List MeD) (z : List ElD) : List AVal := [.sc (.int .i64 k), .sc (.int .i64 b), .sl (amsc a) a.length .any, .sl (wrsc x) x.length .any, .sl (mesc y) y.length .any, .sl (elsc z) z.length .any]
end Go.Cnt
