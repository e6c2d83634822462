/- Walks and laws. -/
import Derived.Test.YtikllaiggklljaaCh0
set_option linter.unusedSimpArgs false
set_option linter.unusedVariables false
namespace Go.Chu
open Go Go.Abs
/-- a message: what chunk looks at, and the rest cell by cell -/
structure MsgD where
  kind : Int
  src : Int
  dst : Int
  tx : List AVal
  vec : List AVal
  row : List AVal
  flag : Bool
  num : Int
  n : Int
  cnt : Int
  data : List Int
  st : List AVal
  peers : AVal
  htx : tx.length = 17
  hvec : vec.length = 13
  hrow : row.length = 13
  hst : st.length = 4
  htxd : dataAll tx = true
  hvecd : dataAll vec = true
  hrowd : dataAll row = true
  hstd : dataAll st = true
  hpd : peers.data = true
def msgl (m : MsgD) : List AVal := [.sc (.int .i64 m.kind), .sc (.int .i64 m.src), .sc (.int .i64 m.dst)] ++ m.tx ++ m.vec ++ m.row ++ [.sc (.bool m.flag), .sc (.int .i64 m.num), .sc (.int .i64 m.n), .sc (.int .i64 m.cnt), .sl (u8s m.data) m.data.length .any] ++ m.st ++ [m.peers]
def msgc (g : Gate) (m : MsgD) : List AVal := hide g (msgl m)
theorem msgc_eq (g : Gate) (m : MsgD) : msgc g m = msgl m := by rw [msgc, hide_eq]
@[simp] theorem msgc_length (g : Gate) (m : MsgD) : (msgc g m).length = 56 := by
  rw [msgc_eq, msgl]; simp [m.htx, m.hvec, m.hrow, m.hst]
@[simp] theorem msgc_data (g : Gate) (m : MsgD) : dataAll (msgc g m) = true := by
  rw [msgc_eq, msgl]; simp [dataAll_append, dataAll, AVal.data, m.htxd, m.hvecd, m.hrowd, m.hstd, m.hpd]
@[simp] theorem msgc_lt (k : Nat) (g : Gate) (m : MsgD) : ltAll k (msgc g m) = true := ltAll_of_data _ _ (msgc_data g m)
/-- the message of a piece -/
def nums (k : Nat) : List AVal := List.replicate k (.sc (.int .i64 0))
def pieceM (k f t m n o : Int) (x : List Int) : MsgD where
  kind := k
  src := f
  dst := t
  tx := nums 16 ++ [.sl [] 0 .any]
  vec := nums 13
  row := nums 13
  flag := false
  num := m
  n := n
  cnt := o
  data := x
  st := [.sc (.int .i64 0), .sl [] 0 .any, .sc (.int .i64 0), .sl [] 0 .any]
  peers := .sl [] 0 .any
  htx := rfl
  hvec := rfl
  hrow := rfl
  hst := rfl
  htxd := rfl
  hvecd := rfl
  hrowd := rfl
  hstd := rfl
  hpd := rfl
end Go.Chu
