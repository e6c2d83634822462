/-
  No cell of these rows narrows 'for every input' (looked for: loops, veiled, ifaces, maps, wideKeys, modest, calm, conditions, laid).
  DERIVED. THE GIVEN ROWS OF THIS SEAT. 10 by the template 'for every input the law returns true; each argument reads behind the call as it read before'; 0 by the template 'total and deterministic' (their statements: YtfkilkfaiiijbaaTotals.lean).
  GIVEN WITH THE SEED: the statements are not yours to turn. If you find one false, say at which input.
  Laid BY PROGRAM, IN A SANDBOX (cutbox-rows.mjs): the forced cells as the released guide's own fill.sh prints them over the translation 7ec88a4b5b8e4fd4… (all of the seat's roots in one cut). By AI agents, Wed Nov 11 2026. No macro, syntax, notation, axiom, sorry.
-/
import Derived.Test.YtfkilkfaiiijbaaChecked
import GoSem.Claim
import GoSem.ClaimJoined
import GoSem.ClaimMapViews
import Derived.JoinedTies
import Derived.KernelRfl
namespace Go.Proofs.Ytfkilkfaiiijbaa
/- THE CELL 'sum', in the pinned program and in every row, IS THE sha256 OF THE DUMP (.gsa) THAT YtfkilkfaiiijbaaProg.lean LOADS. Nothing in Lean hashes anything: it is a label: what it is worth is what the hold of that sum in a sandbox is worth. -/
noncomputable def Try.pinned : Pinned := { name := "ytfkilkfaiiijbaa", sum := "7ec88a4b5b8e4fd4ac6ec970bcc5f05cca45cbb0fc046409a57feca2594e6a42", checked := Try.checked }
namespace Rows
def none {H : Type} : Left H := { results := [], args := [] }

/-- 'plexuslaw07.OpsResolves': WHATEVER THE INPUT: true; the input reads as it did. -/
def opsResolvesSpec : ChangeSpec := { name := "opsResolves", fn := fun _ => fun
  | [d1, d2] => { results := [.lit (.bool true)], args := [d1, d2] }
  | _ => none }
def opsResolvesRow : OpenClaim := { program := "ytfkilkfaiiijbaa", sum := "7ec88a4b5b8e4fd4ac6ec970bcc5f05cca45cbb0fc046409a57feca2594e6a42", func := "plexus/plexuslaw07.OpsResolves", spec := "opsResolves", apart := false }
def OpsResolvesSaid : Prop := opsResolvesRow.holds Try.pinned (OpenSpec.ofChange opsResolvesSpec)

/-- ITS FALSE NEIGHBOUR: 'it returns false'. Refute it at one input. -/
def opsResolvesWrong : ChangeSpec := { name := "opsResolves", fn := fun _ => fun
  | [d1, d2] => { results := [.lit (.bool false)], args := [d1, d2] }
  | _ => none }
def OpsResolvesWrongFalsely : Prop := opsResolvesRow.holds Try.pinned (OpenSpec.ofChange opsResolvesWrong)

/-- 'plexuslaw07.OpsOne': WHATEVER THE INPUT: true; the input reads as it did. -/
def opsOneSpec : ChangeSpec := { name := "opsOne", fn := fun _ => fun
  | [d1, d2, d3, d4] => { results := [.lit (.bool true)], args := [d1, d2, d3, d4] }
  | _ => none }
def opsOneRow : OpenClaim := { program := "ytfkilkfaiiijbaa", sum := "7ec88a4b5b8e4fd4ac6ec970bcc5f05cca45cbb0fc046409a57feca2594e6a42", func := "plexus/plexuslaw07.OpsOne", spec := "opsOne", apart := false }
def OpsOneSaid : Prop := opsOneRow.holds Try.pinned (OpenSpec.ofChange opsOneSpec)

/-- ITS FALSE NEIGHBOUR: 'it returns false'. Refute it at one input. -/
def opsOneWrong : ChangeSpec := { name := "opsOne", fn := fun _ => fun
  | [d1, d2, d3, d4] => { results := [.lit (.bool false)], args := [d1, d2, d3, d4] }
  | _ => none }
def OpsOneWrongFalsely : Prop := opsOneRow.holds Try.pinned (OpenSpec.ofChange opsOneWrong)

/-- 'plexuslaw07.OpsOrder': WHATEVER THE INPUT: true; the input reads as it did. -/
def opsOrderSpec : ChangeSpec := { name := "opsOrder", fn := fun _ => fun
  | [d1, d2, d3] => { results := [.lit (.bool true)], args := [d1, d2, d3] }
  | _ => none }
def opsOrderRow : OpenClaim := { program := "ytfkilkfaiiijbaa", sum := "7ec88a4b5b8e4fd4ac6ec970bcc5f05cca45cbb0fc046409a57feca2594e6a42", func := "plexus/plexuslaw07.OpsOrder", spec := "opsOrder", apart := false }
def OpsOrderSaid : Prop := opsOrderRow.holds Try.pinned (OpenSpec.ofChange opsOrderSpec)

/-- ITS FALSE NEIGHBOUR: 'it returns false'. Refute it at one input. -/
def opsOrderWrong : ChangeSpec := { name := "opsOrder", fn := fun _ => fun
  | [d1, d2, d3] => { results := [.lit (.bool false)], args := [d1, d2, d3] }
  | _ => none }
def OpsOrderWrongFalsely : Prop := opsOrderRow.holds Try.pinned (OpenSpec.ofChange opsOrderWrong)

/-- 'plexuslaw07.OpsTell': WHATEVER THE INPUT: true; the input reads as it did. -/
def opsTellSpec : ChangeSpec := { name := "opsTell", fn := fun _ => fun
  | [d1, d2, d3, d4, d5, d6, d7] => { results := [.lit (.bool true)], args := [d1, d2, d3, d4, d5, d6, d7] }
  | _ => none }
def opsTellRow : OpenClaim := { program := "ytfkilkfaiiijbaa", sum := "7ec88a4b5b8e4fd4ac6ec970bcc5f05cca45cbb0fc046409a57feca2594e6a42", func := "plexus/plexuslaw07.OpsTell", spec := "opsTell", apart := false }
def OpsTellSaid : Prop := opsTellRow.holds Try.pinned (OpenSpec.ofChange opsTellSpec)

/-- ITS FALSE NEIGHBOUR: 'it returns false'. Refute it at one input. -/
def opsTellWrong : ChangeSpec := { name := "opsTell", fn := fun _ => fun
  | [d1, d2, d3, d4, d5, d6, d7] => { results := [.lit (.bool false)], args := [d1, d2, d3, d4, d5, d6, d7] }
  | _ => none }
def OpsTellWrongFalsely : Prop := opsTellRow.holds Try.pinned (OpenSpec.ofChange opsTellWrong)

/-- 'plexuslaw08.CounterClears': WHATEVER THE INPUT: true; the input reads as it did. -/
def counterClearsSpec : ChangeSpec := { name := "counterClears", fn := fun _ => fun
  | [d1, d2, d3] => { results := [.lit (.bool true)], args := [d1, d2, d3] }
  | _ => none }
def counterClearsRow : OpenClaim := { program := "ytfkilkfaiiijbaa", sum := "7ec88a4b5b8e4fd4ac6ec970bcc5f05cca45cbb0fc046409a57feca2594e6a42", func := "plexus/plexuslaw08.CounterClears", spec := "counterClears", inPlace := ["slices.overlaps[plexus/api.Amount]"], unfollowed := true, recurses := true, apart := false }
def CounterClearsSaid : Prop := counterClearsRow.holds Try.pinned (OpenSpec.ofChange counterClearsSpec)

/-- ITS FALSE NEIGHBOUR: 'it returns false'. Refute it at one input. -/
def counterClearsWrong : ChangeSpec := { name := "counterClears", fn := fun _ => fun
  | [d1, d2, d3] => { results := [.lit (.bool false)], args := [d1, d2, d3] }
  | _ => none }
def CounterClearsWrongFalsely : Prop := counterClearsRow.holds Try.pinned (OpenSpec.ofChange counterClearsWrong)

/-- 'plexuslaw08.CounterTells': WHATEVER THE INPUT: true; the input reads as it did. -/
def counterTellsSpec : ChangeSpec := { name := "counterTells", fn := fun _ => fun
  | [d1, d2, d3, d4, d5] => { results := [.lit (.bool true)], args := [d1, d2, d3, d4, d5] }
  | _ => none }
def counterTellsRow : OpenClaim := { program := "ytfkilkfaiiijbaa", sum := "7ec88a4b5b8e4fd4ac6ec970bcc5f05cca45cbb0fc046409a57feca2594e6a42", func := "plexus/plexuslaw08.CounterTells", spec := "counterTells", inPlace := ["slices.overlaps[plexus/api.Amount]"], unfollowed := true, recurses := true, apart := false }
def CounterTellsSaid : Prop := counterTellsRow.holds Try.pinned (OpenSpec.ofChange counterTellsSpec)

/-- ITS FALSE NEIGHBOUR: 'it returns false'. Refute it at one input. -/
def counterTellsWrong : ChangeSpec := { name := "counterTells", fn := fun _ => fun
  | [d1, d2, d3, d4, d5] => { results := [.lit (.bool false)], args := [d1, d2, d3, d4, d5] }
  | _ => none }
def CounterTellsWrongFalsely : Prop := counterTellsRow.holds Try.pinned (OpenSpec.ofChange counterTellsWrong)

/-- 'plexuslaw08.CounterFolds': WHATEVER THE INPUT: true; the input reads as it did. -/
def counterFoldsSpec : ChangeSpec := { name := "counterFolds", fn := fun _ => fun
  | [d1, d2] => { results := [.lit (.bool true)], args := [d1, d2] }
  | _ => none }
def counterFoldsRow : OpenClaim := { program := "ytfkilkfaiiijbaa", sum := "7ec88a4b5b8e4fd4ac6ec970bcc5f05cca45cbb0fc046409a57feca2594e6a42", func := "plexus/plexuslaw08.CounterFolds", spec := "counterFolds", inPlace := ["slices.overlaps[plexus/api.Amount]"], unfollowed := true, recurses := true, apart := false }
def CounterFoldsSaid : Prop := counterFoldsRow.holds Try.pinned (OpenSpec.ofChange counterFoldsSpec)

/-- ITS FALSE NEIGHBOUR: 'it returns false'. Refute it at one input. -/
def counterFoldsWrong : ChangeSpec := { name := "counterFolds", fn := fun _ => fun
  | [d1, d2] => { results := [.lit (.bool false)], args := [d1, d2] }
  | _ => none }
def CounterFoldsWrongFalsely : Prop := counterFoldsRow.holds Try.pinned (OpenSpec.ofChange counterFoldsWrong)

/-- 'plexuslaw08.CounterOrder': WHATEVER THE INPUT: true; the input reads as it did. -/
def counterOrderSpec : ChangeSpec := { name := "counterOrder", fn := fun _ => fun
  | [d1, d2, d3, d4, d5] => { results := [.lit (.bool true)], args := [d1, d2, d3, d4, d5] }
  | _ => none }
def counterOrderRow : OpenClaim := { program := "ytfkilkfaiiijbaa", sum := "7ec88a4b5b8e4fd4ac6ec970bcc5f05cca45cbb0fc046409a57feca2594e6a42", func := "plexus/plexuslaw08.CounterOrder", spec := "counterOrder", inPlace := ["slices.overlaps[plexus/api.Amount]"], unfollowed := true, recurses := true, apart := false }
def CounterOrderSaid : Prop := counterOrderRow.holds Try.pinned (OpenSpec.ofChange counterOrderSpec)

/-- ITS FALSE NEIGHBOUR: 'it returns false'. Refute it at one input. -/
def counterOrderWrong : ChangeSpec := { name := "counterOrder", fn := fun _ => fun
  | [d1, d2, d3, d4, d5] => { results := [.lit (.bool false)], args := [d1, d2, d3, d4, d5] }
  | _ => none }
def CounterOrderWrongFalsely : Prop := counterOrderRow.holds Try.pinned (OpenSpec.ofChange counterOrderWrong)

/-- 'plexuslaw19.OrderClosed': WHATEVER THE INPUT: true; the input reads as it did. -/
def orderClosedSpec : ChangeSpec := { name := "orderClosed", fn := fun _ => fun
  | [d] => { results := [.lit (.bool true)], args := [d] }
  | _ => none }
def orderClosedRow : OpenClaim := { program := "ytfkilkfaiiijbaa", sum := "7ec88a4b5b8e4fd4ac6ec970bcc5f05cca45cbb0fc046409a57feca2594e6a42", func := "plexus/plexuslaw19.OrderClosed", spec := "orderClosed", inPlace := ["slices.overlaps[plexus/api.Tx]"], unfollowed := true, recurses := true, apart := false }
def OrderClosedSaid : Prop := orderClosedRow.holds Try.pinned (OpenSpec.ofChange orderClosedSpec)

/-- ITS FALSE NEIGHBOUR: 'it returns false'. Refute it at one input. -/
def orderClosedWrong : ChangeSpec := { name := "orderClosed", fn := fun _ => fun
  | [d] => { results := [.lit (.bool false)], args := [d] }
  | _ => none }
def OrderClosedWrongFalsely : Prop := orderClosedRow.holds Try.pinned (OpenSpec.ofChange orderClosedWrong)

/-- 'plexuslaw19.OrderAll': WHATEVER THE INPUT: true; the input reads as it did. -/
def orderAllSpec : ChangeSpec := { name := "orderAll", fn := fun _ => fun
  | [d1, d2] => { results := [.lit (.bool true)], args := [d1, d2] }
  | _ => none }
def orderAllRow : OpenClaim := { program := "ytfkilkfaiiijbaa", sum := "7ec88a4b5b8e4fd4ac6ec970bcc5f05cca45cbb0fc046409a57feca2594e6a42", func := "plexus/plexuslaw19.OrderAll", spec := "orderAll", inPlace := ["slices.overlaps[plexus/api.Tx]"], unfollowed := true, recurses := true, apart := false }
def OrderAllSaid : Prop := orderAllRow.holds Try.pinned (OpenSpec.ofChange orderAllSpec)

/-- ITS FALSE NEIGHBOUR: 'it returns false'. Refute it at one input. -/
def orderAllWrong : ChangeSpec := { name := "orderAll", fn := fun _ => fun
  | [d1, d2] => { results := [.lit (.bool false)], args := [d1, d2] }
  | _ => none }
def OrderAllWrongFalsely : Prop := orderAllRow.holds Try.pinned (OpenSpec.ofChange orderAllWrong)

/- THE SECOND FORM. 'bulk': how many values and letters a reading holds, each counted each time it is reached (what is shared counts as often as it is met; a slice's spare places count too). A statement '..UptoSaid' is the law's where the arguments, and the package variables that the reading takes, are together of bulk at most 1048576: NARROWER than '..Said'. Prove '..Said' where nothing that the law and all that it calls make is longer than what came in: it says more and counts as full. Else prove '..UptoSaid'. A law counts once. -/
mutual
def uptoBulk {H : Type} : DataW H → Nat
  | .lit (.string bytes) => bytes.length + 1
  | .lit _ => 1
  | .nil => 1
  | .ptr d => uptoBulk d + 1
  | .slice elems spare => uptoBulkAll elems + uptoBulkAll spare + 1
  | .agg parts => uptoBulkAll parts + 1
  | .iface _ d => uptoBulk d + 1
  | .map entries => uptoBulkEntries entries + 1
  | .held _ => 1
def uptoBulkAll {H : Type} : List (DataW H) → Nat
  | [] => 0
  | d :: r => uptoBulk d + uptoBulkAll r
def uptoBulkEntries {H : Type} : List (Lit × DataW H) → Nat
  | [] => 0
  | x :: r => uptoBulkEntry x + uptoBulkEntries r
def uptoBulkEntry {H : Type} : Lit × DataW H → Nat
  | (.string bytes, d) => bytes.length + uptoBulk d + 1
  | (_, d) => uptoBulk d + 1
 end
def uptoSmall : (H : Type) → List (DataW H) → Bool := fun _ ds => decide (uptoBulkAll ds ≤ 1048576)
def OpenSpec.upto (s : _root_.Go.ChangeSpec) : _root_.Go.OpenSpec := { _root_.Go.OpenSpec.ofChange s with cond := some uptoSmall }

/-- 'plexuslaw07.OpsResolves', WHERE WHAT IT READS IS OF BULK AT MOST 1048576: true; the input reads as it did. -/
def opsResolvesUptoRow : OpenClaim := { program := "ytfkilkfaiiijbaa", sum := "7ec88a4b5b8e4fd4ac6ec970bcc5f05cca45cbb0fc046409a57feca2594e6a42", func := "plexus/plexuslaw07.OpsResolves", spec := "opsResolves", apart := false, narrowed := true }
def OpsResolvesUptoSaid : Prop := opsResolvesUptoRow.holds Try.pinned (OpenSpec.upto opsResolvesSpec)

/-- 'plexuslaw07.OpsOne', WHERE WHAT IT READS IS OF BULK AT MOST 1048576: true; the input reads as it did. -/
def opsOneUptoRow : OpenClaim := { program := "ytfkilkfaiiijbaa", sum := "7ec88a4b5b8e4fd4ac6ec970bcc5f05cca45cbb0fc046409a57feca2594e6a42", func := "plexus/plexuslaw07.OpsOne", spec := "opsOne", apart := false, narrowed := true }
def OpsOneUptoSaid : Prop := opsOneUptoRow.holds Try.pinned (OpenSpec.upto opsOneSpec)

/-- 'plexuslaw07.OpsOrder', WHERE WHAT IT READS IS OF BULK AT MOST 1048576: true; the input reads as it did. -/
def opsOrderUptoRow : OpenClaim := { program := "ytfkilkfaiiijbaa", sum := "7ec88a4b5b8e4fd4ac6ec970bcc5f05cca45cbb0fc046409a57feca2594e6a42", func := "plexus/plexuslaw07.OpsOrder", spec := "opsOrder", apart := false, narrowed := true }
def OpsOrderUptoSaid : Prop := opsOrderUptoRow.holds Try.pinned (OpenSpec.upto opsOrderSpec)

/-- 'plexuslaw07.OpsTell', WHERE WHAT IT READS IS OF BULK AT MOST 1048576: true; the input reads as it did. -/
def opsTellUptoRow : OpenClaim := { program := "ytfkilkfaiiijbaa", sum := "7ec88a4b5b8e4fd4ac6ec970bcc5f05cca45cbb0fc046409a57feca2594e6a42", func := "plexus/plexuslaw07.OpsTell", spec := "opsTell", apart := false, narrowed := true }
def OpsTellUptoSaid : Prop := opsTellUptoRow.holds Try.pinned (OpenSpec.upto opsTellSpec)

/-- 'plexuslaw08.CounterClears', WHERE WHAT IT READS IS OF BULK AT MOST 1048576: true; the input reads as it did. -/
def counterClearsUptoRow : OpenClaim := { program := "ytfkilkfaiiijbaa", sum := "7ec88a4b5b8e4fd4ac6ec970bcc5f05cca45cbb0fc046409a57feca2594e6a42", func := "plexus/plexuslaw08.CounterClears", spec := "counterClears", inPlace := ["slices.overlaps[plexus/api.Amount]"], unfollowed := true, recurses := true, apart := false, narrowed := true }
def CounterClearsUptoSaid : Prop := counterClearsUptoRow.holds Try.pinned (OpenSpec.upto counterClearsSpec)

/-- 'plexuslaw08.CounterTells', WHERE WHAT IT READS IS OF BULK AT MOST 1048576: true; the input reads as it did. -/
def counterTellsUptoRow : OpenClaim := { program := "ytfkilkfaiiijbaa", sum := "7ec88a4b5b8e4fd4ac6ec970bcc5f05cca45cbb0fc046409a57feca2594e6a42", func := "plexus/plexuslaw08.CounterTells", spec := "counterTells", inPlace := ["slices.overlaps[plexus/api.Amount]"], unfollowed := true, recurses := true, apart := false, narrowed := true }
def CounterTellsUptoSaid : Prop := counterTellsUptoRow.holds Try.pinned (OpenSpec.upto counterTellsSpec)

/-- 'plexuslaw08.CounterFolds', WHERE WHAT IT READS IS OF BULK AT MOST 1048576: true; the input reads as it did. -/
def counterFoldsUptoRow : OpenClaim := { program := "ytfkilkfaiiijbaa", sum := "7ec88a4b5b8e4fd4ac6ec970bcc5f05cca45cbb0fc046409a57feca2594e6a42", func := "plexus/plexuslaw08.CounterFolds", spec := "counterFolds", inPlace := ["slices.overlaps[plexus/api.Amount]"], unfollowed := true, recurses := true, apart := false, narrowed := true }
def CounterFoldsUptoSaid : Prop := counterFoldsUptoRow.holds Try.pinned (OpenSpec.upto counterFoldsSpec)

/-- 'plexuslaw08.CounterOrder', WHERE WHAT IT READS IS OF BULK AT MOST 1048576: true; the input reads as it did. -/
def counterOrderUptoRow : OpenClaim := { program := "ytfkilkfaiiijbaa", sum := "7ec88a4b5b8e4fd4ac6ec970bcc5f05cca45cbb0fc046409a57feca2594e6a42", func := "plexus/plexuslaw08.CounterOrder", spec := "counterOrder", inPlace := ["slices.overlaps[plexus/api.Amount]"], unfollowed := true, recurses := true, apart := false, narrowed := true }
def CounterOrderUptoSaid : Prop := counterOrderUptoRow.holds Try.pinned (OpenSpec.upto counterOrderSpec)

/-- 'plexuslaw19.OrderClosed', WHERE WHAT IT READS IS OF BULK AT MOST 1048576: true; the input reads as it did. -/
def orderClosedUptoRow : OpenClaim := { program := "ytfkilkfaiiijbaa", sum := "7ec88a4b5b8e4fd4ac6ec970bcc5f05cca45cbb0fc046409a57feca2594e6a42", func := "plexus/plexuslaw19.OrderClosed", spec := "orderClosed", inPlace := ["slices.overlaps[plexus/api.Tx]"], unfollowed := true, recurses := true, apart := false, narrowed := true }
def OrderClosedUptoSaid : Prop := orderClosedUptoRow.holds Try.pinned (OpenSpec.upto orderClosedSpec)

/-- 'plexuslaw19.OrderAll', WHERE WHAT IT READS IS OF BULK AT MOST 1048576: true; the input reads as it did. -/
def orderAllUptoRow : OpenClaim := { program := "ytfkilkfaiiijbaa", sum := "7ec88a4b5b8e4fd4ac6ec970bcc5f05cca45cbb0fc046409a57feca2594e6a42", func := "plexus/plexuslaw19.OrderAll", spec := "orderAll", inPlace := ["slices.overlaps[plexus/api.Tx]"], unfollowed := true, recurses := true, apart := false, narrowed := true }
def OrderAllUptoSaid : Prop := orderAllUptoRow.holds Try.pinned (OpenSpec.upto orderAllSpec)

end Rows
end Go.Proofs.Ytfkilkfaiiijbaa
