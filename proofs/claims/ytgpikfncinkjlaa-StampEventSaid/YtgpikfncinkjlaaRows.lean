/-
  NARROWER THAN 'FOR EVERY INPUT', by the rows' own cells (each row's printed sentence says how): EventsNorms: loops · EventsTell: loops · EventsJoin: loops · EventsOrder: loops · IdtreeTells: loops · IdtreeSplits: loops · IdtreeSums: loops · IdtreeNorms: loops · StampTells: loops · StampApart: loops · StampJoins: loops · StampEvent: loops.
  DERIVED. THE GIVEN ROWS OF THIS SEAT. 12 by the template 'for every input the law returns true; each argument reads behind the call as it read before'; 0 by the template 'total and deterministic' (their statements: YtgpikfncinkjlaaTotals.lean).
  GIVEN WITH THE SEED: the statements are not yours to turn. If you find one false, say at which input.
  Laid BY PROGRAM, IN A SANDBOX (cutbox-rows.mjs): the forced cells as the released guide's own fill.sh prints them over the translation 1fdbf3e31364dfc7… (all of the seat's roots in one cut). By AI agents, Wed Nov 11 2026. No macro, syntax, notation, axiom, sorry.
-/
import Derived.Test.YtgpikfncinkjlaaChecked
import GoSem.Claim
import GoSem.ClaimJoined
import GoSem.ClaimMapViews
import Derived.JoinedTies
import Derived.KernelRfl
namespace Go.Proofs.Ytgpikfncinkjlaa
/- THE CELL 'sum', in the pinned program and in every row, IS THE sha256 OF THE DUMP (.gsa) THAT YtgpikfncinkjlaaProg.lean LOADS. Nothing in Lean hashes anything: it is a label: what it is worth is what the hold of that sum in a sandbox is worth. -/
noncomputable def Try.pinned : Pinned := { name := "ytgpikfncinkjlaa", sum := "1fdbf3e31364dfc7abbd99084d7f36b6ac5e8ad3c70a56d95067545b1fd2bf84", checked := Try.checked }
namespace Rows
def none {H : Type} : Left H := { results := [], args := [] }

/-- 'plexuslaw05.EventsNorms': WHATEVER THE INPUT: true; the input reads as it did. -/
def eventsNormsSpec : ChangeSpec := { name := "eventsNorms", fn := fun _ => fun
  | [d] => { results := [.lit (.bool true)], args := [d] }
  | _ => none }
def eventsNormsRow : OpenClaim := { program := "ytgpikfncinkjlaa", sum := "1fdbf3e31364dfc7abbd99084d7f36b6ac5e8ad3c70a56d95067545b1fd2bf84", func := "plexus/plexuslaw05.EventsNorms", spec := "eventsNorms", unfollowed := true, recurses := true, loops := true, apart := false }
def EventsNormsSaid : Prop := eventsNormsRow.holds Try.pinned (OpenSpec.ofChange eventsNormsSpec)

/-- ITS FALSE NEIGHBOUR: 'it returns false'. Refute it at one input. -/
def eventsNormsWrong : ChangeSpec := { name := "eventsNorms", fn := fun _ => fun
  | [d] => { results := [.lit (.bool false)], args := [d] }
  | _ => none }
def EventsNormsWrongFalsely : Prop := eventsNormsRow.holds Try.pinned (OpenSpec.ofChange eventsNormsWrong)

/-- 'plexuslaw05.EventsTell': WHATEVER THE INPUT: true; the input reads as it did. -/
def eventsTellSpec : ChangeSpec := { name := "eventsTell", fn := fun _ => fun
  | [d1, d2, d3] => { results := [.lit (.bool true)], args := [d1, d2, d3] }
  | _ => none }
def eventsTellRow : OpenClaim := { program := "ytgpikfncinkjlaa", sum := "1fdbf3e31364dfc7abbd99084d7f36b6ac5e8ad3c70a56d95067545b1fd2bf84", func := "plexus/plexuslaw05.EventsTell", spec := "eventsTell", unfollowed := true, recurses := true, loops := true, apart := false }
def EventsTellSaid : Prop := eventsTellRow.holds Try.pinned (OpenSpec.ofChange eventsTellSpec)

/-- ITS FALSE NEIGHBOUR: 'it returns false'. Refute it at one input. -/
def eventsTellWrong : ChangeSpec := { name := "eventsTell", fn := fun _ => fun
  | [d1, d2, d3] => { results := [.lit (.bool false)], args := [d1, d2, d3] }
  | _ => none }
def EventsTellWrongFalsely : Prop := eventsTellRow.holds Try.pinned (OpenSpec.ofChange eventsTellWrong)

/-- 'plexuslaw05.EventsJoin': WHATEVER THE INPUT: true; the input reads as it did. -/
def eventsJoinSpec : ChangeSpec := { name := "eventsJoin", fn := fun _ => fun
  | [d1, d2, d3, d4] => { results := [.lit (.bool true)], args := [d1, d2, d3, d4] }
  | _ => none }
def eventsJoinRow : OpenClaim := { program := "ytgpikfncinkjlaa", sum := "1fdbf3e31364dfc7abbd99084d7f36b6ac5e8ad3c70a56d95067545b1fd2bf84", func := "plexus/plexuslaw05.EventsJoin", spec := "eventsJoin", unfollowed := true, recurses := true, loops := true, apart := false }
def EventsJoinSaid : Prop := eventsJoinRow.holds Try.pinned (OpenSpec.ofChange eventsJoinSpec)

/-- ITS FALSE NEIGHBOUR: 'it returns false'. Refute it at one input. -/
def eventsJoinWrong : ChangeSpec := { name := "eventsJoin", fn := fun _ => fun
  | [d1, d2, d3, d4] => { results := [.lit (.bool false)], args := [d1, d2, d3, d4] }
  | _ => none }
def EventsJoinWrongFalsely : Prop := eventsJoinRow.holds Try.pinned (OpenSpec.ofChange eventsJoinWrong)

/-- 'plexuslaw05.EventsOrder': WHATEVER THE INPUT: true; the input reads as it did. -/
def eventsOrderSpec : ChangeSpec := { name := "eventsOrder", fn := fun _ => fun
  | [d1, d2, d3, d4] => { results := [.lit (.bool true)], args := [d1, d2, d3, d4] }
  | _ => none }
def eventsOrderRow : OpenClaim := { program := "ytgpikfncinkjlaa", sum := "1fdbf3e31364dfc7abbd99084d7f36b6ac5e8ad3c70a56d95067545b1fd2bf84", func := "plexus/plexuslaw05.EventsOrder", spec := "eventsOrder", unfollowed := true, recurses := true, loops := true, apart := false }
def EventsOrderSaid : Prop := eventsOrderRow.holds Try.pinned (OpenSpec.ofChange eventsOrderSpec)

/-- ITS FALSE NEIGHBOUR: 'it returns false'. Refute it at one input. -/
def eventsOrderWrong : ChangeSpec := { name := "eventsOrder", fn := fun _ => fun
  | [d1, d2, d3, d4] => { results := [.lit (.bool false)], args := [d1, d2, d3, d4] }
  | _ => none }
def EventsOrderWrongFalsely : Prop := eventsOrderRow.holds Try.pinned (OpenSpec.ofChange eventsOrderWrong)

/-- 'plexuslaw04.IdtreeTells': WHATEVER THE INPUT: true; the input reads as it did. -/
def idtreeTellsSpec : ChangeSpec := { name := "idtreeTells", fn := fun _ => fun
  | [d1, d2, d3] => { results := [.lit (.bool true)], args := [d1, d2, d3] }
  | _ => none }
def idtreeTellsRow : OpenClaim := { program := "ytgpikfncinkjlaa", sum := "1fdbf3e31364dfc7abbd99084d7f36b6ac5e8ad3c70a56d95067545b1fd2bf84", func := "plexus/plexuslaw04.IdtreeTells", spec := "idtreeTells", unfollowed := true, recurses := true, loops := true, apart := false }
def IdtreeTellsSaid : Prop := idtreeTellsRow.holds Try.pinned (OpenSpec.ofChange idtreeTellsSpec)

/-- ITS FALSE NEIGHBOUR: 'it returns false'. Refute it at one input. -/
def idtreeTellsWrong : ChangeSpec := { name := "idtreeTells", fn := fun _ => fun
  | [d1, d2, d3] => { results := [.lit (.bool false)], args := [d1, d2, d3] }
  | _ => none }
def IdtreeTellsWrongFalsely : Prop := idtreeTellsRow.holds Try.pinned (OpenSpec.ofChange idtreeTellsWrong)

/-- 'plexuslaw04.IdtreeSplits': WHATEVER THE INPUT: true; the input reads as it did. -/
def idtreeSplitsSpec : ChangeSpec := { name := "idtreeSplits", fn := fun _ => fun
  | [d1, d2] => { results := [.lit (.bool true)], args := [d1, d2] }
  | _ => none }
def idtreeSplitsRow : OpenClaim := { program := "ytgpikfncinkjlaa", sum := "1fdbf3e31364dfc7abbd99084d7f36b6ac5e8ad3c70a56d95067545b1fd2bf84", func := "plexus/plexuslaw04.IdtreeSplits", spec := "idtreeSplits", unfollowed := true, recurses := true, loops := true, apart := false }
def IdtreeSplitsSaid : Prop := idtreeSplitsRow.holds Try.pinned (OpenSpec.ofChange idtreeSplitsSpec)

/-- ITS FALSE NEIGHBOUR: 'it returns false'. Refute it at one input. -/
def idtreeSplitsWrong : ChangeSpec := { name := "idtreeSplits", fn := fun _ => fun
  | [d1, d2] => { results := [.lit (.bool false)], args := [d1, d2] }
  | _ => none }
def IdtreeSplitsWrongFalsely : Prop := idtreeSplitsRow.holds Try.pinned (OpenSpec.ofChange idtreeSplitsWrong)

/-- 'plexuslaw04.IdtreeSums': WHATEVER THE INPUT: true; the input reads as it did. -/
def idtreeSumsSpec : ChangeSpec := { name := "idtreeSums", fn := fun _ => fun
  | [d1, d2, d3, d4] => { results := [.lit (.bool true)], args := [d1, d2, d3, d4] }
  | _ => none }
def idtreeSumsRow : OpenClaim := { program := "ytgpikfncinkjlaa", sum := "1fdbf3e31364dfc7abbd99084d7f36b6ac5e8ad3c70a56d95067545b1fd2bf84", func := "plexus/plexuslaw04.IdtreeSums", spec := "idtreeSums", unfollowed := true, recurses := true, loops := true, apart := false }
def IdtreeSumsSaid : Prop := idtreeSumsRow.holds Try.pinned (OpenSpec.ofChange idtreeSumsSpec)

/-- ITS FALSE NEIGHBOUR: 'it returns false'. Refute it at one input. -/
def idtreeSumsWrong : ChangeSpec := { name := "idtreeSums", fn := fun _ => fun
  | [d1, d2, d3, d4] => { results := [.lit (.bool false)], args := [d1, d2, d3, d4] }
  | _ => none }
def IdtreeSumsWrongFalsely : Prop := idtreeSumsRow.holds Try.pinned (OpenSpec.ofChange idtreeSumsWrong)

/-- 'plexuslaw04.IdtreeNorms': WHATEVER THE INPUT: true; the input reads as it did. -/
def idtreeNormsSpec : ChangeSpec := { name := "idtreeNorms", fn := fun _ => fun
  | [d] => { results := [.lit (.bool true)], args := [d] }
  | _ => none }
def idtreeNormsRow : OpenClaim := { program := "ytgpikfncinkjlaa", sum := "1fdbf3e31364dfc7abbd99084d7f36b6ac5e8ad3c70a56d95067545b1fd2bf84", func := "plexus/plexuslaw04.IdtreeNorms", spec := "idtreeNorms", unfollowed := true, recurses := true, loops := true, apart := false }
def IdtreeNormsSaid : Prop := idtreeNormsRow.holds Try.pinned (OpenSpec.ofChange idtreeNormsSpec)

/-- ITS FALSE NEIGHBOUR: 'it returns false'. Refute it at one input. -/
def idtreeNormsWrong : ChangeSpec := { name := "idtreeNorms", fn := fun _ => fun
  | [d] => { results := [.lit (.bool false)], args := [d] }
  | _ => none }
def IdtreeNormsWrongFalsely : Prop := idtreeNormsRow.holds Try.pinned (OpenSpec.ofChange idtreeNormsWrong)

/-- 'plexuslaw06.StampTells': WHATEVER THE INPUT: true; the input reads as it did. -/
def stampTellsSpec : ChangeSpec := { name := "stampTells", fn := fun _ => fun
  | [d1, d2] => { results := [.lit (.bool true)], args := [d1, d2] }
  | _ => none }
def stampTellsRow : OpenClaim := { program := "ytgpikfncinkjlaa", sum := "1fdbf3e31364dfc7abbd99084d7f36b6ac5e8ad3c70a56d95067545b1fd2bf84", func := "plexus/plexuslaw06.StampTells", spec := "stampTells", unfollowed := true, recurses := true, loops := true, apart := false }
def StampTellsSaid : Prop := stampTellsRow.holds Try.pinned (OpenSpec.ofChange stampTellsSpec)

/-- ITS FALSE NEIGHBOUR: 'it returns false'. Refute it at one input. -/
def stampTellsWrong : ChangeSpec := { name := "stampTells", fn := fun _ => fun
  | [d1, d2] => { results := [.lit (.bool false)], args := [d1, d2] }
  | _ => none }
def StampTellsWrongFalsely : Prop := stampTellsRow.holds Try.pinned (OpenSpec.ofChange stampTellsWrong)

/-- 'plexuslaw06.StampApart': WHATEVER THE INPUT: true; the input reads as it did. -/
def stampApartSpec : ChangeSpec := { name := "stampApart", fn := fun _ => fun
  | [d] => { results := [.lit (.bool true)], args := [d] }
  | _ => none }
def stampApartRow : OpenClaim := { program := "ytgpikfncinkjlaa", sum := "1fdbf3e31364dfc7abbd99084d7f36b6ac5e8ad3c70a56d95067545b1fd2bf84", func := "plexus/plexuslaw06.StampApart", spec := "stampApart", unfollowed := true, recurses := true, loops := true, apart := false }
def StampApartSaid : Prop := stampApartRow.holds Try.pinned (OpenSpec.ofChange stampApartSpec)

/-- ITS FALSE NEIGHBOUR: 'it returns false'. Refute it at one input. -/
def stampApartWrong : ChangeSpec := { name := "stampApart", fn := fun _ => fun
  | [d] => { results := [.lit (.bool false)], args := [d] }
  | _ => none }
def StampApartWrongFalsely : Prop := stampApartRow.holds Try.pinned (OpenSpec.ofChange stampApartWrong)

/-- 'plexuslaw06.StampJoins': WHATEVER THE INPUT: true; the input reads as it did. -/
def stampJoinsSpec : ChangeSpec := { name := "stampJoins", fn := fun _ => fun
  | [d1, d2] => { results := [.lit (.bool true)], args := [d1, d2] }
  | _ => none }
def stampJoinsRow : OpenClaim := { program := "ytgpikfncinkjlaa", sum := "1fdbf3e31364dfc7abbd99084d7f36b6ac5e8ad3c70a56d95067545b1fd2bf84", func := "plexus/plexuslaw06.StampJoins", spec := "stampJoins", unfollowed := true, recurses := true, loops := true, apart := false }
def StampJoinsSaid : Prop := stampJoinsRow.holds Try.pinned (OpenSpec.ofChange stampJoinsSpec)

/-- ITS FALSE NEIGHBOUR: 'it returns false'. Refute it at one input. -/
def stampJoinsWrong : ChangeSpec := { name := "stampJoins", fn := fun _ => fun
  | [d1, d2] => { results := [.lit (.bool false)], args := [d1, d2] }
  | _ => none }
def StampJoinsWrongFalsely : Prop := stampJoinsRow.holds Try.pinned (OpenSpec.ofChange stampJoinsWrong)

/-- 'plexuslaw06.StampEvent': WHATEVER THE INPUT: true; the input reads as it did. -/
def stampEventSpec : ChangeSpec := { name := "stampEvent", fn := fun _ => fun
  | [d1, d2] => { results := [.lit (.bool true)], args := [d1, d2] }
  | _ => none }
def stampEventRow : OpenClaim := { program := "ytgpikfncinkjlaa", sum := "1fdbf3e31364dfc7abbd99084d7f36b6ac5e8ad3c70a56d95067545b1fd2bf84", func := "plexus/plexuslaw06.StampEvent", spec := "stampEvent", unfollowed := true, recurses := true, loops := true, apart := false }
def StampEventSaid : Prop := stampEventRow.holds Try.pinned (OpenSpec.ofChange stampEventSpec)

/-- ITS FALSE NEIGHBOUR: 'it returns false'. Refute it at one input. -/
def stampEventWrong : ChangeSpec := { name := "stampEvent", fn := fun _ => fun
  | [d1, d2] => { results := [.lit (.bool false)], args := [d1, d2] }
  | _ => none }
def StampEventWrongFalsely : Prop := stampEventRow.holds Try.pinned (OpenSpec.ofChange stampEventWrong)

/- THE SECOND FORM. 'bulk': how many values and letters a reading holds, each counted each time it is reached (what is shared counts as often as it is met; a slice's spare places count too). A statement '..UptoSaid' is the law's where the arguments, and the package variables that the reading takes, are together of bulk at most 1048576: NARROWER than '..Said'. Prove '..Said' where nothing that the law and all that it calls make is longer than what came in: it says more and counts as full. Else prove '..UptoSaid'. A law counts once. -/
mutual
def uptoBulk {H : Type} : DataW H → Nat
  | .lit (.string bytes) => bytes.length + 1
  | .lit _ => 1
  | .nil => 1
  | .ptr d => uptoBulk d + 1
  | .slice elems spare => uptoBulkAll elems + uptoBulkAll spare + 1
  | .agg parts => uptoBulkAll parts + 1
  | .iface _ d => uptoBulk d + 1
  | .map entries => uptoBulkEntries entries + 1
  | .held _ => 1
def uptoBulkAll {H : Type} : List (DataW H) → Nat
  | [] => 0
  | d :: r => uptoBulk d + uptoBulkAll r
def uptoBulkEntries {H : Type} : List (Lit × DataW H) → Nat
  | [] => 0
  | x :: r => uptoBulkEntry x + uptoBulkEntries r
def uptoBulkEntry {H : Type} : Lit × DataW H → Nat
  | (.string bytes, d) => bytes.length + uptoBulk d + 1
  | (_, d) => uptoBulk d + 1
 end
def uptoSmall : (H : Type) → List (DataW H) → Bool := fun _ ds => decide (uptoBulkAll ds ≤ 1048576)
def OpenSpec.upto (s : _root_.Go.ChangeSpec) : _root_.Go.OpenSpec := { _root_.Go.OpenSpec.ofChange s with cond := some uptoSmall }

/-- 'plexuslaw05.EventsNorms', WHERE WHAT IT READS IS OF BULK AT MOST 1048576: true; the input reads as it did. -/
def eventsNormsUptoRow : OpenClaim := { program := "ytgpikfncinkjlaa", sum := "1fdbf3e31364dfc7abbd99084d7f36b6ac5e8ad3c70a56d95067545b1fd2bf84", func := "plexus/plexuslaw05.EventsNorms", spec := "eventsNorms", unfollowed := true, recurses := true, loops := true, apart := false, narrowed := true }
def EventsNormsUptoSaid : Prop := eventsNormsUptoRow.holds Try.pinned (OpenSpec.upto eventsNormsSpec)

/-- 'plexuslaw05.EventsTell', WHERE WHAT IT READS IS OF BULK AT MOST 1048576: true; the input reads as it did. -/
def eventsTellUptoRow : OpenClaim := { program := "ytgpikfncinkjlaa", sum := "1fdbf3e31364dfc7abbd99084d7f36b6ac5e8ad3c70a56d95067545b1fd2bf84", func := "plexus/plexuslaw05.EventsTell", spec := "eventsTell", unfollowed := true, recurses := true, loops := true, apart := false, narrowed := true }
def EventsTellUptoSaid : Prop := eventsTellUptoRow.holds Try.pinned (OpenSpec.upto eventsTellSpec)

/-- 'plexuslaw05.EventsJoin', WHERE WHAT IT READS IS OF BULK AT MOST 1048576: true; the input reads as it did. -/
def eventsJoinUptoRow : OpenClaim := { program := "ytgpikfncinkjlaa", sum := "1fdbf3e31364dfc7abbd99084d7f36b6ac5e8ad3c70a56d95067545b1fd2bf84", func := "plexus/plexuslaw05.EventsJoin", spec := "eventsJoin", unfollowed := true, recurses := true, loops := true, apart := false, narrowed := true }
def EventsJoinUptoSaid : Prop := eventsJoinUptoRow.holds Try.pinned (OpenSpec.upto eventsJoinSpec)

/-- 'plexuslaw05.EventsOrder', WHERE WHAT IT READS IS OF BULK AT MOST 1048576: true; the input reads as it did. -/
def eventsOrderUptoRow : OpenClaim := { program := "ytgpikfncinkjlaa", sum := "1fdbf3e31364dfc7abbd99084d7f36b6ac5e8ad3c70a56d95067545b1fd2bf84", func := "plexus/plexuslaw05.EventsOrder", spec := "eventsOrder", unfollowed := true, recurses := true, loops := true, apart := false, narrowed := true }
def EventsOrderUptoSaid : Prop := eventsOrderUptoRow.holds Try.pinned (OpenSpec.upto eventsOrderSpec)

/-- 'plexuslaw04.IdtreeTells', WHERE WHAT IT READS IS OF BULK AT MOST 1048576: true; the input reads as it did. -/
def idtreeTellsUptoRow : OpenClaim := { program := "ytgpikfncinkjlaa", sum := "1fdbf3e31364dfc7abbd99084d7f36b6ac5e8ad3c70a56d95067545b1fd2bf84", func := "plexus/plexuslaw04.IdtreeTells", spec := "idtreeTells", unfollowed := true, recurses := true, loops := true, apart := false, narrowed := true }
def IdtreeTellsUptoSaid : Prop := idtreeTellsUptoRow.holds Try.pinned (OpenSpec.upto idtreeTellsSpec)

/-- 'plexuslaw04.IdtreeSplits', WHERE WHAT IT READS IS OF BULK AT MOST 1048576: true; the input reads as it did. -/
def idtreeSplitsUptoRow : OpenClaim := { program := "ytgpikfncinkjlaa", sum := "1fdbf3e31364dfc7abbd99084d7f36b6ac5e8ad3c70a56d95067545b1fd2bf84", func := "plexus/plexuslaw04.IdtreeSplits", spec := "idtreeSplits", unfollowed := true, recurses := true, loops := true, apart := false, narrowed := true }
def IdtreeSplitsUptoSaid : Prop := idtreeSplitsUptoRow.holds Try.pinned (OpenSpec.upto idtreeSplitsSpec)

/-- 'plexuslaw04.IdtreeSums', WHERE WHAT IT READS IS OF BULK AT MOST 1048576: true; the input reads as it did. -/
def idtreeSumsUptoRow : OpenClaim := { program := "ytgpikfncinkjlaa", sum := "1fdbf3e31364dfc7abbd99084d7f36b6ac5e8ad3c70a56d95067545b1fd2bf84", func := "plexus/plexuslaw04.IdtreeSums", spec := "idtreeSums", unfollowed := true, recurses := true, loops := true, apart := false, narrowed := true }
def IdtreeSumsUptoSaid : Prop := idtreeSumsUptoRow.holds Try.pinned (OpenSpec.upto idtreeSumsSpec)

/-- 'plexuslaw04.IdtreeNorms', WHERE WHAT IT READS IS OF BULK AT MOST 1048576: true; the input reads as it did. -/
def idtreeNormsUptoRow : OpenClaim := { program := "ytgpikfncinkjlaa", sum := "1fdbf3e31364dfc7abbd99084d7f36b6ac5e8ad3c70a56d95067545b1fd2bf84", func := "plexus/plexuslaw04.IdtreeNorms", spec := "idtreeNorms", unfollowed := true, recurses := true, loops := true, apart := false, narrowed := true }
def IdtreeNormsUptoSaid : Prop := idtreeNormsUptoRow.holds Try.pinned (OpenSpec.upto idtreeNormsSpec)

/-- 'plexuslaw06.StampTells', WHERE WHAT IT READS IS OF BULK AT MOST 1048576: true; the input reads as it did. -/
def stampTellsUptoRow : OpenClaim := { program := "ytgpikfncinkjlaa", sum := "1fdbf3e31364dfc7abbd99084d7f36b6ac5e8ad3c70a56d95067545b1fd2bf84", func := "plexus/plexuslaw06.StampTells", spec := "stampTells", unfollowed := true, recurses := true, loops := true, apart := false, narrowed := true }
def StampTellsUptoSaid : Prop := stampTellsUptoRow.holds Try.pinned (OpenSpec.upto stampTellsSpec)

/-- 'plexuslaw06.StampApart', WHERE WHAT IT READS IS OF BULK AT MOST 1048576: true; the input reads as it did. -/
def stampApartUptoRow : OpenClaim := { program := "ytgpikfncinkjlaa", sum := "1fdbf3e31364dfc7abbd99084d7f36b6ac5e8ad3c70a56d95067545b1fd2bf84", func := "plexus/plexuslaw06.StampApart", spec := "stampApart", unfollowed := true, recurses := true, loops := true, apart := false, narrowed := true }
def StampApartUptoSaid : Prop := stampApartUptoRow.holds Try.pinned (OpenSpec.upto stampApartSpec)

/-- 'plexuslaw06.StampJoins', WHERE WHAT IT READS IS OF BULK AT MOST 1048576: true; the input reads as it did. -/
def stampJoinsUptoRow : OpenClaim := { program := "ytgpikfncinkjlaa", sum := "1fdbf3e31364dfc7abbd99084d7f36b6ac5e8ad3c70a56d95067545b1fd2bf84", func := "plexus/plexuslaw06.StampJoins", spec := "stampJoins", unfollowed := true, recurses := true, loops := true, apart := false, narrowed := true }
def StampJoinsUptoSaid : Prop := stampJoinsUptoRow.holds Try.pinned (OpenSpec.upto stampJoinsSpec)

/-- 'plexuslaw06.StampEvent', WHERE WHAT IT READS IS OF BULK AT MOST 1048576: true; the input reads as it did. -/
def stampEventUptoRow : OpenClaim := { program := "ytgpikfncinkjlaa", sum := "1fdbf3e31364dfc7abbd99084d7f36b6ac5e8ad3c70a56d95067545b1fd2bf84", func := "plexus/plexuslaw06.StampEvent", spec := "stampEvent", unfollowed := true, recurses := true, loops := true, apart := false, narrowed := true }
def StampEventUptoSaid : Prop := stampEventUptoRow.holds Try.pinned (OpenSpec.upto stampEventSpec)

end Rows
end Go.Proofs.Ytgpikfncinkjlaa
