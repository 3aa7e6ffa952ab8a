/-
  No cell of these rows narrows 'for every input' (looked for: loops, veiled, ifaces, maps, wideKeys, modest, calm, conditions, laid).
  DERIVED. THE GIVEN ROWS OF THIS SEAT. 13 by the template 'for every input the law returns true; each argument reads behind the call as it read before'; 0 by the template 'total and deterministic' (their statements: YtcfhbnfincpehaaTotals.lean).
  GIVEN WITH THE SEED: the statements are not yours to turn. If you find one false, say at which input.
  Laid BY PROGRAM, IN A SANDBOX (cutbox-rows.mjs): the forced cells as the released guide's own fill.sh prints them over the translation 1a61598b633e111f… (all of the seat's roots in one cut). By AI agents, Wed Nov 11 2026. No macro, syntax, notation, axiom, sorry.
-/
import Derived.Test.YtcfhbnfincpehaaChecked
import GoSem.Claim
import GoSem.ClaimJoined
import GoSem.ClaimMapViews
import Derived.JoinedTies
import Derived.KernelRfl
namespace Go.Proofs.Ytcfhbnfincpehaa
/- THE CELL 'sum', in the pinned program and in every row, IS THE sha256 OF THE DUMP (.gsa) THAT YtcfhbnfincpehaaProg.lean LOADS. Nothing in Lean hashes anything: it is a label: what it is worth is what the hold of that sum in a sandbox is worth. -/
noncomputable def Try.pinned : Pinned := { name := "ytcfhbnfincpehaa", sum := "1a61598b633e111f07c03c5b737d19bcf7e3f0685595877a20a49c047c669d2d", checked := Try.checked }
namespace Rows
def none {H : Type} : Left H := { results := [], args := [] }

/-- 'kingpinlaw04.PathReaches': WHATEVER THE INPUT: true; the input reads as it did. -/
def pathReachesSpec : ChangeSpec := { name := "pathReaches", fn := fun _ => fun
  | [d1, d2, d3] => { results := [.lit (.bool true)], args := [d1, d2, d3] }
  | _ => none }
def pathReachesRow : OpenClaim := { program := "ytcfhbnfincpehaa", sum := "1a61598b633e111f07c03c5b737d19bcf7e3f0685595877a20a49c047c669d2d", func := "kingpin/kingpinlaw04.PathReaches", spec := "pathReaches", unfollowed := true, recurses := true, plainKeys := false, apart := false }
def PathReachesSaid : Prop := pathReachesRow.holds Try.pinned (OpenSpec.ofChange pathReachesSpec)

/-- ITS FALSE NEIGHBOUR: 'it returns false'. Refute it at one input. -/
def pathReachesWrong : ChangeSpec := { name := "pathReaches", fn := fun _ => fun
  | [d1, d2, d3] => { results := [.lit (.bool false)], args := [d1, d2, d3] }
  | _ => none }
def PathReachesWrongFalsely : Prop := pathReachesRow.holds Try.pinned (OpenSpec.ofChange pathReachesWrong)

/-- 'kingpinlaw04.PathTurns': WHATEVER THE INPUT: true; the input reads as it did. -/
def pathTurnsSpec : ChangeSpec := { name := "pathTurns", fn := fun _ => fun
  | [d1, d2] => { results := [.lit (.bool true)], args := [d1, d2] }
  | _ => none }
def pathTurnsRow : OpenClaim := { program := "ytcfhbnfincpehaa", sum := "1a61598b633e111f07c03c5b737d19bcf7e3f0685595877a20a49c047c669d2d", func := "kingpin/kingpinlaw04.PathTurns", spec := "pathTurns", unfollowed := true, recurses := true, plainKeys := false, apart := false }
def PathTurnsSaid : Prop := pathTurnsRow.holds Try.pinned (OpenSpec.ofChange pathTurnsSpec)

/-- ITS FALSE NEIGHBOUR: 'it returns false'. Refute it at one input. -/
def pathTurnsWrong : ChangeSpec := { name := "pathTurns", fn := fun _ => fun
  | [d1, d2] => { results := [.lit (.bool false)], args := [d1, d2] }
  | _ => none }
def PathTurnsWrongFalsely : Prop := pathTurnsRow.holds Try.pinned (OpenSpec.ofChange pathTurnsWrong)

/-- 'kingpinlaw04.PathAims': WHATEVER THE INPUT: true; the input reads as it did. -/
def pathAimsSpec : ChangeSpec := { name := "pathAims", fn := fun _ => fun
  | [d1, d2] => { results := [.lit (.bool true)], args := [d1, d2] }
  | _ => none }
def pathAimsRow : OpenClaim := { program := "ytcfhbnfincpehaa", sum := "1a61598b633e111f07c03c5b737d19bcf7e3f0685595877a20a49c047c669d2d", func := "kingpin/kingpinlaw04.PathAims", spec := "pathAims", unfollowed := true, recurses := true, plainKeys := false, apart := false }
def PathAimsSaid : Prop := pathAimsRow.holds Try.pinned (OpenSpec.ofChange pathAimsSpec)

/-- ITS FALSE NEIGHBOUR: 'it returns false'. Refute it at one input. -/
def pathAimsWrong : ChangeSpec := { name := "pathAims", fn := fun _ => fun
  | [d1, d2] => { results := [.lit (.bool false)], args := [d1, d2] }
  | _ => none }
def PathAimsWrongFalsely : Prop := pathAimsRow.holds Try.pinned (OpenSpec.ofChange pathAimsWrong)

/-- 'kingpinlaw04.PathRows': WHATEVER THE INPUT: true; the input reads as it did. -/
def pathRowsSpec : ChangeSpec := { name := "pathRows", fn := fun _ => fun
  | [d1, d2, d3] => { results := [.lit (.bool true)], args := [d1, d2, d3] }
  | _ => none }
def pathRowsRow : OpenClaim := { program := "ytcfhbnfincpehaa", sum := "1a61598b633e111f07c03c5b737d19bcf7e3f0685595877a20a49c047c669d2d", func := "kingpin/kingpinlaw04.PathRows", spec := "pathRows", unfollowed := true, recurses := true, plainKeys := false, apart := false }
def PathRowsSaid : Prop := pathRowsRow.holds Try.pinned (OpenSpec.ofChange pathRowsSpec)

/-- ITS FALSE NEIGHBOUR: 'it returns false'. Refute it at one input. -/
def pathRowsWrong : ChangeSpec := { name := "pathRows", fn := fun _ => fun
  | [d1, d2, d3] => { results := [.lit (.bool false)], args := [d1, d2, d3] }
  | _ => none }
def PathRowsWrongFalsely : Prop := pathRowsRow.holds Try.pinned (OpenSpec.ofChange pathRowsWrong)

/-- 'kingpinlaw04.PathPlays': WHATEVER THE INPUT: true; the input reads as it did. -/
def pathPlaysSpec : ChangeSpec := { name := "pathPlays", fn := fun _ => fun
  | [d1, d2, d3] => { results := [.lit (.bool true)], args := [d1, d2, d3] }
  | _ => none }
def pathPlaysRow : OpenClaim := { program := "ytcfhbnfincpehaa", sum := "1a61598b633e111f07c03c5b737d19bcf7e3f0685595877a20a49c047c669d2d", func := "kingpin/kingpinlaw04.PathPlays", spec := "pathPlays", unfollowed := true, recurses := true, plainKeys := false, apart := false }
def PathPlaysSaid : Prop := pathPlaysRow.holds Try.pinned (OpenSpec.ofChange pathPlaysSpec)

/-- ITS FALSE NEIGHBOUR: 'it returns false'. Refute it at one input. -/
def pathPlaysWrong : ChangeSpec := { name := "pathPlays", fn := fun _ => fun
  | [d1, d2, d3] => { results := [.lit (.bool false)], args := [d1, d2, d3] }
  | _ => none }
def PathPlaysWrongFalsely : Prop := pathPlaysRow.holds Try.pinned (OpenSpec.ofChange pathPlaysWrong)

/-- 'kingpinlaw04.PathWider': WHATEVER THE INPUT: true; the input reads as it did. -/
def pathWiderSpec : ChangeSpec := { name := "pathWider", fn := fun _ => fun
  | [d1, d2, d3, d4, d5, d6] => { results := [.lit (.bool true)], args := [d1, d2, d3, d4, d5, d6] }
  | _ => none }
def pathWiderRow : OpenClaim := { program := "ytcfhbnfincpehaa", sum := "1a61598b633e111f07c03c5b737d19bcf7e3f0685595877a20a49c047c669d2d", func := "kingpin/kingpinlaw04.PathWider", spec := "pathWider", unfollowed := true, recurses := true, plainKeys := false, apart := false }
def PathWiderSaid : Prop := pathWiderRow.holds Try.pinned (OpenSpec.ofChange pathWiderSpec)

/-- ITS FALSE NEIGHBOUR: 'it returns false'. Refute it at one input. -/
def pathWiderWrong : ChangeSpec := { name := "pathWider", fn := fun _ => fun
  | [d1, d2, d3, d4, d5, d6] => { results := [.lit (.bool false)], args := [d1, d2, d3, d4, d5, d6] }
  | _ => none }
def PathWiderWrongFalsely : Prop := pathWiderRow.holds Try.pinned (OpenSpec.ofChange pathWiderWrong)

/-- 'kingpinlaw04.PathStraight': WHATEVER THE INPUT: true; the input reads as it did. -/
def pathStraightSpec : ChangeSpec := { name := "pathStraight", fn := fun _ => fun
  | [d1, d2, d3] => { results := [.lit (.bool true)], args := [d1, d2, d3] }
  | _ => none }
def pathStraightRow : OpenClaim := { program := "ytcfhbnfincpehaa", sum := "1a61598b633e111f07c03c5b737d19bcf7e3f0685595877a20a49c047c669d2d", func := "kingpin/kingpinlaw04.PathStraight", spec := "pathStraight", unfollowed := true, recurses := true, plainKeys := false, apart := false }
def PathStraightSaid : Prop := pathStraightRow.holds Try.pinned (OpenSpec.ofChange pathStraightSpec)

/-- ITS FALSE NEIGHBOUR: 'it returns false'. Refute it at one input. -/
def pathStraightWrong : ChangeSpec := { name := "pathStraight", fn := fun _ => fun
  | [d1, d2, d3] => { results := [.lit (.bool false)], args := [d1, d2, d3] }
  | _ => none }
def PathStraightWrongFalsely : Prop := pathStraightRow.holds Try.pinned (OpenSpec.ofChange pathStraightWrong)

/-- 'kingpinlaw04.PathTurned': WHATEVER THE INPUT: true; the input reads as it did. -/
def pathTurnedSpec : ChangeSpec := { name := "pathTurned", fn := fun _ => fun
  | [d1, d2, d3, d4] => { results := [.lit (.bool true)], args := [d1, d2, d3, d4] }
  | _ => none }
def pathTurnedRow : OpenClaim := { program := "ytcfhbnfincpehaa", sum := "1a61598b633e111f07c03c5b737d19bcf7e3f0685595877a20a49c047c669d2d", func := "kingpin/kingpinlaw04.PathTurned", spec := "pathTurned", unfollowed := true, recurses := true, plainKeys := false, apart := false }
def PathTurnedSaid : Prop := pathTurnedRow.holds Try.pinned (OpenSpec.ofChange pathTurnedSpec)

/-- ITS FALSE NEIGHBOUR: 'it returns false'. Refute it at one input. -/
def pathTurnedWrong : ChangeSpec := { name := "pathTurned", fn := fun _ => fun
  | [d1, d2, d3, d4] => { results := [.lit (.bool false)], args := [d1, d2, d3, d4] }
  | _ => none }
def PathTurnedWrongFalsely : Prop := pathTurnedRow.holds Try.pinned (OpenSpec.ofChange pathTurnedWrong)

/-- 'kingpinlaw04.PathRoom': WHATEVER THE INPUT: true; the input reads as it did. -/
def pathRoomSpec : ChangeSpec := { name := "pathRoom", fn := fun _ => fun
  | [d1, d2, d3] => { results := [.lit (.bool true)], args := [d1, d2, d3] }
  | _ => none }
def pathRoomRow : OpenClaim := { program := "ytcfhbnfincpehaa", sum := "1a61598b633e111f07c03c5b737d19bcf7e3f0685595877a20a49c047c669d2d", func := "kingpin/kingpinlaw04.PathRoom", spec := "pathRoom", unfollowed := true, recurses := true, plainKeys := false, apart := false }
def PathRoomSaid : Prop := pathRoomRow.holds Try.pinned (OpenSpec.ofChange pathRoomSpec)

/-- ITS FALSE NEIGHBOUR: 'it returns false'. Refute it at one input. -/
def pathRoomWrong : ChangeSpec := { name := "pathRoom", fn := fun _ => fun
  | [d1, d2, d3] => { results := [.lit (.bool false)], args := [d1, d2, d3] }
  | _ => none }
def PathRoomWrongFalsely : Prop := pathRoomRow.holds Try.pinned (OpenSpec.ofChange pathRoomWrong)

/-- 'kingpinlaw04.PathTruth': WHATEVER THE INPUT: true; the input reads as it did. -/
def pathTruthSpec : ChangeSpec := { name := "pathTruth", fn := fun _ => fun
  | [d1, d2, d3, d4] => { results := [.lit (.bool true)], args := [d1, d2, d3, d4] }
  | _ => none }
def pathTruthRow : OpenClaim := { program := "ytcfhbnfincpehaa", sum := "1a61598b633e111f07c03c5b737d19bcf7e3f0685595877a20a49c047c669d2d", func := "kingpin/kingpinlaw04.PathTruth", spec := "pathTruth", unfollowed := true, recurses := true, plainKeys := false, apart := false }
def PathTruthSaid : Prop := pathTruthRow.holds Try.pinned (OpenSpec.ofChange pathTruthSpec)

/-- ITS FALSE NEIGHBOUR: 'it returns false'. Refute it at one input. -/
def pathTruthWrong : ChangeSpec := { name := "pathTruth", fn := fun _ => fun
  | [d1, d2, d3, d4] => { results := [.lit (.bool false)], args := [d1, d2, d3, d4] }
  | _ => none }
def PathTruthWrongFalsely : Prop := pathTruthRow.holds Try.pinned (OpenSpec.ofChange pathTruthWrong)

/-- 'kingpinlaw04.PathHits': WHATEVER THE INPUT: true; the input reads as it did. -/
def pathHitsSpec : ChangeSpec := { name := "pathHits", fn := fun _ => fun
  | [d1, d2, d3, d4] => { results := [.lit (.bool true)], args := [d1, d2, d3, d4] }
  | _ => none }
def pathHitsRow : OpenClaim := { program := "ytcfhbnfincpehaa", sum := "1a61598b633e111f07c03c5b737d19bcf7e3f0685595877a20a49c047c669d2d", func := "kingpin/kingpinlaw04.PathHits", spec := "pathHits", unfollowed := true, recurses := true, plainKeys := false, apart := false }
def PathHitsSaid : Prop := pathHitsRow.holds Try.pinned (OpenSpec.ofChange pathHitsSpec)

/-- ITS FALSE NEIGHBOUR: 'it returns false'. Refute it at one input. -/
def pathHitsWrong : ChangeSpec := { name := "pathHits", fn := fun _ => fun
  | [d1, d2, d3, d4] => { results := [.lit (.bool false)], args := [d1, d2, d3, d4] }
  | _ => none }
def PathHitsWrongFalsely : Prop := pathHitsRow.holds Try.pinned (OpenSpec.ofChange pathHitsWrong)

/-- 'kingpinlaw04.PathNames': WHATEVER THE INPUT: true; the input reads as it did. -/
def pathNamesSpec : ChangeSpec := { name := "pathNames", fn := fun _ => fun
  | [] => { results := [.lit (.bool true)], args := [] }
  | _ => none }
def pathNamesRow : OpenClaim := { program := "ytcfhbnfincpehaa", sum := "1a61598b633e111f07c03c5b737d19bcf7e3f0685595877a20a49c047c669d2d", func := "kingpin/kingpinlaw04.PathNames", spec := "pathNames", unfollowed := true, recurses := true, plainKeys := false, apart := false }
def PathNamesSaid : Prop := pathNamesRow.holds Try.pinned (OpenSpec.ofChange pathNamesSpec)

/-- ITS FALSE NEIGHBOUR: 'it returns false'. Refute it at one input. -/
def pathNamesWrong : ChangeSpec := { name := "pathNames", fn := fun _ => fun
  | [] => { results := [.lit (.bool false)], args := [] }
  | _ => none }
def PathNamesWrongFalsely : Prop := pathNamesRow.holds Try.pinned (OpenSpec.ofChange pathNamesWrong)

/-- 'kingpinlaw04.PathEnds': WHATEVER THE INPUT: true; the input reads as it did. -/
def pathEndsSpec : ChangeSpec := { name := "pathEnds", fn := fun _ => fun
  | [d1, d2, d3] => { results := [.lit (.bool true)], args := [d1, d2, d3] }
  | _ => none }
def pathEndsRow : OpenClaim := { program := "ytcfhbnfincpehaa", sum := "1a61598b633e111f07c03c5b737d19bcf7e3f0685595877a20a49c047c669d2d", func := "kingpin/kingpinlaw04.PathEnds", spec := "pathEnds", unfollowed := true, recurses := true, plainKeys := false, apart := false }
def PathEndsSaid : Prop := pathEndsRow.holds Try.pinned (OpenSpec.ofChange pathEndsSpec)

/-- ITS FALSE NEIGHBOUR: 'it returns false'. Refute it at one input. -/
def pathEndsWrong : ChangeSpec := { name := "pathEnds", fn := fun _ => fun
  | [d1, d2, d3] => { results := [.lit (.bool false)], args := [d1, d2, d3] }
  | _ => none }
def PathEndsWrongFalsely : Prop := pathEndsRow.holds Try.pinned (OpenSpec.ofChange pathEndsWrong)

/- THE SECOND FORM. 'bulk': how many values and letters a reading holds, each counted each time it is reached (what is shared counts as often as it is met; a slice's spare places count too). A statement '..UptoSaid' is the law's where the arguments, and the package variables that the reading takes, are together of bulk at most 1048576: NARROWER than '..Said'. Prove '..Said' where nothing that the law and all that it calls make is longer than what came in: it says more and counts as full. Else prove '..UptoSaid'. A law counts once. -/
mutual
def uptoBulk {H : Type} : DataW H → Nat
  | .lit (.string bytes) => bytes.length + 1
  | .lit _ => 1
  | .nil => 1
  | .ptr d => uptoBulk d + 1
  | .slice elems spare => uptoBulkAll elems + uptoBulkAll spare + 1
  | .agg parts => uptoBulkAll parts + 1
  | .iface _ d => uptoBulk d + 1
  | .map entries => uptoBulkEntries entries + 1
  | .held _ => 1
def uptoBulkAll {H : Type} : List (DataW H) → Nat
  | [] => 0
  | d :: r => uptoBulk d + uptoBulkAll r
def uptoBulkEntries {H : Type} : List (Lit × DataW H) → Nat
  | [] => 0
  | x :: r => uptoBulkEntry x + uptoBulkEntries r
def uptoBulkEntry {H : Type} : Lit × DataW H → Nat
  | (.string bytes, d) => bytes.length + uptoBulk d + 1
  | (_, d) => uptoBulk d + 1
 end
def uptoSmall : (H : Type) → List (DataW H) → Bool := fun _ ds => decide (uptoBulkAll ds ≤ 1048576)
def OpenSpec.upto (s : _root_.Go.ChangeSpec) : _root_.Go.OpenSpec := { _root_.Go.OpenSpec.ofChange s with cond := some uptoSmall }

/-- 'kingpinlaw04.PathReaches', WHERE WHAT IT READS IS OF BULK AT MOST 1048576: true; the input reads as it did. -/
def pathReachesUptoRow : OpenClaim := { program := "ytcfhbnfincpehaa", sum := "1a61598b633e111f07c03c5b737d19bcf7e3f0685595877a20a49c047c669d2d", func := "kingpin/kingpinlaw04.PathReaches", spec := "pathReaches", unfollowed := true, recurses := true, plainKeys := false, apart := false, narrowed := true }
def PathReachesUptoSaid : Prop := pathReachesUptoRow.holds Try.pinned (OpenSpec.upto pathReachesSpec)

/-- 'kingpinlaw04.PathTurns', WHERE WHAT IT READS IS OF BULK AT MOST 1048576: true; the input reads as it did. -/
def pathTurnsUptoRow : OpenClaim := { program := "ytcfhbnfincpehaa", sum := "1a61598b633e111f07c03c5b737d19bcf7e3f0685595877a20a49c047c669d2d", func := "kingpin/kingpinlaw04.PathTurns", spec := "pathTurns", unfollowed := true, recurses := true, plainKeys := false, apart := false, narrowed := true }
def PathTurnsUptoSaid : Prop := pathTurnsUptoRow.holds Try.pinned (OpenSpec.upto pathTurnsSpec)

/-- 'kingpinlaw04.PathAims', WHERE WHAT IT READS IS OF BULK AT MOST 1048576: true; the input reads as it did. -/
def pathAimsUptoRow : OpenClaim := { program := "ytcfhbnfincpehaa", sum := "1a61598b633e111f07c03c5b737d19bcf7e3f0685595877a20a49c047c669d2d", func := "kingpin/kingpinlaw04.PathAims", spec := "pathAims", unfollowed := true, recurses := true, plainKeys := false, apart := false, narrowed := true }
def PathAimsUptoSaid : Prop := pathAimsUptoRow.holds Try.pinned (OpenSpec.upto pathAimsSpec)

/-- 'kingpinlaw04.PathRows', WHERE WHAT IT READS IS OF BULK AT MOST 1048576: true; the input reads as it did. -/
def pathRowsUptoRow : OpenClaim := { program := "ytcfhbnfincpehaa", sum := "1a61598b633e111f07c03c5b737d19bcf7e3f0685595877a20a49c047c669d2d", func := "kingpin/kingpinlaw04.PathRows", spec := "pathRows", unfollowed := true, recurses := true, plainKeys := false, apart := false, narrowed := true }
def PathRowsUptoSaid : Prop := pathRowsUptoRow.holds Try.pinned (OpenSpec.upto pathRowsSpec)

/-- 'kingpinlaw04.PathPlays', WHERE WHAT IT READS IS OF BULK AT MOST 1048576: true; the input reads as it did. -/
def pathPlaysUptoRow : OpenClaim := { program := "ytcfhbnfincpehaa", sum := "1a61598b633e111f07c03c5b737d19bcf7e3f0685595877a20a49c047c669d2d", func := "kingpin/kingpinlaw04.PathPlays", spec := "pathPlays", unfollowed := true, recurses := true, plainKeys := false, apart := false, narrowed := true }
def PathPlaysUptoSaid : Prop := pathPlaysUptoRow.holds Try.pinned (OpenSpec.upto pathPlaysSpec)

/-- 'kingpinlaw04.PathWider', WHERE WHAT IT READS IS OF BULK AT MOST 1048576: true; the input reads as it did. -/
def pathWiderUptoRow : OpenClaim := { program := "ytcfhbnfincpehaa", sum := "1a61598b633e111f07c03c5b737d19bcf7e3f0685595877a20a49c047c669d2d", func := "kingpin/kingpinlaw04.PathWider", spec := "pathWider", unfollowed := true, recurses := true, plainKeys := false, apart := false, narrowed := true }
def PathWiderUptoSaid : Prop := pathWiderUptoRow.holds Try.pinned (OpenSpec.upto pathWiderSpec)

/-- 'kingpinlaw04.PathStraight', WHERE WHAT IT READS IS OF BULK AT MOST 1048576: true; the input reads as it did. -/
def pathStraightUptoRow : OpenClaim := { program := "ytcfhbnfincpehaa", sum := "1a61598b633e111f07c03c5b737d19bcf7e3f0685595877a20a49c047c669d2d", func := "kingpin/kingpinlaw04.PathStraight", spec := "pathStraight", unfollowed := true, recurses := true, plainKeys := false, apart := false, narrowed := true }
def PathStraightUptoSaid : Prop := pathStraightUptoRow.holds Try.pinned (OpenSpec.upto pathStraightSpec)

/-- 'kingpinlaw04.PathTurned', WHERE WHAT IT READS IS OF BULK AT MOST 1048576: true; the input reads as it did. -/
def pathTurnedUptoRow : OpenClaim := { program := "ytcfhbnfincpehaa", sum := "1a61598b633e111f07c03c5b737d19bcf7e3f0685595877a20a49c047c669d2d", func := "kingpin/kingpinlaw04.PathTurned", spec := "pathTurned", unfollowed := true, recurses := true, plainKeys := false, apart := false, narrowed := true }
def PathTurnedUptoSaid : Prop := pathTurnedUptoRow.holds Try.pinned (OpenSpec.upto pathTurnedSpec)

/-- 'kingpinlaw04.PathRoom', WHERE WHAT IT READS IS OF BULK AT MOST 1048576: true; the input reads as it did. -/
def pathRoomUptoRow : OpenClaim := { program := "ytcfhbnfincpehaa", sum := "1a61598b633e111f07c03c5b737d19bcf7e3f0685595877a20a49c047c669d2d", func := "kingpin/kingpinlaw04.PathRoom", spec := "pathRoom", unfollowed := true, recurses := true, plainKeys := false, apart := false, narrowed := true }
def PathRoomUptoSaid : Prop := pathRoomUptoRow.holds Try.pinned (OpenSpec.upto pathRoomSpec)

/-- 'kingpinlaw04.PathTruth', WHERE WHAT IT READS IS OF BULK AT MOST 1048576: true; the input reads as it did. -/
def pathTruthUptoRow : OpenClaim := { program := "ytcfhbnfincpehaa", sum := "1a61598b633e111f07c03c5b737d19bcf7e3f0685595877a20a49c047c669d2d", func := "kingpin/kingpinlaw04.PathTruth", spec := "pathTruth", unfollowed := true, recurses := true, plainKeys := false, apart := false, narrowed := true }
def PathTruthUptoSaid : Prop := pathTruthUptoRow.holds Try.pinned (OpenSpec.upto pathTruthSpec)

/-- 'kingpinlaw04.PathHits', WHERE WHAT IT READS IS OF BULK AT MOST 1048576: true; the input reads as it did. -/
def pathHitsUptoRow : OpenClaim := { program := "ytcfhbnfincpehaa", sum := "1a61598b633e111f07c03c5b737d19bcf7e3f0685595877a20a49c047c669d2d", func := "kingpin/kingpinlaw04.PathHits", spec := "pathHits", unfollowed := true, recurses := true, plainKeys := false, apart := false, narrowed := true }
def PathHitsUptoSaid : Prop := pathHitsUptoRow.holds Try.pinned (OpenSpec.upto pathHitsSpec)

/-- 'kingpinlaw04.PathNames', WHERE WHAT IT READS IS OF BULK AT MOST 1048576: true; the input reads as it did. -/
def pathNamesUptoRow : OpenClaim := { program := "ytcfhbnfincpehaa", sum := "1a61598b633e111f07c03c5b737d19bcf7e3f0685595877a20a49c047c669d2d", func := "kingpin/kingpinlaw04.PathNames", spec := "pathNames", unfollowed := true, recurses := true, plainKeys := false, apart := false, narrowed := true }
def PathNamesUptoSaid : Prop := pathNamesUptoRow.holds Try.pinned (OpenSpec.upto pathNamesSpec)

/-- 'kingpinlaw04.PathEnds', WHERE WHAT IT READS IS OF BULK AT MOST 1048576: true; the input reads as it did. -/
def pathEndsUptoRow : OpenClaim := { program := "ytcfhbnfincpehaa", sum := "1a61598b633e111f07c03c5b737d19bcf7e3f0685595877a20a49c047c669d2d", func := "kingpin/kingpinlaw04.PathEnds", spec := "pathEnds", unfollowed := true, recurses := true, plainKeys := false, apart := false, narrowed := true }
def PathEndsUptoSaid : Prop := pathEndsUptoRow.holds Try.pinned (OpenSpec.upto pathEndsSpec)

end Rows
end Go.Proofs.Ytcfhbnfincpehaa
