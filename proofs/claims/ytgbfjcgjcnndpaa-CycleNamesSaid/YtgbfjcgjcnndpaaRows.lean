/-
  No cell of these rows narrows 'for every input' (looked for: loops, veiled, ifaces, maps, wideKeys, modest, calm, conditions, laid).
  DERIVED. THE GIVEN ROWS OF THIS SEAT. 14 by the template 'for every input the law returns true; each argument reads behind the call as it read before'; 0 by the template 'total and deterministic' (their statements: YtgbfjcgjcnndpaaTotals.lean).
  GIVEN WITH THE SEED: the statements are not yours to turn. If you find one false, say at which input.
  Laid BY PROGRAM, IN A SANDBOX (cutbox-rows.mjs): the forced cells as the released guide's own fill.sh prints them over the translation bdae4b7c47e61af7… (all of the seat's roots in one cut). By AI agents, Wed Nov 11 2026. No macro, syntax, notation, axiom, sorry.
-/
import Derived.Test.YtgbfjcgjcnndpaaChecked
import GoSem.Claim
import GoSem.ClaimJoined
import GoSem.ClaimMapViews
import Derived.JoinedTies
import Derived.KernelRfl
namespace Go.Proofs.Ytgbfjcgjcnndpaa
/- THE CELL 'sum', in the pinned program and in every row, IS THE sha256 OF THE DUMP (.gsa) THAT YtgbfjcgjcnndpaaProg.lean LOADS. Nothing in Lean hashes anything: it is a label: what it is worth is what the hold of that sum in a sandbox is worth. -/
noncomputable def Try.pinned : Pinned := { name := "ytgbfjcgjcnndpaa", sum := "bdae4b7c47e61af73ed34b9cc910b084ea32cf028755cb03224a0df0b4838178", checked := Try.checked }
namespace Rows
def none {H : Type} : Left H := { results := [], args := [] }

/-- 'kingpinlaw05.CycleStands': WHATEVER THE INPUT: true; the input reads as it did. -/
def cycleStandsSpec : ChangeSpec := { name := "cycleStands", fn := fun _ => fun
  | [d] => { results := [.lit (.bool true)], args := [d] }
  | _ => none }
def cycleStandsRow : OpenClaim := { program := "ytgbfjcgjcnndpaa", sum := "bdae4b7c47e61af73ed34b9cc910b084ea32cf028755cb03224a0df0b4838178", func := "kingpin/kingpinlaw05.CycleStands", spec := "cycleStands", unfollowed := true, recurses := true, plainKeys := false, apart := false }
def CycleStandsSaid : Prop := cycleStandsRow.holds Try.pinned (OpenSpec.ofChange cycleStandsSpec)

/-- ITS FALSE NEIGHBOUR: 'it returns false'. Refute it at one input. -/
def cycleStandsWrong : ChangeSpec := { name := "cycleStands", fn := fun _ => fun
  | [d] => { results := [.lit (.bool false)], args := [d] }
  | _ => none }
def CycleStandsWrongFalsely : Prop := cycleStandsRow.holds Try.pinned (OpenSpec.ofChange cycleStandsWrong)

/-- 'kingpinlaw05.CycleDangers': WHATEVER THE INPUT: true; the input reads as it did. -/
def cycleDangersSpec : ChangeSpec := { name := "cycleDangers", fn := fun _ => fun
  | [d] => { results := [.lit (.bool true)], args := [d] }
  | _ => none }
def cycleDangersRow : OpenClaim := { program := "ytgbfjcgjcnndpaa", sum := "bdae4b7c47e61af73ed34b9cc910b084ea32cf028755cb03224a0df0b4838178", func := "kingpin/kingpinlaw05.CycleDangers", spec := "cycleDangers", unfollowed := true, recurses := true, plainKeys := false, apart := false }
def CycleDangersSaid : Prop := cycleDangersRow.holds Try.pinned (OpenSpec.ofChange cycleDangersSpec)

/-- ITS FALSE NEIGHBOUR: 'it returns false'. Refute it at one input. -/
def cycleDangersWrong : ChangeSpec := { name := "cycleDangers", fn := fun _ => fun
  | [d] => { results := [.lit (.bool false)], args := [d] }
  | _ => none }
def CycleDangersWrongFalsely : Prop := cycleDangersRow.holds Try.pinned (OpenSpec.ofChange cycleDangersWrong)

/-- 'kingpinlaw05.CycleLocks': WHATEVER THE INPUT: true; the input reads as it did. -/
def cycleLocksSpec : ChangeSpec := { name := "cycleLocks", fn := fun _ => fun
  | [d] => { results := [.lit (.bool true)], args := [d] }
  | _ => none }
def cycleLocksRow : OpenClaim := { program := "ytgbfjcgjcnndpaa", sum := "bdae4b7c47e61af73ed34b9cc910b084ea32cf028755cb03224a0df0b4838178", func := "kingpin/kingpinlaw05.CycleLocks", spec := "cycleLocks", unfollowed := true, recurses := true, plainKeys := false, apart := false }
def CycleLocksSaid : Prop := cycleLocksRow.holds Try.pinned (OpenSpec.ofChange cycleLocksSpec)

/-- ITS FALSE NEIGHBOUR: 'it returns false'. Refute it at one input. -/
def cycleLocksWrong : ChangeSpec := { name := "cycleLocks", fn := fun _ => fun
  | [d] => { results := [.lit (.bool false)], args := [d] }
  | _ => none }
def CycleLocksWrongFalsely : Prop := cycleLocksRow.holds Try.pinned (OpenSpec.ofChange cycleLocksWrong)

/-- 'kingpinlaw05.CycleEnds': WHATEVER THE INPUT: true; the input reads as it did. -/
def cycleEndsSpec : ChangeSpec := { name := "cycleEnds", fn := fun _ => fun
  | [d1, d2, d3] => { results := [.lit (.bool true)], args := [d1, d2, d3] }
  | _ => none }
def cycleEndsRow : OpenClaim := { program := "ytgbfjcgjcnndpaa", sum := "bdae4b7c47e61af73ed34b9cc910b084ea32cf028755cb03224a0df0b4838178", func := "kingpin/kingpinlaw05.CycleEnds", spec := "cycleEnds", unfollowed := true, recurses := true, plainKeys := false, apart := false }
def CycleEndsSaid : Prop := cycleEndsRow.holds Try.pinned (OpenSpec.ofChange cycleEndsSpec)

/-- ITS FALSE NEIGHBOUR: 'it returns false'. Refute it at one input. -/
def cycleEndsWrong : ChangeSpec := { name := "cycleEnds", fn := fun _ => fun
  | [d1, d2, d3] => { results := [.lit (.bool false)], args := [d1, d2, d3] }
  | _ => none }
def CycleEndsWrongFalsely : Prop := cycleEndsRow.holds Try.pinned (OpenSpec.ofChange cycleEndsWrong)

/-- 'kingpinlaw05.CycleMore': WHATEVER THE INPUT: true; the input reads as it did. -/
def cycleMoreSpec : ChangeSpec := { name := "cycleMore", fn := fun _ => fun
  | [d1, d2, d3, d4] => { results := [.lit (.bool true)], args := [d1, d2, d3, d4] }
  | _ => none }
def cycleMoreRow : OpenClaim := { program := "ytgbfjcgjcnndpaa", sum := "bdae4b7c47e61af73ed34b9cc910b084ea32cf028755cb03224a0df0b4838178", func := "kingpin/kingpinlaw05.CycleMore", spec := "cycleMore", unfollowed := true, recurses := true, plainKeys := false, apart := false }
def CycleMoreSaid : Prop := cycleMoreRow.holds Try.pinned (OpenSpec.ofChange cycleMoreSpec)

/-- ITS FALSE NEIGHBOUR: 'it returns false'. Refute it at one input. -/
def cycleMoreWrong : ChangeSpec := { name := "cycleMore", fn := fun _ => fun
  | [d1, d2, d3, d4] => { results := [.lit (.bool false)], args := [d1, d2, d3, d4] }
  | _ => none }
def CycleMoreWrongFalsely : Prop := cycleMoreRow.holds Try.pinned (OpenSpec.ofChange cycleMoreWrong)

/-- 'kingpinlaw05.CycleFewest': WHATEVER THE INPUT: true; the input reads as it did. -/
def cycleFewestSpec : ChangeSpec := { name := "cycleFewest", fn := fun _ => fun
  | [d] => { results := [.lit (.bool true)], args := [d] }
  | _ => none }
def cycleFewestRow : OpenClaim := { program := "ytgbfjcgjcnndpaa", sum := "bdae4b7c47e61af73ed34b9cc910b084ea32cf028755cb03224a0df0b4838178", func := "kingpin/kingpinlaw05.CycleFewest", spec := "cycleFewest", unfollowed := true, recurses := true, plainKeys := false, apart := false }
def CycleFewestSaid : Prop := cycleFewestRow.holds Try.pinned (OpenSpec.ofChange cycleFewestSpec)

/-- ITS FALSE NEIGHBOUR: 'it returns false'. Refute it at one input. -/
def cycleFewestWrong : ChangeSpec := { name := "cycleFewest", fn := fun _ => fun
  | [d] => { results := [.lit (.bool false)], args := [d] }
  | _ => none }
def CycleFewestWrongFalsely : Prop := cycleFewestRow.holds Try.pinned (OpenSpec.ofChange cycleFewestWrong)

/-- 'kingpinlaw05.CycleNothing': WHATEVER THE INPUT: true; the input reads as it did. -/
def cycleNothingSpec : ChangeSpec := { name := "cycleNothing", fn := fun _ => fun
  | [d] => { results := [.lit (.bool true)], args := [d] }
  | _ => none }
def cycleNothingRow : OpenClaim := { program := "ytgbfjcgjcnndpaa", sum := "bdae4b7c47e61af73ed34b9cc910b084ea32cf028755cb03224a0df0b4838178", func := "kingpin/kingpinlaw05.CycleNothing", spec := "cycleNothing", unfollowed := true, recurses := true, plainKeys := false, apart := false }
def CycleNothingSaid : Prop := cycleNothingRow.holds Try.pinned (OpenSpec.ofChange cycleNothingSpec)

/-- ITS FALSE NEIGHBOUR: 'it returns false'. Refute it at one input. -/
def cycleNothingWrong : ChangeSpec := { name := "cycleNothing", fn := fun _ => fun
  | [d] => { results := [.lit (.bool false)], args := [d] }
  | _ => none }
def CycleNothingWrongFalsely : Prop := cycleNothingRow.holds Try.pinned (OpenSpec.ofChange cycleNothingWrong)

/-- 'kingpinlaw05.CycleOthers': WHATEVER THE INPUT: true; the input reads as it did. -/
def cycleOthersSpec : ChangeSpec := { name := "cycleOthers", fn := fun _ => fun
  | [d1, d2] => { results := [.lit (.bool true)], args := [d1, d2] }
  | _ => none }
def cycleOthersRow : OpenClaim := { program := "ytgbfjcgjcnndpaa", sum := "bdae4b7c47e61af73ed34b9cc910b084ea32cf028755cb03224a0df0b4838178", func := "kingpin/kingpinlaw05.CycleOthers", spec := "cycleOthers", unfollowed := true, recurses := true, plainKeys := false, apart := false }
def CycleOthersSaid : Prop := cycleOthersRow.holds Try.pinned (OpenSpec.ofChange cycleOthersSpec)

/-- ITS FALSE NEIGHBOUR: 'it returns false'. Refute it at one input. -/
def cycleOthersWrong : ChangeSpec := { name := "cycleOthers", fn := fun _ => fun
  | [d1, d2] => { results := [.lit (.bool false)], args := [d1, d2] }
  | _ => none }
def CycleOthersWrongFalsely : Prop := cycleOthersRow.holds Try.pinned (OpenSpec.ofChange cycleOthersWrong)

/-- 'kingpinlaw05.CycleWays': WHATEVER THE INPUT: true; the input reads as it did. -/
def cycleWaysSpec : ChangeSpec := { name := "cycleWays", fn := fun _ => fun
  | [d1, d2] => { results := [.lit (.bool true)], args := [d1, d2] }
  | _ => none }
def cycleWaysRow : OpenClaim := { program := "ytgbfjcgjcnndpaa", sum := "bdae4b7c47e61af73ed34b9cc910b084ea32cf028755cb03224a0df0b4838178", func := "kingpin/kingpinlaw05.CycleWays", spec := "cycleWays", unfollowed := true, recurses := true, plainKeys := false, apart := false }
def CycleWaysSaid : Prop := cycleWaysRow.holds Try.pinned (OpenSpec.ofChange cycleWaysSpec)

/-- ITS FALSE NEIGHBOUR: 'it returns false'. Refute it at one input. -/
def cycleWaysWrong : ChangeSpec := { name := "cycleWays", fn := fun _ => fun
  | [d1, d2] => { results := [.lit (.bool false)], args := [d1, d2] }
  | _ => none }
def CycleWaysWrongFalsely : Prop := cycleWaysRow.holds Try.pinned (OpenSpec.ofChange cycleWaysWrong)

/-- 'kingpinlaw05.CycleLost': WHATEVER THE INPUT: true; the input reads as it did. -/
def cycleLostSpec : ChangeSpec := { name := "cycleLost", fn := fun _ => fun
  | [d1, d2, d3, d4] => { results := [.lit (.bool true)], args := [d1, d2, d3, d4] }
  | _ => none }
def cycleLostRow : OpenClaim := { program := "ytgbfjcgjcnndpaa", sum := "bdae4b7c47e61af73ed34b9cc910b084ea32cf028755cb03224a0df0b4838178", func := "kingpin/kingpinlaw05.CycleLost", spec := "cycleLost", unfollowed := true, recurses := true, plainKeys := false, apart := false }
def CycleLostSaid : Prop := cycleLostRow.holds Try.pinned (OpenSpec.ofChange cycleLostSpec)

/-- ITS FALSE NEIGHBOUR: 'it returns false'. Refute it at one input. -/
def cycleLostWrong : ChangeSpec := { name := "cycleLost", fn := fun _ => fun
  | [d1, d2, d3, d4] => { results := [.lit (.bool false)], args := [d1, d2, d3, d4] }
  | _ => none }
def CycleLostWrongFalsely : Prop := cycleLostRow.holds Try.pinned (OpenSpec.ofChange cycleLostWrong)

/-- 'kingpinlaw05.CycleProves': WHATEVER THE INPUT: true; the input reads as it did. -/
def cycleProvesSpec : ChangeSpec := { name := "cycleProves", fn := fun _ => fun
  | [d1, d2, d3] => { results := [.lit (.bool true)], args := [d1, d2, d3] }
  | _ => none }
def cycleProvesRow : OpenClaim := { program := "ytgbfjcgjcnndpaa", sum := "bdae4b7c47e61af73ed34b9cc910b084ea32cf028755cb03224a0df0b4838178", func := "kingpin/kingpinlaw05.CycleProves", spec := "cycleProves", unfollowed := true, recurses := true, plainKeys := false, apart := false }
def CycleProvesSaid : Prop := cycleProvesRow.holds Try.pinned (OpenSpec.ofChange cycleProvesSpec)

/-- ITS FALSE NEIGHBOUR: 'it returns false'. Refute it at one input. -/
def cycleProvesWrong : ChangeSpec := { name := "cycleProves", fn := fun _ => fun
  | [d1, d2, d3] => { results := [.lit (.bool false)], args := [d1, d2, d3] }
  | _ => none }
def CycleProvesWrongFalsely : Prop := cycleProvesRow.holds Try.pinned (OpenSpec.ofChange cycleProvesWrong)

/-- 'kingpinlaw05.CycleNames': WHATEVER THE INPUT: true; the input reads as it did. -/
def cycleNamesSpec : ChangeSpec := { name := "cycleNames", fn := fun _ => fun
  | [] => { results := [.lit (.bool true)], args := [] }
  | _ => none }
def cycleNamesRow : OpenClaim := { program := "ytgbfjcgjcnndpaa", sum := "bdae4b7c47e61af73ed34b9cc910b084ea32cf028755cb03224a0df0b4838178", func := "kingpin/kingpinlaw05.CycleNames", spec := "cycleNames", unfollowed := true, recurses := true, plainKeys := false, apart := false }
def CycleNamesSaid : Prop := cycleNamesRow.holds Try.pinned (OpenSpec.ofChange cycleNamesSpec)

/-- ITS FALSE NEIGHBOUR: 'it returns false'. Refute it at one input. -/
def cycleNamesWrong : ChangeSpec := { name := "cycleNames", fn := fun _ => fun
  | [] => { results := [.lit (.bool false)], args := [] }
  | _ => none }
def CycleNamesWrongFalsely : Prop := cycleNamesRow.holds Try.pinned (OpenSpec.ofChange cycleNamesWrong)

/-- 'kingpinlaw05.CycleNever': WHATEVER THE INPUT: true; the input reads as it did. -/
def cycleNeverSpec : ChangeSpec := { name := "cycleNever", fn := fun _ => fun
  | [d1, d2] => { results := [.lit (.bool true)], args := [d1, d2] }
  | _ => none }
def cycleNeverRow : OpenClaim := { program := "ytgbfjcgjcnndpaa", sum := "bdae4b7c47e61af73ed34b9cc910b084ea32cf028755cb03224a0df0b4838178", func := "kingpin/kingpinlaw05.CycleNever", spec := "cycleNever", unfollowed := true, recurses := true, plainKeys := false, apart := false }
def CycleNeverSaid : Prop := cycleNeverRow.holds Try.pinned (OpenSpec.ofChange cycleNeverSpec)

/-- ITS FALSE NEIGHBOUR: 'it returns false'. Refute it at one input. -/
def cycleNeverWrong : ChangeSpec := { name := "cycleNever", fn := fun _ => fun
  | [d1, d2] => { results := [.lit (.bool false)], args := [d1, d2] }
  | _ => none }
def CycleNeverWrongFalsely : Prop := cycleNeverRow.holds Try.pinned (OpenSpec.ofChange cycleNeverWrong)

/-- 'kingpinlaw05.CycleRuns': WHATEVER THE INPUT: true; the input reads as it did. -/
def cycleRunsSpec : ChangeSpec := { name := "cycleRuns", fn := fun _ => fun
  | [d1, d2] => { results := [.lit (.bool true)], args := [d1, d2] }
  | _ => none }
def cycleRunsRow : OpenClaim := { program := "ytgbfjcgjcnndpaa", sum := "bdae4b7c47e61af73ed34b9cc910b084ea32cf028755cb03224a0df0b4838178", func := "kingpin/kingpinlaw05.CycleRuns", spec := "cycleRuns", unfollowed := true, recurses := true, plainKeys := false, apart := false }
def CycleRunsSaid : Prop := cycleRunsRow.holds Try.pinned (OpenSpec.ofChange cycleRunsSpec)

/-- ITS FALSE NEIGHBOUR: 'it returns false'. Refute it at one input. -/
def cycleRunsWrong : ChangeSpec := { name := "cycleRuns", fn := fun _ => fun
  | [d1, d2] => { results := [.lit (.bool false)], args := [d1, d2] }
  | _ => none }
def CycleRunsWrongFalsely : Prop := cycleRunsRow.holds Try.pinned (OpenSpec.ofChange cycleRunsWrong)

/- THE SECOND FORM. 'bulk': how many values and letters a reading holds, each counted each time it is reached (what is shared counts as often as it is met; a slice's spare places count too). A statement '..UptoSaid' is the law's where the arguments, and the package variables that the reading takes, are together of bulk at most 1048576: NARROWER than '..Said'. Prove '..Said' where nothing that the law and all that it calls make is longer than what came in: it says more and counts as full. Else prove '..UptoSaid'. A law counts once. -/
mutual
def uptoBulk {H : Type} : DataW H → Nat
  | .lit (.string bytes) => bytes.length + 1
  | .lit _ => 1
  | .nil => 1
  | .ptr d => uptoBulk d + 1
  | .slice elems spare => uptoBulkAll elems + uptoBulkAll spare + 1
  | .agg parts => uptoBulkAll parts + 1
  | .iface _ d => uptoBulk d + 1
  | .map entries => uptoBulkEntries entries + 1
  | .held _ => 1
def uptoBulkAll {H : Type} : List (DataW H) → Nat
  | [] => 0
  | d :: r => uptoBulk d + uptoBulkAll r
def uptoBulkEntries {H : Type} : List (Lit × DataW H) → Nat
  | [] => 0
  | x :: r => uptoBulkEntry x + uptoBulkEntries r
def uptoBulkEntry {H : Type} : Lit × DataW H → Nat
  | (.string bytes, d) => bytes.length + uptoBulk d + 1
  | (_, d) => uptoBulk d + 1
 end
def uptoSmall : (H : Type) → List (DataW H) → Bool := fun _ ds => decide (uptoBulkAll ds ≤ 1048576)
def OpenSpec.upto (s : _root_.Go.ChangeSpec) : _root_.Go.OpenSpec := { _root_.Go.OpenSpec.ofChange s with cond := some uptoSmall }

/-- 'kingpinlaw05.CycleStands', WHERE WHAT IT READS IS OF BULK AT MOST 1048576: true; the input reads as it did. -/
def cycleStandsUptoRow : OpenClaim := { program := "ytgbfjcgjcnndpaa", sum := "bdae4b7c47e61af73ed34b9cc910b084ea32cf028755cb03224a0df0b4838178", func := "kingpin/kingpinlaw05.CycleStands", spec := "cycleStands", unfollowed := true, recurses := true, plainKeys := false, apart := false, narrowed := true }
def CycleStandsUptoSaid : Prop := cycleStandsUptoRow.holds Try.pinned (OpenSpec.upto cycleStandsSpec)

/-- 'kingpinlaw05.CycleDangers', WHERE WHAT IT READS IS OF BULK AT MOST 1048576: true; the input reads as it did. -/
def cycleDangersUptoRow : OpenClaim := { program := "ytgbfjcgjcnndpaa", sum := "bdae4b7c47e61af73ed34b9cc910b084ea32cf028755cb03224a0df0b4838178", func := "kingpin/kingpinlaw05.CycleDangers", spec := "cycleDangers", unfollowed := true, recurses := true, plainKeys := false, apart := false, narrowed := true }
def CycleDangersUptoSaid : Prop := cycleDangersUptoRow.holds Try.pinned (OpenSpec.upto cycleDangersSpec)

/-- 'kingpinlaw05.CycleLocks', WHERE WHAT IT READS IS OF BULK AT MOST 1048576: true; the input reads as it did. -/
def cycleLocksUptoRow : OpenClaim := { program := "ytgbfjcgjcnndpaa", sum := "bdae4b7c47e61af73ed34b9cc910b084ea32cf028755cb03224a0df0b4838178", func := "kingpin/kingpinlaw05.CycleLocks", spec := "cycleLocks", unfollowed := true, recurses := true, plainKeys := false, apart := false, narrowed := true }
def CycleLocksUptoSaid : Prop := cycleLocksUptoRow.holds Try.pinned (OpenSpec.upto cycleLocksSpec)

/-- 'kingpinlaw05.CycleEnds', WHERE WHAT IT READS IS OF BULK AT MOST 1048576: true; the input reads as it did. -/
def cycleEndsUptoRow : OpenClaim := { program := "ytgbfjcgjcnndpaa", sum := "bdae4b7c47e61af73ed34b9cc910b084ea32cf028755cb03224a0df0b4838178", func := "kingpin/kingpinlaw05.CycleEnds", spec := "cycleEnds", unfollowed := true, recurses := true, plainKeys := false, apart := false, narrowed := true }
def CycleEndsUptoSaid : Prop := cycleEndsUptoRow.holds Try.pinned (OpenSpec.upto cycleEndsSpec)

/-- 'kingpinlaw05.CycleMore', WHERE WHAT IT READS IS OF BULK AT MOST 1048576: true; the input reads as it did. -/
def cycleMoreUptoRow : OpenClaim := { program := "ytgbfjcgjcnndpaa", sum := "bdae4b7c47e61af73ed34b9cc910b084ea32cf028755cb03224a0df0b4838178", func := "kingpin/kingpinlaw05.CycleMore", spec := "cycleMore", unfollowed := true, recurses := true, plainKeys := false, apart := false, narrowed := true }
def CycleMoreUptoSaid : Prop := cycleMoreUptoRow.holds Try.pinned (OpenSpec.upto cycleMoreSpec)

/-- 'kingpinlaw05.CycleFewest', WHERE WHAT IT READS IS OF BULK AT MOST 1048576: true; the input reads as it did. -/
def cycleFewestUptoRow : OpenClaim := { program := "ytgbfjcgjcnndpaa", sum := "bdae4b7c47e61af73ed34b9cc910b084ea32cf028755cb03224a0df0b4838178", func := "kingpin/kingpinlaw05.CycleFewest", spec := "cycleFewest", unfollowed := true, recurses := true, plainKeys := false, apart := false, narrowed := true }
def CycleFewestUptoSaid : Prop := cycleFewestUptoRow.holds Try.pinned (OpenSpec.upto cycleFewestSpec)

/-- 'kingpinlaw05.CycleNothing', WHERE WHAT IT READS IS OF BULK AT MOST 1048576: true; the input reads as it did. -/
def cycleNothingUptoRow : OpenClaim := { program := "ytgbfjcgjcnndpaa", sum := "bdae4b7c47e61af73ed34b9cc910b084ea32cf028755cb03224a0df0b4838178", func := "kingpin/kingpinlaw05.CycleNothing", spec := "cycleNothing", unfollowed := true, recurses := true, plainKeys := false, apart := false, narrowed := true }
def CycleNothingUptoSaid : Prop := cycleNothingUptoRow.holds Try.pinned (OpenSpec.upto cycleNothingSpec)

/-- 'kingpinlaw05.CycleOthers', WHERE WHAT IT READS IS OF BULK AT MOST 1048576: true; the input reads as it did. -/
def cycleOthersUptoRow : OpenClaim := { program := "ytgbfjcgjcnndpaa", sum := "bdae4b7c47e61af73ed34b9cc910b084ea32cf028755cb03224a0df0b4838178", func := "kingpin/kingpinlaw05.CycleOthers", spec := "cycleOthers", unfollowed := true, recurses := true, plainKeys := false, apart := false, narrowed := true }
def CycleOthersUptoSaid : Prop := cycleOthersUptoRow.holds Try.pinned (OpenSpec.upto cycleOthersSpec)

/-- 'kingpinlaw05.CycleWays', WHERE WHAT IT READS IS OF BULK AT MOST 1048576: true; the input reads as it did. -/
def cycleWaysUptoRow : OpenClaim := { program := "ytgbfjcgjcnndpaa", sum := "bdae4b7c47e61af73ed34b9cc910b084ea32cf028755cb03224a0df0b4838178", func := "kingpin/kingpinlaw05.CycleWays", spec := "cycleWays", unfollowed := true, recurses := true, plainKeys := false, apart := false, narrowed := true }
def CycleWaysUptoSaid : Prop := cycleWaysUptoRow.holds Try.pinned (OpenSpec.upto cycleWaysSpec)

/-- 'kingpinlaw05.CycleLost', WHERE WHAT IT READS IS OF BULK AT MOST 1048576: true; the input reads as it did. -/
def cycleLostUptoRow : OpenClaim := { program := "ytgbfjcgjcnndpaa", sum := "bdae4b7c47e61af73ed34b9cc910b084ea32cf028755cb03224a0df0b4838178", func := "kingpin/kingpinlaw05.CycleLost", spec := "cycleLost", unfollowed := true, recurses := true, plainKeys := false, apart := false, narrowed := true }
def CycleLostUptoSaid : Prop := cycleLostUptoRow.holds Try.pinned (OpenSpec.upto cycleLostSpec)

/-- 'kingpinlaw05.CycleProves', WHERE WHAT IT READS IS OF BULK AT MOST 1048576: true; the input reads as it did. -/
def cycleProvesUptoRow : OpenClaim := { program := "ytgbfjcgjcnndpaa", sum := "bdae4b7c47e61af73ed34b9cc910b084ea32cf028755cb03224a0df0b4838178", func := "kingpin/kingpinlaw05.CycleProves", spec := "cycleProves", unfollowed := true, recurses := true, plainKeys := false, apart := false, narrowed := true }
def CycleProvesUptoSaid : Prop := cycleProvesUptoRow.holds Try.pinned (OpenSpec.upto cycleProvesSpec)

/-- 'kingpinlaw05.CycleNames', WHERE WHAT IT READS IS OF BULK AT MOST 1048576: true; the input reads as it did. -/
def cycleNamesUptoRow : OpenClaim := { program := "ytgbfjcgjcnndpaa", sum := "bdae4b7c47e61af73ed34b9cc910b084ea32cf028755cb03224a0df0b4838178", func := "kingpin/kingpinlaw05.CycleNames", spec := "cycleNames", unfollowed := true, recurses := true, plainKeys := false, apart := false, narrowed := true }
def CycleNamesUptoSaid : Prop := cycleNamesUptoRow.holds Try.pinned (OpenSpec.upto cycleNamesSpec)

/-- 'kingpinlaw05.CycleNever', WHERE WHAT IT READS IS OF BULK AT MOST 1048576: true; the input reads as it did. -/
def cycleNeverUptoRow : OpenClaim := { program := "ytgbfjcgjcnndpaa", sum := "bdae4b7c47e61af73ed34b9cc910b084ea32cf028755cb03224a0df0b4838178", func := "kingpin/kingpinlaw05.CycleNever", spec := "cycleNever", unfollowed := true, recurses := true, plainKeys := false, apart := false, narrowed := true }
def CycleNeverUptoSaid : Prop := cycleNeverUptoRow.holds Try.pinned (OpenSpec.upto cycleNeverSpec)

/-- 'kingpinlaw05.CycleRuns', WHERE WHAT IT READS IS OF BULK AT MOST 1048576: true; the input reads as it did. -/
def cycleRunsUptoRow : OpenClaim := { program := "ytgbfjcgjcnndpaa", sum := "bdae4b7c47e61af73ed34b9cc910b084ea32cf028755cb03224a0df0b4838178", func := "kingpin/kingpinlaw05.CycleRuns", spec := "cycleRuns", unfollowed := true, recurses := true, plainKeys := false, apart := false, narrowed := true }
def CycleRunsUptoSaid : Prop := cycleRunsUptoRow.holds Try.pinned (OpenSpec.upto cycleRunsSpec)

end Rows
end Go.Proofs.Ytgbfjcgjcnndpaa
