/-
  No cell of these rows narrows 'for every input' (looked for: loops, veiled, ifaces, maps, wideKeys, modest, calm, conditions, laid).
  DERIVED. THE GIVEN ROWS OF THIS SEAT. 13 by the template 'for every input the law returns true; each argument reads behind the call as it read before'; 0 by the template 'total and deterministic' (their statements: YtjbmkdbgobmclaaTotals.lean).
  GIVEN WITH THE SEED: the statements are not yours to turn. If you find one false, say at which input.
  Laid BY PROGRAM, IN A SANDBOX (cutbox-rows.mjs): the forced cells as the released guide's own fill.sh prints them over the translation afde174d558eec7b… (all of the seat's roots in one cut). By AI agents, Wed Nov 11 2026. No macro, syntax, notation, axiom, sorry.
-/
import Derived.Test.YtjbmkdbgobmclaaChecked
import GoSem.Claim
import GoSem.ClaimJoined
import GoSem.ClaimMapViews
import Derived.JoinedTies
import Derived.KernelRfl
namespace Go.Proofs.Ytjbmkdbgobmclaa
/- THE CELL 'sum', in the pinned program and in every row, IS THE sha256 OF THE DUMP (.gsa) THAT YtjbmkdbgobmclaaProg.lean LOADS. Nothing in Lean hashes anything: it is a label: what it is worth is what the hold of that sum in a sandbox is worth. -/
noncomputable def Try.pinned : Pinned := { name := "ytjbmkdbgobmclaa", sum := "afde174d558eec7bb0c71f46e749bf82f8c61087b7a3c45f3055f646ce1bb176", checked := Try.checked }
namespace Rows
def none {H : Type} : Left H := { results := [], args := [] }

/-- 'kingpinlaw11.BillShares': WHATEVER THE INPUT: true; the input reads as it did. -/
def billSharesSpec : ChangeSpec := { name := "billShares", fn := fun _ => fun
  | [d1, d2] => { results := [.lit (.bool true)], args := [d1, d2] }
  | _ => none }
def billSharesRow : OpenClaim := { program := "ytjbmkdbgobmclaa", sum := "afde174d558eec7bb0c71f46e749bf82f8c61087b7a3c45f3055f646ce1bb176", func := "kingpin/kingpinlaw11.BillShares", spec := "billShares", unfollowed := true, recurses := true, plainKeys := false, apart := false }
def BillSharesSaid : Prop := billSharesRow.holds Try.pinned (OpenSpec.ofChange billSharesSpec)

/-- ITS FALSE NEIGHBOUR: 'it returns false'. Refute it at one input. -/
def billSharesWrong : ChangeSpec := { name := "billShares", fn := fun _ => fun
  | [d1, d2] => { results := [.lit (.bool false)], args := [d1, d2] }
  | _ => none }
def BillSharesWrongFalsely : Prop := billSharesRow.holds Try.pinned (OpenSpec.ofChange billSharesWrong)

/-- 'kingpinlaw11.BillTakes': WHATEVER THE INPUT: true; the input reads as it did. -/
def billTakesSpec : ChangeSpec := { name := "billTakes", fn := fun _ => fun
  | [d1, d2, d3] => { results := [.lit (.bool true)], args := [d1, d2, d3] }
  | _ => none }
def billTakesRow : OpenClaim := { program := "ytjbmkdbgobmclaa", sum := "afde174d558eec7bb0c71f46e749bf82f8c61087b7a3c45f3055f646ce1bb176", func := "kingpin/kingpinlaw11.BillTakes", spec := "billTakes", unfollowed := true, recurses := true, plainKeys := false, apart := false }
def BillTakesSaid : Prop := billTakesRow.holds Try.pinned (OpenSpec.ofChange billTakesSpec)

/-- ITS FALSE NEIGHBOUR: 'it returns false'. Refute it at one input. -/
def billTakesWrong : ChangeSpec := { name := "billTakes", fn := fun _ => fun
  | [d1, d2, d3] => { results := [.lit (.bool false)], args := [d1, d2, d3] }
  | _ => none }
def BillTakesWrongFalsely : Prop := billTakesRow.holds Try.pinned (OpenSpec.ofChange billTakesWrong)

/-- 'kingpinlaw11.BillMore': WHATEVER THE INPUT: true; the input reads as it did. -/
def billMoreSpec : ChangeSpec := { name := "billMore", fn := fun _ => fun
  | [d1, d2, d3, d4, d5, d6] => { results := [.lit (.bool true)], args := [d1, d2, d3, d4, d5, d6] }
  | _ => none }
def billMoreRow : OpenClaim := { program := "ytjbmkdbgobmclaa", sum := "afde174d558eec7bb0c71f46e749bf82f8c61087b7a3c45f3055f646ce1bb176", func := "kingpin/kingpinlaw11.BillMore", spec := "billMore", unfollowed := true, recurses := true, plainKeys := false, apart := false }
def BillMoreSaid : Prop := billMoreRow.holds Try.pinned (OpenSpec.ofChange billMoreSpec)

/-- ITS FALSE NEIGHBOUR: 'it returns false'. Refute it at one input. -/
def billMoreWrong : ChangeSpec := { name := "billMore", fn := fun _ => fun
  | [d1, d2, d3, d4, d5, d6] => { results := [.lit (.bool false)], args := [d1, d2, d3, d4, d5, d6] }
  | _ => none }
def BillMoreWrongFalsely : Prop := billMoreRow.holds Try.pinned (OpenSpec.ofChange billMoreWrong)

/-- 'kingpinlaw11.BillCoin': WHATEVER THE INPUT: true; the input reads as it did. -/
def billCoinSpec : ChangeSpec := { name := "billCoin", fn := fun _ => fun
  | [d1, d2] => { results := [.lit (.bool true)], args := [d1, d2] }
  | _ => none }
def billCoinRow : OpenClaim := { program := "ytjbmkdbgobmclaa", sum := "afde174d558eec7bb0c71f46e749bf82f8c61087b7a3c45f3055f646ce1bb176", func := "kingpin/kingpinlaw11.BillCoin", spec := "billCoin", unfollowed := true, recurses := true, plainKeys := false, apart := false }
def BillCoinSaid : Prop := billCoinRow.holds Try.pinned (OpenSpec.ofChange billCoinSpec)

/-- ITS FALSE NEIGHBOUR: 'it returns false'. Refute it at one input. -/
def billCoinWrong : ChangeSpec := { name := "billCoin", fn := fun _ => fun
  | [d1, d2] => { results := [.lit (.bool false)], args := [d1, d2] }
  | _ => none }
def BillCoinWrongFalsely : Prop := billCoinRow.holds Try.pinned (OpenSpec.ofChange billCoinWrong)

/-- 'kingpinlaw11.BillParts': WHATEVER THE INPUT: true; the input reads as it did. -/
def billPartsSpec : ChangeSpec := { name := "billParts", fn := fun _ => fun
  | [d1, d2, d3, d4] => { results := [.lit (.bool true)], args := [d1, d2, d3, d4] }
  | _ => none }
def billPartsRow : OpenClaim := { program := "ytjbmkdbgobmclaa", sum := "afde174d558eec7bb0c71f46e749bf82f8c61087b7a3c45f3055f646ce1bb176", func := "kingpin/kingpinlaw11.BillParts", spec := "billParts", unfollowed := true, recurses := true, plainKeys := false, apart := false }
def BillPartsSaid : Prop := billPartsRow.holds Try.pinned (OpenSpec.ofChange billPartsSpec)

/-- ITS FALSE NEIGHBOUR: 'it returns false'. Refute it at one input. -/
def billPartsWrong : ChangeSpec := { name := "billParts", fn := fun _ => fun
  | [d1, d2, d3, d4] => { results := [.lit (.bool false)], args := [d1, d2, d3, d4] }
  | _ => none }
def BillPartsWrongFalsely : Prop := billPartsRow.holds Try.pinned (OpenSpec.ofChange billPartsWrong)

/-- 'kingpinlaw11.BillLost': WHATEVER THE INPUT: true; the input reads as it did. -/
def billLostSpec : ChangeSpec := { name := "billLost", fn := fun _ => fun
  | [d1, d2, d3, d4] => { results := [.lit (.bool true)], args := [d1, d2, d3, d4] }
  | _ => none }
def billLostRow : OpenClaim := { program := "ytjbmkdbgobmclaa", sum := "afde174d558eec7bb0c71f46e749bf82f8c61087b7a3c45f3055f646ce1bb176", func := "kingpin/kingpinlaw11.BillLost", spec := "billLost", unfollowed := true, recurses := true, plainKeys := false, apart := false }
def BillLostSaid : Prop := billLostRow.holds Try.pinned (OpenSpec.ofChange billLostSpec)

/-- ITS FALSE NEIGHBOUR: 'it returns false'. Refute it at one input. -/
def billLostWrong : ChangeSpec := { name := "billLost", fn := fun _ => fun
  | [d1, d2, d3, d4] => { results := [.lit (.bool false)], args := [d1, d2, d3, d4] }
  | _ => none }
def BillLostWrongFalsely : Prop := billLostRow.holds Try.pinned (OpenSpec.ofChange billLostWrong)

/-- 'kingpinlaw11.BillKnown': WHATEVER THE INPUT: true; the input reads as it did. -/
def billKnownSpec : ChangeSpec := { name := "billKnown", fn := fun _ => fun
  | [d1, d2, d3, d4, d5] => { results := [.lit (.bool true)], args := [d1, d2, d3, d4, d5] }
  | _ => none }
def billKnownRow : OpenClaim := { program := "ytjbmkdbgobmclaa", sum := "afde174d558eec7bb0c71f46e749bf82f8c61087b7a3c45f3055f646ce1bb176", func := "kingpin/kingpinlaw11.BillKnown", spec := "billKnown", unfollowed := true, recurses := true, plainKeys := false, apart := false }
def BillKnownSaid : Prop := billKnownRow.holds Try.pinned (OpenSpec.ofChange billKnownSpec)

/-- ITS FALSE NEIGHBOUR: 'it returns false'. Refute it at one input. -/
def billKnownWrong : ChangeSpec := { name := "billKnown", fn := fun _ => fun
  | [d1, d2, d3, d4, d5] => { results := [.lit (.bool false)], args := [d1, d2, d3, d4, d5] }
  | _ => none }
def BillKnownWrongFalsely : Prop := billKnownRow.holds Try.pinned (OpenSpec.ofChange billKnownWrong)

/-- 'kingpinlaw11.BillBests': WHATEVER THE INPUT: true; the input reads as it did. -/
def billBestsSpec : ChangeSpec := { name := "billBests", fn := fun _ => fun
  | [d1, d2, d3, d4, d5] => { results := [.lit (.bool true)], args := [d1, d2, d3, d4, d5] }
  | _ => none }
def billBestsRow : OpenClaim := { program := "ytjbmkdbgobmclaa", sum := "afde174d558eec7bb0c71f46e749bf82f8c61087b7a3c45f3055f646ce1bb176", func := "kingpin/kingpinlaw11.BillBests", spec := "billBests", unfollowed := true, recurses := true, plainKeys := false, apart := false }
def BillBestsSaid : Prop := billBestsRow.holds Try.pinned (OpenSpec.ofChange billBestsSpec)

/-- ITS FALSE NEIGHBOUR: 'it returns false'. Refute it at one input. -/
def billBestsWrong : ChangeSpec := { name := "billBests", fn := fun _ => fun
  | [d1, d2, d3, d4, d5] => { results := [.lit (.bool false)], args := [d1, d2, d3, d4, d5] }
  | _ => none }
def BillBestsWrongFalsely : Prop := billBestsRow.holds Try.pinned (OpenSpec.ofChange billBestsWrong)

/-- 'kingpinlaw11.BillCheapest': WHATEVER THE INPUT: true; the input reads as it did. -/
def billCheapestSpec : ChangeSpec := { name := "billCheapest", fn := fun _ => fun
  | [d1, d2, d3, d4] => { results := [.lit (.bool true)], args := [d1, d2, d3, d4] }
  | _ => none }
def billCheapestRow : OpenClaim := { program := "ytjbmkdbgobmclaa", sum := "afde174d558eec7bb0c71f46e749bf82f8c61087b7a3c45f3055f646ce1bb176", func := "kingpin/kingpinlaw11.BillCheapest", spec := "billCheapest", unfollowed := true, recurses := true, plainKeys := false, apart := false }
def BillCheapestSaid : Prop := billCheapestRow.holds Try.pinned (OpenSpec.ofChange billCheapestSpec)

/-- ITS FALSE NEIGHBOUR: 'it returns false'. Refute it at one input. -/
def billCheapestWrong : ChangeSpec := { name := "billCheapest", fn := fun _ => fun
  | [d1, d2, d3, d4] => { results := [.lit (.bool false)], args := [d1, d2, d3, d4] }
  | _ => none }
def BillCheapestWrongFalsely : Prop := billCheapestRow.holds Try.pinned (OpenSpec.ofChange billCheapestWrong)

/-- 'kingpinlaw11.BillEnds': WHATEVER THE INPUT: true; the input reads as it did. -/
def billEndsSpec : ChangeSpec := { name := "billEnds", fn := fun _ => fun
  | [d1, d2] => { results := [.lit (.bool true)], args := [d1, d2] }
  | _ => none }
def billEndsRow : OpenClaim := { program := "ytjbmkdbgobmclaa", sum := "afde174d558eec7bb0c71f46e749bf82f8c61087b7a3c45f3055f646ce1bb176", func := "kingpin/kingpinlaw11.BillEnds", spec := "billEnds", unfollowed := true, recurses := true, plainKeys := false, apart := false }
def BillEndsSaid : Prop := billEndsRow.holds Try.pinned (OpenSpec.ofChange billEndsSpec)

/-- ITS FALSE NEIGHBOUR: 'it returns false'. Refute it at one input. -/
def billEndsWrong : ChangeSpec := { name := "billEnds", fn := fun _ => fun
  | [d1, d2] => { results := [.lit (.bool false)], args := [d1, d2] }
  | _ => none }
def BillEndsWrongFalsely : Prop := billEndsRow.holds Try.pinned (OpenSpec.ofChange billEndsWrong)

/-- 'kingpinlaw11.BillTruth': WHATEVER THE INPUT: true; the input reads as it did. -/
def billTruthSpec : ChangeSpec := { name := "billTruth", fn := fun _ => fun
  | [d1, d2, d3, d4, d5] => { results := [.lit (.bool true)], args := [d1, d2, d3, d4, d5] }
  | _ => none }
def billTruthRow : OpenClaim := { program := "ytjbmkdbgobmclaa", sum := "afde174d558eec7bb0c71f46e749bf82f8c61087b7a3c45f3055f646ce1bb176", func := "kingpin/kingpinlaw11.BillTruth", spec := "billTruth", unfollowed := true, recurses := true, plainKeys := false, apart := false }
def BillTruthSaid : Prop := billTruthRow.holds Try.pinned (OpenSpec.ofChange billTruthSpec)

/-- ITS FALSE NEIGHBOUR: 'it returns false'. Refute it at one input. -/
def billTruthWrong : ChangeSpec := { name := "billTruth", fn := fun _ => fun
  | [d1, d2, d3, d4, d5] => { results := [.lit (.bool false)], args := [d1, d2, d3, d4, d5] }
  | _ => none }
def BillTruthWrongFalsely : Prop := billTruthRow.holds Try.pinned (OpenSpec.ofChange billTruthWrong)

/-- 'kingpinlaw11.BillShows': WHATEVER THE INPUT: true; the input reads as it did. -/
def billShowsSpec : ChangeSpec := { name := "billShows", fn := fun _ => fun
  | [d1, d2] => { results := [.lit (.bool true)], args := [d1, d2] }
  | _ => none }
def billShowsRow : OpenClaim := { program := "ytjbmkdbgobmclaa", sum := "afde174d558eec7bb0c71f46e749bf82f8c61087b7a3c45f3055f646ce1bb176", func := "kingpin/kingpinlaw11.BillShows", spec := "billShows", unfollowed := true, recurses := true, plainKeys := false, apart := false }
def BillShowsSaid : Prop := billShowsRow.holds Try.pinned (OpenSpec.ofChange billShowsSpec)

/-- ITS FALSE NEIGHBOUR: 'it returns false'. Refute it at one input. -/
def billShowsWrong : ChangeSpec := { name := "billShows", fn := fun _ => fun
  | [d1, d2] => { results := [.lit (.bool false)], args := [d1, d2] }
  | _ => none }
def BillShowsWrongFalsely : Prop := billShowsRow.holds Try.pinned (OpenSpec.ofChange billShowsWrong)

/-- 'kingpinlaw11.BillNames': WHATEVER THE INPUT: true; the input reads as it did. -/
def billNamesSpec : ChangeSpec := { name := "billNames", fn := fun _ => fun
  | [] => { results := [.lit (.bool true)], args := [] }
  | _ => none }
def billNamesRow : OpenClaim := { program := "ytjbmkdbgobmclaa", sum := "afde174d558eec7bb0c71f46e749bf82f8c61087b7a3c45f3055f646ce1bb176", func := "kingpin/kingpinlaw11.BillNames", spec := "billNames", unfollowed := true, recurses := true, plainKeys := false, apart := false }
def BillNamesSaid : Prop := billNamesRow.holds Try.pinned (OpenSpec.ofChange billNamesSpec)

/-- ITS FALSE NEIGHBOUR: 'it returns false'. Refute it at one input. -/
def billNamesWrong : ChangeSpec := { name := "billNames", fn := fun _ => fun
  | [] => { results := [.lit (.bool false)], args := [] }
  | _ => none }
def BillNamesWrongFalsely : Prop := billNamesRow.holds Try.pinned (OpenSpec.ofChange billNamesWrong)

/- THE SECOND FORM. 'bulk': how many values and letters a reading holds, each counted each time it is reached (what is shared counts as often as it is met; a slice's spare places count too). A statement '..UptoSaid' is the law's where the arguments, and the package variables that the reading takes, are together of bulk at most 1048576: NARROWER than '..Said'. Prove '..Said' where nothing that the law and all that it calls make is longer than what came in: it says more and counts as full. Else prove '..UptoSaid'. A law counts once. -/
mutual
def uptoBulk {H : Type} : DataW H → Nat
  | .lit (.string bytes) => bytes.length + 1
  | .lit _ => 1
  | .nil => 1
  | .ptr d => uptoBulk d + 1
  | .slice elems spare => uptoBulkAll elems + uptoBulkAll spare + 1
  | .agg parts => uptoBulkAll parts + 1
  | .iface _ d => uptoBulk d + 1
  | .map entries => uptoBulkEntries entries + 1
  | .held _ => 1
def uptoBulkAll {H : Type} : List (DataW H) → Nat
  | [] => 0
  | d :: r => uptoBulk d + uptoBulkAll r
def uptoBulkEntries {H : Type} : List (Lit × DataW H) → Nat
  | [] => 0
  | x :: r => uptoBulkEntry x + uptoBulkEntries r
def uptoBulkEntry {H : Type} : Lit × DataW H → Nat
  | (.string bytes, d) => bytes.length + uptoBulk d + 1
  | (_, d) => uptoBulk d + 1
 end
def uptoSmall : (H : Type) → List (DataW H) → Bool := fun _ ds => decide (uptoBulkAll ds ≤ 1048576)
def OpenSpec.upto (s : _root_.Go.ChangeSpec) : _root_.Go.OpenSpec := { _root_.Go.OpenSpec.ofChange s with cond := some uptoSmall }

/-- 'kingpinlaw11.BillShares', WHERE WHAT IT READS IS OF BULK AT MOST 1048576: true; the input reads as it did. -/
def billSharesUptoRow : OpenClaim := { program := "ytjbmkdbgobmclaa", sum := "afde174d558eec7bb0c71f46e749bf82f8c61087b7a3c45f3055f646ce1bb176", func := "kingpin/kingpinlaw11.BillShares", spec := "billShares", unfollowed := true, recurses := true, plainKeys := false, apart := false, narrowed := true }
def BillSharesUptoSaid : Prop := billSharesUptoRow.holds Try.pinned (OpenSpec.upto billSharesSpec)

/-- 'kingpinlaw11.BillTakes', WHERE WHAT IT READS IS OF BULK AT MOST 1048576: true; the input reads as it did. -/
def billTakesUptoRow : OpenClaim := { program := "ytjbmkdbgobmclaa", sum := "afde174d558eec7bb0c71f46e749bf82f8c61087b7a3c45f3055f646ce1bb176", func := "kingpin/kingpinlaw11.BillTakes", spec := "billTakes", unfollowed := true, recurses := true, plainKeys := false, apart := false, narrowed := true }
def BillTakesUptoSaid : Prop := billTakesUptoRow.holds Try.pinned (OpenSpec.upto billTakesSpec)

/-- 'kingpinlaw11.BillMore', WHERE WHAT IT READS IS OF BULK AT MOST 1048576: true; the input reads as it did. -/
def billMoreUptoRow : OpenClaim := { program := "ytjbmkdbgobmclaa", sum := "afde174d558eec7bb0c71f46e749bf82f8c61087b7a3c45f3055f646ce1bb176", func := "kingpin/kingpinlaw11.BillMore", spec := "billMore", unfollowed := true, recurses := true, plainKeys := false, apart := false, narrowed := true }
def BillMoreUptoSaid : Prop := billMoreUptoRow.holds Try.pinned (OpenSpec.upto billMoreSpec)

/-- 'kingpinlaw11.BillCoin', WHERE WHAT IT READS IS OF BULK AT MOST 1048576: true; the input reads as it did. -/
def billCoinUptoRow : OpenClaim := { program := "ytjbmkdbgobmclaa", sum := "afde174d558eec7bb0c71f46e749bf82f8c61087b7a3c45f3055f646ce1bb176", func := "kingpin/kingpinlaw11.BillCoin", spec := "billCoin", unfollowed := true, recurses := true, plainKeys := false, apart := false, narrowed := true }
def BillCoinUptoSaid : Prop := billCoinUptoRow.holds Try.pinned (OpenSpec.upto billCoinSpec)

/-- 'kingpinlaw11.BillParts', WHERE WHAT IT READS IS OF BULK AT MOST 1048576: true; the input reads as it did. -/
def billPartsUptoRow : OpenClaim := { program := "ytjbmkdbgobmclaa", sum := "afde174d558eec7bb0c71f46e749bf82f8c61087b7a3c45f3055f646ce1bb176", func := "kingpin/kingpinlaw11.BillParts", spec := "billParts", unfollowed := true, recurses := true, plainKeys := false, apart := false, narrowed := true }
def BillPartsUptoSaid : Prop := billPartsUptoRow.holds Try.pinned (OpenSpec.upto billPartsSpec)

/-- 'kingpinlaw11.BillLost', WHERE WHAT IT READS IS OF BULK AT MOST 1048576: true; the input reads as it did. -/
def billLostUptoRow : OpenClaim := { program := "ytjbmkdbgobmclaa", sum := "afde174d558eec7bb0c71f46e749bf82f8c61087b7a3c45f3055f646ce1bb176", func := "kingpin/kingpinlaw11.BillLost", spec := "billLost", unfollowed := true, recurses := true, plainKeys := false, apart := false, narrowed := true }
def BillLostUptoSaid : Prop := billLostUptoRow.holds Try.pinned (OpenSpec.upto billLostSpec)

/-- 'kingpinlaw11.BillKnown', WHERE WHAT IT READS IS OF BULK AT MOST 1048576: true; the input reads as it did. -/
def billKnownUptoRow : OpenClaim := { program := "ytjbmkdbgobmclaa", sum := "afde174d558eec7bb0c71f46e749bf82f8c61087b7a3c45f3055f646ce1bb176", func := "kingpin/kingpinlaw11.BillKnown", spec := "billKnown", unfollowed := true, recurses := true, plainKeys := false, apart := false, narrowed := true }
def BillKnownUptoSaid : Prop := billKnownUptoRow.holds Try.pinned (OpenSpec.upto billKnownSpec)

/-- 'kingpinlaw11.BillBests', WHERE WHAT IT READS IS OF BULK AT MOST 1048576: true; the input reads as it did. -/
def billBestsUptoRow : OpenClaim := { program := "ytjbmkdbgobmclaa", sum := "afde174d558eec7bb0c71f46e749bf82f8c61087b7a3c45f3055f646ce1bb176", func := "kingpin/kingpinlaw11.BillBests", spec := "billBests", unfollowed := true, recurses := true, plainKeys := false, apart := false, narrowed := true }
def BillBestsUptoSaid : Prop := billBestsUptoRow.holds Try.pinned (OpenSpec.upto billBestsSpec)

/-- 'kingpinlaw11.BillCheapest', WHERE WHAT IT READS IS OF BULK AT MOST 1048576: true; the input reads as it did. -/
def billCheapestUptoRow : OpenClaim := { program := "ytjbmkdbgobmclaa", sum := "afde174d558eec7bb0c71f46e749bf82f8c61087b7a3c45f3055f646ce1bb176", func := "kingpin/kingpinlaw11.BillCheapest", spec := "billCheapest", unfollowed := true, recurses := true, plainKeys := false, apart := false, narrowed := true }
def BillCheapestUptoSaid : Prop := billCheapestUptoRow.holds Try.pinned (OpenSpec.upto billCheapestSpec)

/-- 'kingpinlaw11.BillEnds', WHERE WHAT IT READS IS OF BULK AT MOST 1048576: true; the input reads as it did. -/
def billEndsUptoRow : OpenClaim := { program := "ytjbmkdbgobmclaa", sum := "afde174d558eec7bb0c71f46e749bf82f8c61087b7a3c45f3055f646ce1bb176", func := "kingpin/kingpinlaw11.BillEnds", spec := "billEnds", unfollowed := true, recurses := true, plainKeys := false, apart := false, narrowed := true }
def BillEndsUptoSaid : Prop := billEndsUptoRow.holds Try.pinned (OpenSpec.upto billEndsSpec)

/-- 'kingpinlaw11.BillTruth', WHERE WHAT IT READS IS OF BULK AT MOST 1048576: true; the input reads as it did. -/
def billTruthUptoRow : OpenClaim := { program := "ytjbmkdbgobmclaa", sum := "afde174d558eec7bb0c71f46e749bf82f8c61087b7a3c45f3055f646ce1bb176", func := "kingpin/kingpinlaw11.BillTruth", spec := "billTruth", unfollowed := true, recurses := true, plainKeys := false, apart := false, narrowed := true }
def BillTruthUptoSaid : Prop := billTruthUptoRow.holds Try.pinned (OpenSpec.upto billTruthSpec)

/-- 'kingpinlaw11.BillShows', WHERE WHAT IT READS IS OF BULK AT MOST 1048576: true; the input reads as it did. -/
def billShowsUptoRow : OpenClaim := { program := "ytjbmkdbgobmclaa", sum := "afde174d558eec7bb0c71f46e749bf82f8c61087b7a3c45f3055f646ce1bb176", func := "kingpin/kingpinlaw11.BillShows", spec := "billShows", unfollowed := true, recurses := true, plainKeys := false, apart := false, narrowed := true }
def BillShowsUptoSaid : Prop := billShowsUptoRow.holds Try.pinned (OpenSpec.upto billShowsSpec)

/-- 'kingpinlaw11.BillNames', WHERE WHAT IT READS IS OF BULK AT MOST 1048576: true; the input reads as it did. -/
def billNamesUptoRow : OpenClaim := { program := "ytjbmkdbgobmclaa", sum := "afde174d558eec7bb0c71f46e749bf82f8c61087b7a3c45f3055f646ce1bb176", func := "kingpin/kingpinlaw11.BillNames", spec := "billNames", unfollowed := true, recurses := true, plainKeys := false, apart := false, narrowed := true }
def BillNamesUptoSaid : Prop := billNamesUptoRow.holds Try.pinned (OpenSpec.upto billNamesSpec)

end Rows
end Go.Proofs.Ytjbmkdbgobmclaa
