/-
  No cell of these rows narrows 'for every input' (looked for: loops, veiled, ifaces, maps, wideKeys, modest, calm, conditions, laid).
  DERIVED. THE GIVEN ROWS OF THIS SEAT. 13 by the template 'for every input the law returns true; each argument reads behind the call as it read before'; 0 by the template 'total and deterministic' (their statements: YtkmaafnbefpdjaaTotals.lean).
  GIVEN WITH THE SEED: the statements are not yours to turn. If you find one false, say at which input.
  Laid BY PROGRAM, IN A SANDBOX (cutbox-rows.mjs): the forced cells as the released guide's own fill.sh prints them over the translation df18d23159651b47… (all of the seat's roots in one cut). By AI agents, Wed Nov 11 2026. No macro, syntax, notation, axiom, sorry.
-/
import Derived.Test.YtkmaafnbefpdjaaChecked
import GoSem.Claim
import GoSem.ClaimJoined
import GoSem.ClaimMapViews
import Derived.JoinedTies
import Derived.KernelRfl
namespace Go.Proofs.Ytkmaafnbefpdjaa
/- THE CELL 'sum', in the pinned program and in every row, IS THE sha256 OF THE DUMP (.gsa) THAT YtkmaafnbefpdjaaProg.lean LOADS. Nothing in Lean hashes anything: it is a label: what it is worth is what the hold of that sum in a sandbox is worth. -/
noncomputable def Try.pinned : Pinned := { name := "ytkmaafnbefpdjaa", sum := "df18d23159651b47f3e0e878db413e08d672e347cc66891eac88e7d57b038270", checked := Try.checked }
namespace Rows
def none {H : Type} : Left H := { results := [], args := [] }

/-- 'kingpinlaw06.LendServes': WHATEVER THE INPUT: true; the input reads as it did. -/
def lendServesSpec : ChangeSpec := { name := "lendServes", fn := fun _ => fun
  | [d1, d2, d3, d4] => { results := [.lit (.bool true)], args := [d1, d2, d3, d4] }
  | _ => none }
def lendServesRow : OpenClaim := { program := "ytkmaafnbefpdjaa", sum := "df18d23159651b47f3e0e878db413e08d672e347cc66891eac88e7d57b038270", func := "kingpin/kingpinlaw06.LendServes", spec := "lendServes", unfollowed := true, recurses := true, plainKeys := false, apart := false }
def LendServesSaid : Prop := lendServesRow.holds Try.pinned (OpenSpec.ofChange lendServesSpec)

/-- ITS FALSE NEIGHBOUR: 'it returns false'. Refute it at one input. -/
def lendServesWrong : ChangeSpec := { name := "lendServes", fn := fun _ => fun
  | [d1, d2, d3, d4] => { results := [.lit (.bool false)], args := [d1, d2, d3, d4] }
  | _ => none }
def LendServesWrongFalsely : Prop := lendServesRow.holds Try.pinned (OpenSpec.ofChange lendServesWrong)

/-- 'kingpinlaw06.LendLaters': WHATEVER THE INPUT: true; the input reads as it did. -/
def lendLatersSpec : ChangeSpec := { name := "lendLaters", fn := fun _ => fun
  | [d1, d2, d3, d4] => { results := [.lit (.bool true)], args := [d1, d2, d3, d4] }
  | _ => none }
def lendLatersRow : OpenClaim := { program := "ytkmaafnbefpdjaa", sum := "df18d23159651b47f3e0e878db413e08d672e347cc66891eac88e7d57b038270", func := "kingpin/kingpinlaw06.LendLaters", spec := "lendLaters", unfollowed := true, recurses := true, plainKeys := false, apart := false }
def LendLatersSaid : Prop := lendLatersRow.holds Try.pinned (OpenSpec.ofChange lendLatersSpec)

/-- ITS FALSE NEIGHBOUR: 'it returns false'. Refute it at one input. -/
def lendLatersWrong : ChangeSpec := { name := "lendLaters", fn := fun _ => fun
  | [d1, d2, d3, d4] => { results := [.lit (.bool false)], args := [d1, d2, d3, d4] }
  | _ => none }
def LendLatersWrongFalsely : Prop := lendLatersRow.holds Try.pinned (OpenSpec.ofChange lendLatersWrong)

/-- 'kingpinlaw06.LendOnce': WHATEVER THE INPUT: true; the input reads as it did. -/
def lendOnceSpec : ChangeSpec := { name := "lendOnce", fn := fun _ => fun
  | [d1, d2, d3, d4] => { results := [.lit (.bool true)], args := [d1, d2, d3, d4] }
  | _ => none }
def lendOnceRow : OpenClaim := { program := "ytkmaafnbefpdjaa", sum := "df18d23159651b47f3e0e878db413e08d672e347cc66891eac88e7d57b038270", func := "kingpin/kingpinlaw06.LendOnce", spec := "lendOnce", unfollowed := true, recurses := true, plainKeys := false, apart := false }
def LendOnceSaid : Prop := lendOnceRow.holds Try.pinned (OpenSpec.ofChange lendOnceSpec)

/-- ITS FALSE NEIGHBOUR: 'it returns false'. Refute it at one input. -/
def lendOnceWrong : ChangeSpec := { name := "lendOnce", fn := fun _ => fun
  | [d1, d2, d3, d4] => { results := [.lit (.bool false)], args := [d1, d2, d3, d4] }
  | _ => none }
def LendOnceWrongFalsely : Prop := lendOnceRow.holds Try.pinned (OpenSpec.ofChange lendOnceWrong)

/-- 'kingpinlaw06.LendLater': WHATEVER THE INPUT: true; the input reads as it did. -/
def lendLaterSpec : ChangeSpec := { name := "lendLater", fn := fun _ => fun
  | [d1, d2, d3, d4] => { results := [.lit (.bool true)], args := [d1, d2, d3, d4] }
  | _ => none }
def lendLaterRow : OpenClaim := { program := "ytkmaafnbefpdjaa", sum := "df18d23159651b47f3e0e878db413e08d672e347cc66891eac88e7d57b038270", func := "kingpin/kingpinlaw06.LendLater", spec := "lendLater", unfollowed := true, recurses := true, plainKeys := false, apart := false }
def LendLaterSaid : Prop := lendLaterRow.holds Try.pinned (OpenSpec.ofChange lendLaterSpec)

/-- ITS FALSE NEIGHBOUR: 'it returns false'. Refute it at one input. -/
def lendLaterWrong : ChangeSpec := { name := "lendLater", fn := fun _ => fun
  | [d1, d2, d3, d4] => { results := [.lit (.bool false)], args := [d1, d2, d3, d4] }
  | _ => none }
def LendLaterWrongFalsely : Prop := lendLaterRow.holds Try.pinned (OpenSpec.ofChange lendLaterWrong)

/-- 'kingpinlaw06.LendEasier': WHATEVER THE INPUT: true; the input reads as it did. -/
def lendEasierSpec : ChangeSpec := { name := "lendEasier", fn := fun _ => fun
  | [d1, d2, d3, d4, d5] => { results := [.lit (.bool true)], args := [d1, d2, d3, d4, d5] }
  | _ => none }
def lendEasierRow : OpenClaim := { program := "ytkmaafnbefpdjaa", sum := "df18d23159651b47f3e0e878db413e08d672e347cc66891eac88e7d57b038270", func := "kingpin/kingpinlaw06.LendEasier", spec := "lendEasier", unfollowed := true, recurses := true, plainKeys := false, apart := false }
def LendEasierSaid : Prop := lendEasierRow.holds Try.pinned (OpenSpec.ofChange lendEasierSpec)

/-- ITS FALSE NEIGHBOUR: 'it returns false'. Refute it at one input. -/
def lendEasierWrong : ChangeSpec := { name := "lendEasier", fn := fun _ => fun
  | [d1, d2, d3, d4, d5] => { results := [.lit (.bool false)], args := [d1, d2, d3, d4, d5] }
  | _ => none }
def LendEasierWrongFalsely : Prop := lendEasierRow.holds Try.pinned (OpenSpec.ofChange lendEasierWrong)

/-- 'kingpinlaw06.LendOrder': WHATEVER THE INPUT: true; the input reads as it did. -/
def lendOrderSpec : ChangeSpec := { name := "lendOrder", fn := fun _ => fun
  | [d1, d2, d3, d4] => { results := [.lit (.bool true)], args := [d1, d2, d3, d4] }
  | _ => none }
def lendOrderRow : OpenClaim := { program := "ytkmaafnbefpdjaa", sum := "df18d23159651b47f3e0e878db413e08d672e347cc66891eac88e7d57b038270", func := "kingpin/kingpinlaw06.LendOrder", spec := "lendOrder", unfollowed := true, recurses := true, plainKeys := false, apart := false }
def LendOrderSaid : Prop := lendOrderRow.holds Try.pinned (OpenSpec.ofChange lendOrderSpec)

/-- ITS FALSE NEIGHBOUR: 'it returns false'. Refute it at one input. -/
def lendOrderWrong : ChangeSpec := { name := "lendOrder", fn := fun _ => fun
  | [d1, d2, d3, d4] => { results := [.lit (.bool false)], args := [d1, d2, d3, d4] }
  | _ => none }
def LendOrderWrongFalsely : Prop := lendOrderRow.holds Try.pinned (OpenSpec.ofChange lendOrderWrong)

/-- 'kingpinlaw06.LendShorts': WHATEVER THE INPUT: true; the input reads as it did. -/
def lendShortsSpec : ChangeSpec := { name := "lendShorts", fn := fun _ => fun
  | [d1, d2, d3] => { results := [.lit (.bool true)], args := [d1, d2, d3] }
  | _ => none }
def lendShortsRow : OpenClaim := { program := "ytkmaafnbefpdjaa", sum := "df18d23159651b47f3e0e878db413e08d672e347cc66891eac88e7d57b038270", func := "kingpin/kingpinlaw06.LendShorts", spec := "lendShorts", unfollowed := true, recurses := true, plainKeys := false, apart := false }
def LendShortsSaid : Prop := lendShortsRow.holds Try.pinned (OpenSpec.ofChange lendShortsSpec)

/-- ITS FALSE NEIGHBOUR: 'it returns false'. Refute it at one input. -/
def lendShortsWrong : ChangeSpec := { name := "lendShorts", fn := fun _ => fun
  | [d1, d2, d3] => { results := [.lit (.bool false)], args := [d1, d2, d3] }
  | _ => none }
def LendShortsWrongFalsely : Prop := lendShortsRow.holds Try.pinned (OpenSpec.ofChange lendShortsWrong)

/-- 'kingpinlaw06.LendBounds': WHATEVER THE INPUT: true; the input reads as it did. -/
def lendBoundsSpec : ChangeSpec := { name := "lendBounds", fn := fun _ => fun
  | [d1, d2, d3] => { results := [.lit (.bool true)], args := [d1, d2, d3] }
  | _ => none }
def lendBoundsRow : OpenClaim := { program := "ytkmaafnbefpdjaa", sum := "df18d23159651b47f3e0e878db413e08d672e347cc66891eac88e7d57b038270", func := "kingpin/kingpinlaw06.LendBounds", spec := "lendBounds", unfollowed := true, recurses := true, plainKeys := false, apart := false }
def LendBoundsSaid : Prop := lendBoundsRow.holds Try.pinned (OpenSpec.ofChange lendBoundsSpec)

/-- ITS FALSE NEIGHBOUR: 'it returns false'. Refute it at one input. -/
def lendBoundsWrong : ChangeSpec := { name := "lendBounds", fn := fun _ => fun
  | [d1, d2, d3] => { results := [.lit (.bool false)], args := [d1, d2, d3] }
  | _ => none }
def LendBoundsWrongFalsely : Prop := lendBoundsRow.holds Try.pinned (OpenSpec.ofChange lendBoundsWrong)

/-- 'kingpinlaw06.LendProof': WHATEVER THE INPUT: true; the input reads as it did. -/
def lendProofSpec : ChangeSpec := { name := "lendProof", fn := fun _ => fun
  | [d1, d2, d3, d4] => { results := [.lit (.bool true)], args := [d1, d2, d3, d4] }
  | _ => none }
def lendProofRow : OpenClaim := { program := "ytkmaafnbefpdjaa", sum := "df18d23159651b47f3e0e878db413e08d672e347cc66891eac88e7d57b038270", func := "kingpin/kingpinlaw06.LendProof", spec := "lendProof", unfollowed := true, recurses := true, plainKeys := false, apart := false }
def LendProofSaid : Prop := lendProofRow.holds Try.pinned (OpenSpec.ofChange lendProofSpec)

/-- ITS FALSE NEIGHBOUR: 'it returns false'. Refute it at one input. -/
def lendProofWrong : ChangeSpec := { name := "lendProof", fn := fun _ => fun
  | [d1, d2, d3, d4] => { results := [.lit (.bool false)], args := [d1, d2, d3, d4] }
  | _ => none }
def LendProofWrongFalsely : Prop := lendProofRow.holds Try.pinned (OpenSpec.ofChange lendProofWrong)

/-- 'kingpinlaw06.LendWhole': WHATEVER THE INPUT: true; the input reads as it did. -/
def lendWholeSpec : ChangeSpec := { name := "lendWhole", fn := fun _ => fun
  | [d1, d2, d3] => { results := [.lit (.bool true)], args := [d1, d2, d3] }
  | _ => none }
def lendWholeRow : OpenClaim := { program := "ytkmaafnbefpdjaa", sum := "df18d23159651b47f3e0e878db413e08d672e347cc66891eac88e7d57b038270", func := "kingpin/kingpinlaw06.LendWhole", spec := "lendWhole", unfollowed := true, recurses := true, plainKeys := false, apart := false }
def LendWholeSaid : Prop := lendWholeRow.holds Try.pinned (OpenSpec.ofChange lendWholeSpec)

/-- ITS FALSE NEIGHBOUR: 'it returns false'. Refute it at one input. -/
def lendWholeWrong : ChangeSpec := { name := "lendWhole", fn := fun _ => fun
  | [d1, d2, d3] => { results := [.lit (.bool false)], args := [d1, d2, d3] }
  | _ => none }
def LendWholeWrongFalsely : Prop := lendWholeRow.holds Try.pinned (OpenSpec.ofChange lendWholeWrong)

/-- 'kingpinlaw06.LendFits': WHATEVER THE INPUT: true; the input reads as it did. -/
def lendFitsSpec : ChangeSpec := { name := "lendFits", fn := fun _ => fun
  | [d1, d2, d3] => { results := [.lit (.bool true)], args := [d1, d2, d3] }
  | _ => none }
def lendFitsRow : OpenClaim := { program := "ytkmaafnbefpdjaa", sum := "df18d23159651b47f3e0e878db413e08d672e347cc66891eac88e7d57b038270", func := "kingpin/kingpinlaw06.LendFits", spec := "lendFits", unfollowed := true, recurses := true, plainKeys := false, apart := false }
def LendFitsSaid : Prop := lendFitsRow.holds Try.pinned (OpenSpec.ofChange lendFitsSpec)

/-- ITS FALSE NEIGHBOUR: 'it returns false'. Refute it at one input. -/
def lendFitsWrong : ChangeSpec := { name := "lendFits", fn := fun _ => fun
  | [d1, d2, d3] => { results := [.lit (.bool false)], args := [d1, d2, d3] }
  | _ => none }
def LendFitsWrongFalsely : Prop := lendFitsRow.holds Try.pinned (OpenSpec.ofChange lendFitsWrong)

/-- 'kingpinlaw06.LendFeet': WHATEVER THE INPUT: true; the input reads as it did. -/
def lendFeetSpec : ChangeSpec := { name := "lendFeet", fn := fun _ => fun
  | [d1, d2, d3, d4] => { results := [.lit (.bool true)], args := [d1, d2, d3, d4] }
  | _ => none }
def lendFeetRow : OpenClaim := { program := "ytkmaafnbefpdjaa", sum := "df18d23159651b47f3e0e878db413e08d672e347cc66891eac88e7d57b038270", func := "kingpin/kingpinlaw06.LendFeet", spec := "lendFeet", unfollowed := true, recurses := true, plainKeys := false, apart := false }
def LendFeetSaid : Prop := lendFeetRow.holds Try.pinned (OpenSpec.ofChange lendFeetSpec)

/-- ITS FALSE NEIGHBOUR: 'it returns false'. Refute it at one input. -/
def lendFeetWrong : ChangeSpec := { name := "lendFeet", fn := fun _ => fun
  | [d1, d2, d3, d4] => { results := [.lit (.bool false)], args := [d1, d2, d3, d4] }
  | _ => none }
def LendFeetWrongFalsely : Prop := lendFeetRow.holds Try.pinned (OpenSpec.ofChange lendFeetWrong)

/-- 'kingpinlaw06.LendNames': WHATEVER THE INPUT: true; the input reads as it did. -/
def lendNamesSpec : ChangeSpec := { name := "lendNames", fn := fun _ => fun
  | [] => { results := [.lit (.bool true)], args := [] }
  | _ => none }
def lendNamesRow : OpenClaim := { program := "ytkmaafnbefpdjaa", sum := "df18d23159651b47f3e0e878db413e08d672e347cc66891eac88e7d57b038270", func := "kingpin/kingpinlaw06.LendNames", spec := "lendNames", unfollowed := true, recurses := true, plainKeys := false, apart := false }
def LendNamesSaid : Prop := lendNamesRow.holds Try.pinned (OpenSpec.ofChange lendNamesSpec)

/-- ITS FALSE NEIGHBOUR: 'it returns false'. Refute it at one input. -/
def lendNamesWrong : ChangeSpec := { name := "lendNames", fn := fun _ => fun
  | [] => { results := [.lit (.bool false)], args := [] }
  | _ => none }
def LendNamesWrongFalsely : Prop := lendNamesRow.holds Try.pinned (OpenSpec.ofChange lendNamesWrong)

/- THE SECOND FORM. 'bulk': how many values and letters a reading holds, each counted each time it is reached (what is shared counts as often as it is met; a slice's spare places count too). A statement '..UptoSaid' is the law's where the arguments, and the package variables that the reading takes, are together of bulk at most 1048576: NARROWER than '..Said'. Prove '..Said' where nothing that the law and all that it calls make is longer than what came in: it says more and counts as full. Else prove '..UptoSaid'. A law counts once. -/
mutual
def uptoBulk {H : Type} : DataW H → Nat
  | .lit (.string bytes) => bytes.length + 1
  | .lit _ => 1
  | .nil => 1
  | .ptr d => uptoBulk d + 1
  | .slice elems spare => uptoBulkAll elems + uptoBulkAll spare + 1
  | .agg parts => uptoBulkAll parts + 1
  | .iface _ d => uptoBulk d + 1
  | .map entries => uptoBulkEntries entries + 1
  | .held _ => 1
def uptoBulkAll {H : Type} : List (DataW H) → Nat
  | [] => 0
  | d :: r => uptoBulk d + uptoBulkAll r
def uptoBulkEntries {H : Type} : List (Lit × DataW H) → Nat
  | [] => 0
  | x :: r => uptoBulkEntry x + uptoBulkEntries r
def uptoBulkEntry {H : Type} : Lit × DataW H → Nat
  | (.string bytes, d) => bytes.length + uptoBulk d + 1
  | (_, d) => uptoBulk d + 1
 end
def uptoSmall : (H : Type) → List (DataW H) → Bool := fun _ ds => decide (uptoBulkAll ds ≤ 1048576)
def OpenSpec.upto (s : _root_.Go.ChangeSpec) : _root_.Go.OpenSpec := { _root_.Go.OpenSpec.ofChange s with cond := some uptoSmall }

/-- 'kingpinlaw06.LendServes', WHERE WHAT IT READS IS OF BULK AT MOST 1048576: true; the input reads as it did. -/
def lendServesUptoRow : OpenClaim := { program := "ytkmaafnbefpdjaa", sum := "df18d23159651b47f3e0e878db413e08d672e347cc66891eac88e7d57b038270", func := "kingpin/kingpinlaw06.LendServes", spec := "lendServes", unfollowed := true, recurses := true, plainKeys := false, apart := false, narrowed := true }
def LendServesUptoSaid : Prop := lendServesUptoRow.holds Try.pinned (OpenSpec.upto lendServesSpec)

/-- 'kingpinlaw06.LendLaters', WHERE WHAT IT READS IS OF BULK AT MOST 1048576: true; the input reads as it did. -/
def lendLatersUptoRow : OpenClaim := { program := "ytkmaafnbefpdjaa", sum := "df18d23159651b47f3e0e878db413e08d672e347cc66891eac88e7d57b038270", func := "kingpin/kingpinlaw06.LendLaters", spec := "lendLaters", unfollowed := true, recurses := true, plainKeys := false, apart := false, narrowed := true }
def LendLatersUptoSaid : Prop := lendLatersUptoRow.holds Try.pinned (OpenSpec.upto lendLatersSpec)

/-- 'kingpinlaw06.LendOnce', WHERE WHAT IT READS IS OF BULK AT MOST 1048576: true; the input reads as it did. -/
def lendOnceUptoRow : OpenClaim := { program := "ytkmaafnbefpdjaa", sum := "df18d23159651b47f3e0e878db413e08d672e347cc66891eac88e7d57b038270", func := "kingpin/kingpinlaw06.LendOnce", spec := "lendOnce", unfollowed := true, recurses := true, plainKeys := false, apart := false, narrowed := true }
def LendOnceUptoSaid : Prop := lendOnceUptoRow.holds Try.pinned (OpenSpec.upto lendOnceSpec)

/-- 'kingpinlaw06.LendLater', WHERE WHAT IT READS IS OF BULK AT MOST 1048576: true; the input reads as it did. -/
def lendLaterUptoRow : OpenClaim := { program := "ytkmaafnbefpdjaa", sum := "df18d23159651b47f3e0e878db413e08d672e347cc66891eac88e7d57b038270", func := "kingpin/kingpinlaw06.LendLater", spec := "lendLater", unfollowed := true, recurses := true, plainKeys := false, apart := false, narrowed := true }
def LendLaterUptoSaid : Prop := lendLaterUptoRow.holds Try.pinned (OpenSpec.upto lendLaterSpec)

/-- 'kingpinlaw06.LendEasier', WHERE WHAT IT READS IS OF BULK AT MOST 1048576: true; the input reads as it did. -/
def lendEasierUptoRow : OpenClaim := { program := "ytkmaafnbefpdjaa", sum := "df18d23159651b47f3e0e878db413e08d672e347cc66891eac88e7d57b038270", func := "kingpin/kingpinlaw06.LendEasier", spec := "lendEasier", unfollowed := true, recurses := true, plainKeys := false, apart := false, narrowed := true }
def LendEasierUptoSaid : Prop := lendEasierUptoRow.holds Try.pinned (OpenSpec.upto lendEasierSpec)

/-- 'kingpinlaw06.LendOrder', WHERE WHAT IT READS IS OF BULK AT MOST 1048576: true; the input reads as it did. -/
def lendOrderUptoRow : OpenClaim := { program := "ytkmaafnbefpdjaa", sum := "df18d23159651b47f3e0e878db413e08d672e347cc66891eac88e7d57b038270", func := "kingpin/kingpinlaw06.LendOrder", spec := "lendOrder", unfollowed := true, recurses := true, plainKeys := false, apart := false, narrowed := true }
def LendOrderUptoSaid : Prop := lendOrderUptoRow.holds Try.pinned (OpenSpec.upto lendOrderSpec)

/-- 'kingpinlaw06.LendShorts', WHERE WHAT IT READS IS OF BULK AT MOST 1048576: true; the input reads as it did. -/
def lendShortsUptoRow : OpenClaim := { program := "ytkmaafnbefpdjaa", sum := "df18d23159651b47f3e0e878db413e08d672e347cc66891eac88e7d57b038270", func := "kingpin/kingpinlaw06.LendShorts", spec := "lendShorts", unfollowed := true, recurses := true, plainKeys := false, apart := false, narrowed := true }
def LendShortsUptoSaid : Prop := lendShortsUptoRow.holds Try.pinned (OpenSpec.upto lendShortsSpec)

/-- 'kingpinlaw06.LendBounds', WHERE WHAT IT READS IS OF BULK AT MOST 1048576: true; the input reads as it did. -/
def lendBoundsUptoRow : OpenClaim := { program := "ytkmaafnbefpdjaa", sum := "df18d23159651b47f3e0e878db413e08d672e347cc66891eac88e7d57b038270", func := "kingpin/kingpinlaw06.LendBounds", spec := "lendBounds", unfollowed := true, recurses := true, plainKeys := false, apart := false, narrowed := true }
def LendBoundsUptoSaid : Prop := lendBoundsUptoRow.holds Try.pinned (OpenSpec.upto lendBoundsSpec)

/-- 'kingpinlaw06.LendProof', WHERE WHAT IT READS IS OF BULK AT MOST 1048576: true; the input reads as it did. -/
def lendProofUptoRow : OpenClaim := { program := "ytkmaafnbefpdjaa", sum := "df18d23159651b47f3e0e878db413e08d672e347cc66891eac88e7d57b038270", func := "kingpin/kingpinlaw06.LendProof", spec := "lendProof", unfollowed := true, recurses := true, plainKeys := false, apart := false, narrowed := true }
def LendProofUptoSaid : Prop := lendProofUptoRow.holds Try.pinned (OpenSpec.upto lendProofSpec)

/-- 'kingpinlaw06.LendWhole', WHERE WHAT IT READS IS OF BULK AT MOST 1048576: true; the input reads as it did. -/
def lendWholeUptoRow : OpenClaim := { program := "ytkmaafnbefpdjaa", sum := "df18d23159651b47f3e0e878db413e08d672e347cc66891eac88e7d57b038270", func := "kingpin/kingpinlaw06.LendWhole", spec := "lendWhole", unfollowed := true, recurses := true, plainKeys := false, apart := false, narrowed := true }
def LendWholeUptoSaid : Prop := lendWholeUptoRow.holds Try.pinned (OpenSpec.upto lendWholeSpec)

/-- 'kingpinlaw06.LendFits', WHERE WHAT IT READS IS OF BULK AT MOST 1048576: true; the input reads as it did. -/
def lendFitsUptoRow : OpenClaim := { program := "ytkmaafnbefpdjaa", sum := "df18d23159651b47f3e0e878db413e08d672e347cc66891eac88e7d57b038270", func := "kingpin/kingpinlaw06.LendFits", spec := "lendFits", unfollowed := true, recurses := true, plainKeys := false, apart := false, narrowed := true }
def LendFitsUptoSaid : Prop := lendFitsUptoRow.holds Try.pinned (OpenSpec.upto lendFitsSpec)

/-- 'kingpinlaw06.LendFeet', WHERE WHAT IT READS IS OF BULK AT MOST 1048576: true; the input reads as it did. -/
def lendFeetUptoRow : OpenClaim := { program := "ytkmaafnbefpdjaa", sum := "df18d23159651b47f3e0e878db413e08d672e347cc66891eac88e7d57b038270", func := "kingpin/kingpinlaw06.LendFeet", spec := "lendFeet", unfollowed := true, recurses := true, plainKeys := false, apart := false, narrowed := true }
def LendFeetUptoSaid : Prop := lendFeetUptoRow.holds Try.pinned (OpenSpec.upto lendFeetSpec)

/-- 'kingpinlaw06.LendNames', WHERE WHAT IT READS IS OF BULK AT MOST 1048576: true; the input reads as it did. -/
def lendNamesUptoRow : OpenClaim := { program := "ytkmaafnbefpdjaa", sum := "df18d23159651b47f3e0e878db413e08d672e347cc66891eac88e7d57b038270", func := "kingpin/kingpinlaw06.LendNames", spec := "lendNames", unfollowed := true, recurses := true, plainKeys := false, apart := false, narrowed := true }
def LendNamesUptoSaid : Prop := lendNamesUptoRow.holds Try.pinned (OpenSpec.upto lendNamesSpec)

end Rows
end Go.Proofs.Ytkmaafnbefpdjaa
