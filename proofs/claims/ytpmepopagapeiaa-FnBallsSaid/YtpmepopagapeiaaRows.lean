/-
  No cell of these rows narrows 'for every input' (looked for: loops, veiled, ifaces, maps, wideKeys, modest, calm, conditions, laid).
  DERIVED. THE GIVEN ROWS OF THIS SEAT. 8 by the template 'for every input the law returns true; each argument reads behind the call as it read before'; 0 by the template 'total and deterministic' (their statements: YtpmepopagapeiaaTotals.lean).
  GIVEN WITH THE SEED: the statements are not yours to turn. If you find one false, say at which input.
  Laid BY PROGRAM, IN A SANDBOX (cutbox-rows.mjs): the forced cells as the released guide's own fill.sh prints them over the translation 0d810a7f2eb19997… (all of the seat's roots in one cut). By AI agents, Wed Nov 11 2026. No macro, syntax, notation, axiom, sorry.
-/
import Derived.Test.YtpmepopagapeiaaChecked
import GoSem.Claim
import GoSem.ClaimJoined
import GoSem.ClaimMapViews
import Derived.JoinedTies
import Derived.KernelRfl
namespace Go.Proofs.Ytpmepopagapeiaa
/- THE CELL 'sum', in the pinned program and in every row, IS THE sha256 OF THE DUMP (.gsa) THAT YtpmepopagapeiaaProg.lean LOADS. Nothing in Lean hashes anything: it is a label: what it is worth is what the hold of that sum in a sandbox is worth. -/
noncomputable def Try.pinned : Pinned := { name := "ytpmepopagapeiaa", sum := "0d810a7f2eb19997c75537e4cdc9b5d629ab4ca95d9638882811423102d3c640", checked := Try.checked }
namespace Rows
def none {H : Type} : Left H := { results := [], args := [] }

/-- 'laws.FnExactGeodesicOf': WHATEVER THE INPUT: true; the input reads as it did. -/
def fnExactGeodesicOfSpec : ChangeSpec := { name := "fnExactGeodesicOf", fn := fun _ => fun
  | [d1, d2, d3] => { results := [.lit (.bool true)], args := [d1, d2, d3] }
  | _ => none }
def fnExactGeodesicOfRow : OpenClaim := { program := "ytpmepopagapeiaa", sum := "0d810a7f2eb19997c75537e4cdc9b5d629ab4ca95d9638882811423102d3c640", func := "loop.example/g01252/laws.FnExactGeodesicOf", spec := "fnExactGeodesicOf", apart := false }
def FnExactGeodesicOfSaid : Prop := fnExactGeodesicOfRow.holds Try.pinned (OpenSpec.ofChange fnExactGeodesicOfSpec)

/-- ITS FALSE NEIGHBOUR: 'it returns false'. Refute it at one input. -/
def fnExactGeodesicOfWrong : ChangeSpec := { name := "fnExactGeodesicOf", fn := fun _ => fun
  | [d1, d2, d3] => { results := [.lit (.bool false)], args := [d1, d2, d3] }
  | _ => none }
def FnExactGeodesicOfWrongFalsely : Prop := fnExactGeodesicOfRow.holds Try.pinned (OpenSpec.ofChange fnExactGeodesicOfWrong)

/-- 'laws.FnExactNeighboursOf': WHATEVER THE INPUT: true; the input reads as it did. -/
def fnExactNeighboursOfSpec : ChangeSpec := { name := "fnExactNeighboursOf", fn := fun _ => fun
  | [d1, d2] => { results := [.lit (.bool true)], args := [d1, d2] }
  | _ => none }
def fnExactNeighboursOfRow : OpenClaim := { program := "ytpmepopagapeiaa", sum := "0d810a7f2eb19997c75537e4cdc9b5d629ab4ca95d9638882811423102d3c640", func := "loop.example/g01252/laws.FnExactNeighboursOf", spec := "fnExactNeighboursOf", apart := false }
def FnExactNeighboursOfSaid : Prop := fnExactNeighboursOfRow.holds Try.pinned (OpenSpec.ofChange fnExactNeighboursOfSpec)

/-- ITS FALSE NEIGHBOUR: 'it returns false'. Refute it at one input. -/
def fnExactNeighboursOfWrong : ChangeSpec := { name := "fnExactNeighboursOf", fn := fun _ => fun
  | [d1, d2] => { results := [.lit (.bool false)], args := [d1, d2] }
  | _ => none }
def FnExactNeighboursOfWrongFalsely : Prop := fnExactNeighboursOfRow.holds Try.pinned (OpenSpec.ofChange fnExactNeighboursOfWrong)

/-- 'laws.FnExactSphereAround': WHATEVER THE INPUT: true; the input reads as it did. -/
def fnExactSphereAroundSpec : ChangeSpec := { name := "fnExactSphereAround", fn := fun _ => fun
  | [d1, d2, d3] => { results := [.lit (.bool true)], args := [d1, d2, d3] }
  | _ => none }
def fnExactSphereAroundRow : OpenClaim := { program := "ytpmepopagapeiaa", sum := "0d810a7f2eb19997c75537e4cdc9b5d629ab4ca95d9638882811423102d3c640", func := "loop.example/g01252/laws.FnExactSphereAround", spec := "fnExactSphereAround", apart := false }
def FnExactSphereAroundSaid : Prop := fnExactSphereAroundRow.holds Try.pinned (OpenSpec.ofChange fnExactSphereAroundSpec)

/-- ITS FALSE NEIGHBOUR: 'it returns false'. Refute it at one input. -/
def fnExactSphereAroundWrong : ChangeSpec := { name := "fnExactSphereAround", fn := fun _ => fun
  | [d1, d2, d3] => { results := [.lit (.bool false)], args := [d1, d2, d3] }
  | _ => none }
def FnExactSphereAroundWrongFalsely : Prop := fnExactSphereAroundRow.holds Try.pinned (OpenSpec.ofChange fnExactSphereAroundWrong)

/-- 'laws.FnBallSums': WHATEVER THE INPUT: true; the input reads as it did. -/
def fnBallSumsSpec : ChangeSpec := { name := "fnBallSums", fn := fun _ => fun
  | [d] => { results := [.lit (.bool true)], args := [d] }
  | _ => none }
def fnBallSumsRow : OpenClaim := { program := "ytpmepopagapeiaa", sum := "0d810a7f2eb19997c75537e4cdc9b5d629ab4ca95d9638882811423102d3c640", func := "loop.example/g01252/laws.FnBallSums", spec := "fnBallSums", apart := false }
def FnBallSumsSaid : Prop := fnBallSumsRow.holds Try.pinned (OpenSpec.ofChange fnBallSumsSpec)

/-- ITS FALSE NEIGHBOUR: 'it returns false'. Refute it at one input. -/
def fnBallSumsWrong : ChangeSpec := { name := "fnBallSums", fn := fun _ => fun
  | [d] => { results := [.lit (.bool false)], args := [d] }
  | _ => none }
def FnBallSumsWrongFalsely : Prop := fnBallSumsRow.holds Try.pinned (OpenSpec.ofChange fnBallSumsWrong)

/-- 'laws.FnNeighbours': WHATEVER THE INPUT: true; the input reads as it did. -/
def fnNeighboursSpec : ChangeSpec := { name := "fnNeighbours", fn := fun _ => fun
  | [d] => { results := [.lit (.bool true)], args := [d] }
  | _ => none }
def fnNeighboursRow : OpenClaim := { program := "ytpmepopagapeiaa", sum := "0d810a7f2eb19997c75537e4cdc9b5d629ab4ca95d9638882811423102d3c640", func := "loop.example/g01252/laws.FnNeighbours", spec := "fnNeighbours", apart := false }
def FnNeighboursSaid : Prop := fnNeighboursRow.holds Try.pinned (OpenSpec.ofChange fnNeighboursSpec)

/-- ITS FALSE NEIGHBOUR: 'it returns false'. Refute it at one input. -/
def fnNeighboursWrong : ChangeSpec := { name := "fnNeighbours", fn := fun _ => fun
  | [d] => { results := [.lit (.bool false)], args := [d] }
  | _ => none }
def FnNeighboursWrongFalsely : Prop := fnNeighboursRow.holds Try.pinned (OpenSpec.ofChange fnNeighboursWrong)

/-- 'laws.FnTreeDistances': WHATEVER THE INPUT: true; the input reads as it did. -/
def fnTreeDistancesSpec : ChangeSpec := { name := "fnTreeDistances", fn := fun _ => fun
  | [d] => { results := [.lit (.bool true)], args := [d] }
  | _ => none }
def fnTreeDistancesRow : OpenClaim := { program := "ytpmepopagapeiaa", sum := "0d810a7f2eb19997c75537e4cdc9b5d629ab4ca95d9638882811423102d3c640", func := "loop.example/g01252/laws.FnTreeDistances", spec := "fnTreeDistances", apart := false }
def FnTreeDistancesSaid : Prop := fnTreeDistancesRow.holds Try.pinned (OpenSpec.ofChange fnTreeDistancesSpec)

/-- ITS FALSE NEIGHBOUR: 'it returns false'. Refute it at one input. -/
def fnTreeDistancesWrong : ChangeSpec := { name := "fnTreeDistances", fn := fun _ => fun
  | [d] => { results := [.lit (.bool false)], args := [d] }
  | _ => none }
def FnTreeDistancesWrongFalsely : Prop := fnTreeDistancesRow.holds Try.pinned (OpenSpec.ofChange fnTreeDistancesWrong)

/-- 'laws.FnMedians': WHATEVER THE INPUT: true; the input reads as it did. -/
def fnMediansSpec : ChangeSpec := { name := "fnMedians", fn := fun _ => fun
  | [d] => { results := [.lit (.bool true)], args := [d] }
  | _ => none }
def fnMediansRow : OpenClaim := { program := "ytpmepopagapeiaa", sum := "0d810a7f2eb19997c75537e4cdc9b5d629ab4ca95d9638882811423102d3c640", func := "loop.example/g01252/laws.FnMedians", spec := "fnMedians", apart := false }
def FnMediansSaid : Prop := fnMediansRow.holds Try.pinned (OpenSpec.ofChange fnMediansSpec)

/-- ITS FALSE NEIGHBOUR: 'it returns false'. Refute it at one input. -/
def fnMediansWrong : ChangeSpec := { name := "fnMedians", fn := fun _ => fun
  | [d] => { results := [.lit (.bool false)], args := [d] }
  | _ => none }
def FnMediansWrongFalsely : Prop := fnMediansRow.holds Try.pinned (OpenSpec.ofChange fnMediansWrong)

/-- 'laws.FnBalls': WHATEVER THE INPUT: true; the input reads as it did. -/
def fnBallsSpec : ChangeSpec := { name := "fnBalls", fn := fun _ => fun
  | [d] => { results := [.lit (.bool true)], args := [d] }
  | _ => none }
def fnBallsRow : OpenClaim := { program := "ytpmepopagapeiaa", sum := "0d810a7f2eb19997c75537e4cdc9b5d629ab4ca95d9638882811423102d3c640", func := "loop.example/g01252/laws.FnBalls", spec := "fnBalls", named := ["math/bits.divideError", "math/bits.overflowError"], apart := false }
def FnBallsSaid : Prop := fnBallsRow.holds Try.pinned (OpenSpec.ofChange fnBallsSpec)

/-- ITS FALSE NEIGHBOUR: 'it returns false'. Refute it at one input. -/
def fnBallsWrong : ChangeSpec := { name := "fnBalls", fn := fun _ => fun
  | [d] => { results := [.lit (.bool false)], args := [d] }
  | _ => none }
def FnBallsWrongFalsely : Prop := fnBallsRow.holds Try.pinned (OpenSpec.ofChange fnBallsWrong)

/- THE SECOND FORM. 'bulk': how many values and letters a reading holds, each counted each time it is reached (what is shared counts as often as it is met; a slice's spare places count too). A statement '..UptoSaid' is the law's where the arguments, and the package variables that the reading takes, are together of bulk at most 1048576: NARROWER than '..Said'. Prove '..Said' where nothing that the law and all that it calls make is longer than what came in: it says more and counts as full. Else prove '..UptoSaid'. A law counts once. -/
mutual
def uptoBulk {H : Type} : DataW H → Nat
  | .lit (.string bytes) => bytes.length + 1
  | .lit _ => 1
  | .nil => 1
  | .ptr d => uptoBulk d + 1
  | .slice elems spare => uptoBulkAll elems + uptoBulkAll spare + 1
  | .agg parts => uptoBulkAll parts + 1
  | .iface _ d => uptoBulk d + 1
  | .map entries => uptoBulkEntries entries + 1
  | .held _ => 1
def uptoBulkAll {H : Type} : List (DataW H) → Nat
  | [] => 0
  | d :: r => uptoBulk d + uptoBulkAll r
def uptoBulkEntries {H : Type} : List (Lit × DataW H) → Nat
  | [] => 0
  | x :: r => uptoBulkEntry x + uptoBulkEntries r
def uptoBulkEntry {H : Type} : Lit × DataW H → Nat
  | (.string bytes, d) => bytes.length + uptoBulk d + 1
  | (_, d) => uptoBulk d + 1
 end
def uptoSmall : (H : Type) → List (DataW H) → Bool := fun _ ds => decide (uptoBulkAll ds ≤ 1048576)
def OpenSpec.upto (s : _root_.Go.ChangeSpec) : _root_.Go.OpenSpec := { _root_.Go.OpenSpec.ofChange s with cond := some uptoSmall }

/-- 'laws.FnExactGeodesicOf', WHERE WHAT IT READS IS OF BULK AT MOST 1048576: true; the input reads as it did. -/
def fnExactGeodesicOfUptoRow : OpenClaim := { program := "ytpmepopagapeiaa", sum := "0d810a7f2eb19997c75537e4cdc9b5d629ab4ca95d9638882811423102d3c640", func := "loop.example/g01252/laws.FnExactGeodesicOf", spec := "fnExactGeodesicOf", apart := false, narrowed := true }
def FnExactGeodesicOfUptoSaid : Prop := fnExactGeodesicOfUptoRow.holds Try.pinned (OpenSpec.upto fnExactGeodesicOfSpec)

/-- 'laws.FnExactNeighboursOf', WHERE WHAT IT READS IS OF BULK AT MOST 1048576: true; the input reads as it did. -/
def fnExactNeighboursOfUptoRow : OpenClaim := { program := "ytpmepopagapeiaa", sum := "0d810a7f2eb19997c75537e4cdc9b5d629ab4ca95d9638882811423102d3c640", func := "loop.example/g01252/laws.FnExactNeighboursOf", spec := "fnExactNeighboursOf", apart := false, narrowed := true }
def FnExactNeighboursOfUptoSaid : Prop := fnExactNeighboursOfUptoRow.holds Try.pinned (OpenSpec.upto fnExactNeighboursOfSpec)

/-- 'laws.FnExactSphereAround', WHERE WHAT IT READS IS OF BULK AT MOST 1048576: true; the input reads as it did. -/
def fnExactSphereAroundUptoRow : OpenClaim := { program := "ytpmepopagapeiaa", sum := "0d810a7f2eb19997c75537e4cdc9b5d629ab4ca95d9638882811423102d3c640", func := "loop.example/g01252/laws.FnExactSphereAround", spec := "fnExactSphereAround", apart := false, narrowed := true }
def FnExactSphereAroundUptoSaid : Prop := fnExactSphereAroundUptoRow.holds Try.pinned (OpenSpec.upto fnExactSphereAroundSpec)

/-- 'laws.FnBallSums', WHERE WHAT IT READS IS OF BULK AT MOST 1048576: true; the input reads as it did. -/
def fnBallSumsUptoRow : OpenClaim := { program := "ytpmepopagapeiaa", sum := "0d810a7f2eb19997c75537e4cdc9b5d629ab4ca95d9638882811423102d3c640", func := "loop.example/g01252/laws.FnBallSums", spec := "fnBallSums", apart := false, narrowed := true }
def FnBallSumsUptoSaid : Prop := fnBallSumsUptoRow.holds Try.pinned (OpenSpec.upto fnBallSumsSpec)

/-- 'laws.FnNeighbours', WHERE WHAT IT READS IS OF BULK AT MOST 1048576: true; the input reads as it did. -/
def fnNeighboursUptoRow : OpenClaim := { program := "ytpmepopagapeiaa", sum := "0d810a7f2eb19997c75537e4cdc9b5d629ab4ca95d9638882811423102d3c640", func := "loop.example/g01252/laws.FnNeighbours", spec := "fnNeighbours", apart := false, narrowed := true }
def FnNeighboursUptoSaid : Prop := fnNeighboursUptoRow.holds Try.pinned (OpenSpec.upto fnNeighboursSpec)

/-- 'laws.FnTreeDistances', WHERE WHAT IT READS IS OF BULK AT MOST 1048576: true; the input reads as it did. -/
def fnTreeDistancesUptoRow : OpenClaim := { program := "ytpmepopagapeiaa", sum := "0d810a7f2eb19997c75537e4cdc9b5d629ab4ca95d9638882811423102d3c640", func := "loop.example/g01252/laws.FnTreeDistances", spec := "fnTreeDistances", apart := false, narrowed := true }
def FnTreeDistancesUptoSaid : Prop := fnTreeDistancesUptoRow.holds Try.pinned (OpenSpec.upto fnTreeDistancesSpec)

/-- 'laws.FnMedians', WHERE WHAT IT READS IS OF BULK AT MOST 1048576: true; the input reads as it did. -/
def fnMediansUptoRow : OpenClaim := { program := "ytpmepopagapeiaa", sum := "0d810a7f2eb19997c75537e4cdc9b5d629ab4ca95d9638882811423102d3c640", func := "loop.example/g01252/laws.FnMedians", spec := "fnMedians", apart := false, narrowed := true }
def FnMediansUptoSaid : Prop := fnMediansUptoRow.holds Try.pinned (OpenSpec.upto fnMediansSpec)

/-- 'laws.FnBalls', WHERE WHAT IT READS IS OF BULK AT MOST 1048576: true; the input reads as it did. -/
def fnBallsUptoRow : OpenClaim := { program := "ytpmepopagapeiaa", sum := "0d810a7f2eb19997c75537e4cdc9b5d629ab4ca95d9638882811423102d3c640", func := "loop.example/g01252/laws.FnBalls", spec := "fnBalls", named := ["math/bits.divideError", "math/bits.overflowError"], apart := false, narrowed := true }
def FnBallsUptoSaid : Prop := fnBallsUptoRow.holds Try.pinned (OpenSpec.upto fnBallsSpec)

end Rows
end Go.Proofs.Ytpmepopagapeiaa
