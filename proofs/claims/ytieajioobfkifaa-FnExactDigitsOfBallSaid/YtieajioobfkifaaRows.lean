/-
  No cell of these rows narrows 'for every input' (looked for: loops, veiled, ifaces, maps, wideKeys, modest, calm, conditions, laid).
  DERIVED. THE GIVEN ROWS OF THIS SEAT. 12 by the template 'for every input the law returns true; each argument reads behind the call as it read before'; 0 by the template 'total and deterministic' (their statements: YtieajioobfkifaaTotals.lean).
  GIVEN WITH THE SEED: the statements are not yours to turn. If you find one false, say at which input.
  Laid BY PROGRAM, IN A SANDBOX (cutbox-rows.mjs): the forced cells as the released guide's own fill.sh prints them over the translation 29e563e9d3b8a72c… (all of the seat's roots in one cut). By AI agents, Wed Nov 11 2026. No macro, syntax, notation, axiom, sorry.
-/
import Derived.Test.YtieajioobfkifaaChecked
import GoSem.Claim
import GoSem.ClaimJoined
import GoSem.ClaimMapViews
import Derived.JoinedTies
import Derived.KernelRfl
namespace Go.Proofs.Ytieajioobfkifaa
/- THE CELL 'sum', in the pinned program and in every row, IS THE sha256 OF THE DUMP (.gsa) THAT YtieajioobfkifaaProg.lean LOADS. Nothing in Lean hashes anything: it is a label: what it is worth is what the hold of that sum in a sandbox is worth. -/
noncomputable def Try.pinned : Pinned := { name := "ytieajioobfkifaa", sum := "29e563e9d3b8a72c36e6488b9e819933e2fae428b0a78e1987ba33063bc9a162", checked := Try.checked }
namespace Rows
def none {H : Type} : Left H := { results := [], args := [] }

/-- 'laws.FnExactContains': WHATEVER THE INPUT: true; the input reads as it did. -/
def fnExactContainsSpec : ChangeSpec := { name := "fnExactContains", fn := fun _ => fun
  | [d1, d2, d3] => { results := [.lit (.bool true)], args := [d1, d2, d3] }
  | _ => none }
def fnExactContainsRow : OpenClaim := { program := "ytieajioobfkifaa", sum := "29e563e9d3b8a72c36e6488b9e819933e2fae428b0a78e1987ba33063bc9a162", func := "loop.example/g01252/laws.FnExactContains", spec := "fnExactContains", apart := false }
def FnExactContainsSaid : Prop := fnExactContainsRow.holds Try.pinned (OpenSpec.ofChange fnExactContainsSpec)

/-- ITS FALSE NEIGHBOUR: 'it returns false'. Refute it at one input. -/
def fnExactContainsWrong : ChangeSpec := { name := "fnExactContains", fn := fun _ => fun
  | [d1, d2, d3] => { results := [.lit (.bool false)], args := [d1, d2, d3] }
  | _ => none }
def FnExactContainsWrongFalsely : Prop := fnExactContainsRow.holds Try.pinned (OpenSpec.ofChange fnExactContainsWrong)

/-- 'laws.FnExactTreeDistance': WHATEVER THE INPUT: true; the input reads as it did. -/
def fnExactTreeDistanceSpec : ChangeSpec := { name := "fnExactTreeDistance", fn := fun _ => fun
  | [d1, d2, d3] => { results := [.lit (.bool true)], args := [d1, d2, d3] }
  | _ => none }
def fnExactTreeDistanceRow : OpenClaim := { program := "ytieajioobfkifaa", sum := "29e563e9d3b8a72c36e6488b9e819933e2fae428b0a78e1987ba33063bc9a162", func := "loop.example/g01252/laws.FnExactTreeDistance", spec := "fnExactTreeDistance", apart := false }
def FnExactTreeDistanceSaid : Prop := fnExactTreeDistanceRow.holds Try.pinned (OpenSpec.ofChange fnExactTreeDistanceSpec)

/-- ITS FALSE NEIGHBOUR: 'it returns false'. Refute it at one input. -/
def fnExactTreeDistanceWrong : ChangeSpec := { name := "fnExactTreeDistance", fn := fun _ => fun
  | [d1, d2, d3] => { results := [.lit (.bool false)], args := [d1, d2, d3] }
  | _ => none }
def FnExactTreeDistanceWrongFalsely : Prop := fnExactTreeDistanceRow.holds Try.pinned (OpenSpec.ofChange fnExactTreeDistanceWrong)

/-- 'laws.FnExactDigitsOfBall': WHATEVER THE INPUT: true; the input reads as it did. -/
def fnExactDigitsOfBallSpec : ChangeSpec := { name := "fnExactDigitsOfBall", fn := fun _ => fun
  | [d1, d2] => { results := [.lit (.bool true)], args := [d1, d2] }
  | _ => none }
def fnExactDigitsOfBallRow : OpenClaim := { program := "ytieajioobfkifaa", sum := "29e563e9d3b8a72c36e6488b9e819933e2fae428b0a78e1987ba33063bc9a162", func := "loop.example/g01252/laws.FnExactDigitsOfBall", spec := "fnExactDigitsOfBall", apart := false }
def FnExactDigitsOfBallSaid : Prop := fnExactDigitsOfBallRow.holds Try.pinned (OpenSpec.ofChange fnExactDigitsOfBallSpec)

/-- ITS FALSE NEIGHBOUR: 'it returns false'. Refute it at one input. -/
def fnExactDigitsOfBallWrong : ChangeSpec := { name := "fnExactDigitsOfBall", fn := fun _ => fun
  | [d1, d2] => { results := [.lit (.bool false)], args := [d1, d2] }
  | _ => none }
def FnExactDigitsOfBallWrongFalsely : Prop := fnExactDigitsOfBallRow.holds Try.pinned (OpenSpec.ofChange fnExactDigitsOfBallWrong)

/-- 'laws.FnExactCentreOf': WHATEVER THE INPUT: true; the input reads as it did. -/
def fnExactCentreOfSpec : ChangeSpec := { name := "fnExactCentreOf", fn := fun _ => fun
  | [d1, d2] => { results := [.lit (.bool true)], args := [d1, d2] }
  | _ => none }
def fnExactCentreOfRow : OpenClaim := { program := "ytieajioobfkifaa", sum := "29e563e9d3b8a72c36e6488b9e819933e2fae428b0a78e1987ba33063bc9a162", func := "loop.example/g01252/laws.FnExactCentreOf", spec := "fnExactCentreOf", apart := false }
def FnExactCentreOfSaid : Prop := fnExactCentreOfRow.holds Try.pinned (OpenSpec.ofChange fnExactCentreOfSpec)

/-- ITS FALSE NEIGHBOUR: 'it returns false'. Refute it at one input. -/
def fnExactCentreOfWrong : ChangeSpec := { name := "fnExactCentreOf", fn := fun _ => fun
  | [d1, d2] => { results := [.lit (.bool false)], args := [d1, d2] }
  | _ => none }
def FnExactCentreOfWrongFalsely : Prop := fnExactCentreOfRow.holds Try.pinned (OpenSpec.ofChange fnExactCentreOfWrong)

/-- 'laws.FnExactHoldsBall': WHATEVER THE INPUT: true; the input reads as it did. -/
def fnExactHoldsBallSpec : ChangeSpec := { name := "fnExactHoldsBall", fn := fun _ => fun
  | [d1, d2, d3] => { results := [.lit (.bool true)], args := [d1, d2, d3] }
  | _ => none }
def fnExactHoldsBallRow : OpenClaim := { program := "ytieajioobfkifaa", sum := "29e563e9d3b8a72c36e6488b9e819933e2fae428b0a78e1987ba33063bc9a162", func := "loop.example/g01252/laws.FnExactHoldsBall", spec := "fnExactHoldsBall", apart := false }
def FnExactHoldsBallSaid : Prop := fnExactHoldsBallRow.holds Try.pinned (OpenSpec.ofChange fnExactHoldsBallSpec)

/-- ITS FALSE NEIGHBOUR: 'it returns false'. Refute it at one input. -/
def fnExactHoldsBallWrong : ChangeSpec := { name := "fnExactHoldsBall", fn := fun _ => fun
  | [d1, d2, d3] => { results := [.lit (.bool false)], args := [d1, d2, d3] }
  | _ => none }
def FnExactHoldsBallWrongFalsely : Prop := fnExactHoldsBallRow.holds Try.pinned (OpenSpec.ofChange fnExactHoldsBallWrong)

/-- 'laws.FnExactAreApart': WHATEVER THE INPUT: true; the input reads as it did. -/
def fnExactAreApartSpec : ChangeSpec := { name := "fnExactAreApart", fn := fun _ => fun
  | [d1, d2, d3] => { results := [.lit (.bool true)], args := [d1, d2, d3] }
  | _ => none }
def fnExactAreApartRow : OpenClaim := { program := "ytieajioobfkifaa", sum := "29e563e9d3b8a72c36e6488b9e819933e2fae428b0a78e1987ba33063bc9a162", func := "loop.example/g01252/laws.FnExactAreApart", spec := "fnExactAreApart", apart := false }
def FnExactAreApartSaid : Prop := fnExactAreApartRow.holds Try.pinned (OpenSpec.ofChange fnExactAreApartSpec)

/-- ITS FALSE NEIGHBOUR: 'it returns false'. Refute it at one input. -/
def fnExactAreApartWrong : ChangeSpec := { name := "fnExactAreApart", fn := fun _ => fun
  | [d1, d2, d3] => { results := [.lit (.bool false)], args := [d1, d2, d3] }
  | _ => none }
def FnExactAreApartWrongFalsely : Prop := fnExactAreApartRow.holds Try.pinned (OpenSpec.ofChange fnExactAreApartWrong)

/-- 'laws.FnExactOppositeBall': WHATEVER THE INPUT: true; the input reads as it did. -/
def fnExactOppositeBallSpec : ChangeSpec := { name := "fnExactOppositeBall", fn := fun _ => fun
  | [d1, d2] => { results := [.lit (.bool true)], args := [d1, d2] }
  | _ => none }
def fnExactOppositeBallRow : OpenClaim := { program := "ytieajioobfkifaa", sum := "29e563e9d3b8a72c36e6488b9e819933e2fae428b0a78e1987ba33063bc9a162", func := "loop.example/g01252/laws.FnExactOppositeBall", spec := "fnExactOppositeBall", apart := false }
def FnExactOppositeBallSaid : Prop := fnExactOppositeBallRow.holds Try.pinned (OpenSpec.ofChange fnExactOppositeBallSpec)

/-- ITS FALSE NEIGHBOUR: 'it returns false'. Refute it at one input. -/
def fnExactOppositeBallWrong : ChangeSpec := { name := "fnExactOppositeBall", fn := fun _ => fun
  | [d1, d2] => { results := [.lit (.bool false)], args := [d1, d2] }
  | _ => none }
def FnExactOppositeBallWrongFalsely : Prop := fnExactOppositeBallRow.holds Try.pinned (OpenSpec.ofChange fnExactOppositeBallWrong)

/-- 'laws.FnExactHeightOver': WHATEVER THE INPUT: true; the input reads as it did. -/
def fnExactHeightOverSpec : ChangeSpec := { name := "fnExactHeightOver", fn := fun _ => fun
  | [d1, d2, d3, d4] => { results := [.lit (.bool true)], args := [d1, d2, d3, d4] }
  | _ => none }
def fnExactHeightOverRow : OpenClaim := { program := "ytieajioobfkifaa", sum := "29e563e9d3b8a72c36e6488b9e819933e2fae428b0a78e1987ba33063bc9a162", func := "loop.example/g01252/laws.FnExactHeightOver", spec := "fnExactHeightOver", apart := false }
def FnExactHeightOverSaid : Prop := fnExactHeightOverRow.holds Try.pinned (OpenSpec.ofChange fnExactHeightOverSpec)

/-- ITS FALSE NEIGHBOUR: 'it returns false'. Refute it at one input. -/
def fnExactHeightOverWrong : ChangeSpec := { name := "fnExactHeightOver", fn := fun _ => fun
  | [d1, d2, d3, d4] => { results := [.lit (.bool false)], args := [d1, d2, d3, d4] }
  | _ => none }
def FnExactHeightOverWrongFalsely : Prop := fnExactHeightOverRow.holds Try.pinned (OpenSpec.ofChange fnExactHeightOverWrong)

/-- 'laws.FnExactHoldsFraction': WHATEVER THE INPUT: true; the input reads as it did. -/
def fnExactHoldsFractionSpec : ChangeSpec := { name := "fnExactHoldsFraction", fn := fun _ => fun
  | [d1, d2, d3, d4] => { results := [.lit (.bool true)], args := [d1, d2, d3, d4] }
  | _ => none }
def fnExactHoldsFractionRow : OpenClaim := { program := "ytieajioobfkifaa", sum := "29e563e9d3b8a72c36e6488b9e819933e2fae428b0a78e1987ba33063bc9a162", func := "loop.example/g01252/laws.FnExactHoldsFraction", spec := "fnExactHoldsFraction", apart := false }
def FnExactHoldsFractionSaid : Prop := fnExactHoldsFractionRow.holds Try.pinned (OpenSpec.ofChange fnExactHoldsFractionSpec)

/-- ITS FALSE NEIGHBOUR: 'it returns false'. Refute it at one input. -/
def fnExactHoldsFractionWrong : ChangeSpec := { name := "fnExactHoldsFraction", fn := fun _ => fun
  | [d1, d2, d3, d4] => { results := [.lit (.bool false)], args := [d1, d2, d3, d4] }
  | _ => none }
def FnExactHoldsFractionWrongFalsely : Prop := fnExactHoldsFractionRow.holds Try.pinned (OpenSpec.ofChange fnExactHoldsFractionWrong)

/-- 'laws.FnExactParentOf': WHATEVER THE INPUT: true; the input reads as it did. -/
def fnExactParentOfSpec : ChangeSpec := { name := "fnExactParentOf", fn := fun _ => fun
  | [d1, d2] => { results := [.lit (.bool true)], args := [d1, d2] }
  | _ => none }
def fnExactParentOfRow : OpenClaim := { program := "ytieajioobfkifaa", sum := "29e563e9d3b8a72c36e6488b9e819933e2fae428b0a78e1987ba33063bc9a162", func := "loop.example/g01252/laws.FnExactParentOf", spec := "fnExactParentOf", apart := false }
def FnExactParentOfSaid : Prop := fnExactParentOfRow.holds Try.pinned (OpenSpec.ofChange fnExactParentOfSpec)

/-- ITS FALSE NEIGHBOUR: 'it returns false'. Refute it at one input. -/
def fnExactParentOfWrong : ChangeSpec := { name := "fnExactParentOf", fn := fun _ => fun
  | [d1, d2] => { results := [.lit (.bool false)], args := [d1, d2] }
  | _ => none }
def FnExactParentOfWrongFalsely : Prop := fnExactParentOfRow.holds Try.pinned (OpenSpec.ofChange fnExactParentOfWrong)

/-- 'laws.FnExactAddBalls': WHATEVER THE INPUT: true; the input reads as it did. -/
def fnExactAddBallsSpec : ChangeSpec := { name := "fnExactAddBalls", fn := fun _ => fun
  | [d1, d2, d3] => { results := [.lit (.bool true)], args := [d1, d2, d3] }
  | _ => none }
def fnExactAddBallsRow : OpenClaim := { program := "ytieajioobfkifaa", sum := "29e563e9d3b8a72c36e6488b9e819933e2fae428b0a78e1987ba33063bc9a162", func := "loop.example/g01252/laws.FnExactAddBalls", spec := "fnExactAddBalls", apart := false }
def FnExactAddBallsSaid : Prop := fnExactAddBallsRow.holds Try.pinned (OpenSpec.ofChange fnExactAddBallsSpec)

/-- ITS FALSE NEIGHBOUR: 'it returns false'. Refute it at one input. -/
def fnExactAddBallsWrong : ChangeSpec := { name := "fnExactAddBalls", fn := fun _ => fun
  | [d1, d2, d3] => { results := [.lit (.bool false)], args := [d1, d2, d3] }
  | _ => none }
def FnExactAddBallsWrongFalsely : Prop := fnExactAddBallsRow.holds Try.pinned (OpenSpec.ofChange fnExactAddBallsWrong)

/-- 'laws.FnExactJoinOf': WHATEVER THE INPUT: true; the input reads as it did. -/
def fnExactJoinOfSpec : ChangeSpec := { name := "fnExactJoinOf", fn := fun _ => fun
  | [d1, d2, d3] => { results := [.lit (.bool true)], args := [d1, d2, d3] }
  | _ => none }
def fnExactJoinOfRow : OpenClaim := { program := "ytieajioobfkifaa", sum := "29e563e9d3b8a72c36e6488b9e819933e2fae428b0a78e1987ba33063bc9a162", func := "loop.example/g01252/laws.FnExactJoinOf", spec := "fnExactJoinOf", apart := false }
def FnExactJoinOfSaid : Prop := fnExactJoinOfRow.holds Try.pinned (OpenSpec.ofChange fnExactJoinOfSpec)

/-- ITS FALSE NEIGHBOUR: 'it returns false'. Refute it at one input. -/
def fnExactJoinOfWrong : ChangeSpec := { name := "fnExactJoinOf", fn := fun _ => fun
  | [d1, d2, d3] => { results := [.lit (.bool false)], args := [d1, d2, d3] }
  | _ => none }
def FnExactJoinOfWrongFalsely : Prop := fnExactJoinOfRow.holds Try.pinned (OpenSpec.ofChange fnExactJoinOfWrong)

/- THE SECOND FORM. 'bulk': how many values and letters a reading holds, each counted each time it is reached (what is shared counts as often as it is met; a slice's spare places count too). A statement '..UptoSaid' is the law's where the arguments, and the package variables that the reading takes, are together of bulk at most 1048576: NARROWER than '..Said'. Prove '..Said' where nothing that the law and all that it calls make is longer than what came in: it says more and counts as full. Else prove '..UptoSaid'. A law counts once. -/
mutual
def uptoBulk {H : Type} : DataW H → Nat
  | .lit (.string bytes) => bytes.length + 1
  | .lit _ => 1
  | .nil => 1
  | .ptr d => uptoBulk d + 1
  | .slice elems spare => uptoBulkAll elems + uptoBulkAll spare + 1
  | .agg parts => uptoBulkAll parts + 1
  | .iface _ d => uptoBulk d + 1
  | .map entries => uptoBulkEntries entries + 1
  | .held _ => 1
def uptoBulkAll {H : Type} : List (DataW H) → Nat
  | [] => 0
  | d :: r => uptoBulk d + uptoBulkAll r
def uptoBulkEntries {H : Type} : List (Lit × DataW H) → Nat
  | [] => 0
  | x :: r => uptoBulkEntry x + uptoBulkEntries r
def uptoBulkEntry {H : Type} : Lit × DataW H → Nat
  | (.string bytes, d) => bytes.length + uptoBulk d + 1
  | (_, d) => uptoBulk d + 1
 end
def uptoSmall : (H : Type) → List (DataW H) → Bool := fun _ ds => decide (uptoBulkAll ds ≤ 1048576)
def OpenSpec.upto (s : _root_.Go.ChangeSpec) : _root_.Go.OpenSpec := { _root_.Go.OpenSpec.ofChange s with cond := some uptoSmall }

/-- 'laws.FnExactContains', WHERE WHAT IT READS IS OF BULK AT MOST 1048576: true; the input reads as it did. -/
def fnExactContainsUptoRow : OpenClaim := { program := "ytieajioobfkifaa", sum := "29e563e9d3b8a72c36e6488b9e819933e2fae428b0a78e1987ba33063bc9a162", func := "loop.example/g01252/laws.FnExactContains", spec := "fnExactContains", apart := false, narrowed := true }
def FnExactContainsUptoSaid : Prop := fnExactContainsUptoRow.holds Try.pinned (OpenSpec.upto fnExactContainsSpec)

/-- 'laws.FnExactTreeDistance', WHERE WHAT IT READS IS OF BULK AT MOST 1048576: true; the input reads as it did. -/
def fnExactTreeDistanceUptoRow : OpenClaim := { program := "ytieajioobfkifaa", sum := "29e563e9d3b8a72c36e6488b9e819933e2fae428b0a78e1987ba33063bc9a162", func := "loop.example/g01252/laws.FnExactTreeDistance", spec := "fnExactTreeDistance", apart := false, narrowed := true }
def FnExactTreeDistanceUptoSaid : Prop := fnExactTreeDistanceUptoRow.holds Try.pinned (OpenSpec.upto fnExactTreeDistanceSpec)

/-- 'laws.FnExactDigitsOfBall', WHERE WHAT IT READS IS OF BULK AT MOST 1048576: true; the input reads as it did. -/
def fnExactDigitsOfBallUptoRow : OpenClaim := { program := "ytieajioobfkifaa", sum := "29e563e9d3b8a72c36e6488b9e819933e2fae428b0a78e1987ba33063bc9a162", func := "loop.example/g01252/laws.FnExactDigitsOfBall", spec := "fnExactDigitsOfBall", apart := false, narrowed := true }
def FnExactDigitsOfBallUptoSaid : Prop := fnExactDigitsOfBallUptoRow.holds Try.pinned (OpenSpec.upto fnExactDigitsOfBallSpec)

/-- 'laws.FnExactCentreOf', WHERE WHAT IT READS IS OF BULK AT MOST 1048576: true; the input reads as it did. -/
def fnExactCentreOfUptoRow : OpenClaim := { program := "ytieajioobfkifaa", sum := "29e563e9d3b8a72c36e6488b9e819933e2fae428b0a78e1987ba33063bc9a162", func := "loop.example/g01252/laws.FnExactCentreOf", spec := "fnExactCentreOf", apart := false, narrowed := true }
def FnExactCentreOfUptoSaid : Prop := fnExactCentreOfUptoRow.holds Try.pinned (OpenSpec.upto fnExactCentreOfSpec)

/-- 'laws.FnExactHoldsBall', WHERE WHAT IT READS IS OF BULK AT MOST 1048576: true; the input reads as it did. -/
def fnExactHoldsBallUptoRow : OpenClaim := { program := "ytieajioobfkifaa", sum := "29e563e9d3b8a72c36e6488b9e819933e2fae428b0a78e1987ba33063bc9a162", func := "loop.example/g01252/laws.FnExactHoldsBall", spec := "fnExactHoldsBall", apart := false, narrowed := true }
def FnExactHoldsBallUptoSaid : Prop := fnExactHoldsBallUptoRow.holds Try.pinned (OpenSpec.upto fnExactHoldsBallSpec)

/-- 'laws.FnExactAreApart', WHERE WHAT IT READS IS OF BULK AT MOST 1048576: true; the input reads as it did. -/
def fnExactAreApartUptoRow : OpenClaim := { program := "ytieajioobfkifaa", sum := "29e563e9d3b8a72c36e6488b9e819933e2fae428b0a78e1987ba33063bc9a162", func := "loop.example/g01252/laws.FnExactAreApart", spec := "fnExactAreApart", apart := false, narrowed := true }
def FnExactAreApartUptoSaid : Prop := fnExactAreApartUptoRow.holds Try.pinned (OpenSpec.upto fnExactAreApartSpec)

/-- 'laws.FnExactOppositeBall', WHERE WHAT IT READS IS OF BULK AT MOST 1048576: true; the input reads as it did. -/
def fnExactOppositeBallUptoRow : OpenClaim := { program := "ytieajioobfkifaa", sum := "29e563e9d3b8a72c36e6488b9e819933e2fae428b0a78e1987ba33063bc9a162", func := "loop.example/g01252/laws.FnExactOppositeBall", spec := "fnExactOppositeBall", apart := false, narrowed := true }
def FnExactOppositeBallUptoSaid : Prop := fnExactOppositeBallUptoRow.holds Try.pinned (OpenSpec.upto fnExactOppositeBallSpec)

/-- 'laws.FnExactHeightOver', WHERE WHAT IT READS IS OF BULK AT MOST 1048576: true; the input reads as it did. -/
def fnExactHeightOverUptoRow : OpenClaim := { program := "ytieajioobfkifaa", sum := "29e563e9d3b8a72c36e6488b9e819933e2fae428b0a78e1987ba33063bc9a162", func := "loop.example/g01252/laws.FnExactHeightOver", spec := "fnExactHeightOver", apart := false, narrowed := true }
def FnExactHeightOverUptoSaid : Prop := fnExactHeightOverUptoRow.holds Try.pinned (OpenSpec.upto fnExactHeightOverSpec)

/-- 'laws.FnExactHoldsFraction', WHERE WHAT IT READS IS OF BULK AT MOST 1048576: true; the input reads as it did. -/
def fnExactHoldsFractionUptoRow : OpenClaim := { program := "ytieajioobfkifaa", sum := "29e563e9d3b8a72c36e6488b9e819933e2fae428b0a78e1987ba33063bc9a162", func := "loop.example/g01252/laws.FnExactHoldsFraction", spec := "fnExactHoldsFraction", apart := false, narrowed := true }
def FnExactHoldsFractionUptoSaid : Prop := fnExactHoldsFractionUptoRow.holds Try.pinned (OpenSpec.upto fnExactHoldsFractionSpec)

/-- 'laws.FnExactParentOf', WHERE WHAT IT READS IS OF BULK AT MOST 1048576: true; the input reads as it did. -/
def fnExactParentOfUptoRow : OpenClaim := { program := "ytieajioobfkifaa", sum := "29e563e9d3b8a72c36e6488b9e819933e2fae428b0a78e1987ba33063bc9a162", func := "loop.example/g01252/laws.FnExactParentOf", spec := "fnExactParentOf", apart := false, narrowed := true }
def FnExactParentOfUptoSaid : Prop := fnExactParentOfUptoRow.holds Try.pinned (OpenSpec.upto fnExactParentOfSpec)

/-- 'laws.FnExactAddBalls', WHERE WHAT IT READS IS OF BULK AT MOST 1048576: true; the input reads as it did. -/
def fnExactAddBallsUptoRow : OpenClaim := { program := "ytieajioobfkifaa", sum := "29e563e9d3b8a72c36e6488b9e819933e2fae428b0a78e1987ba33063bc9a162", func := "loop.example/g01252/laws.FnExactAddBalls", spec := "fnExactAddBalls", apart := false, narrowed := true }
def FnExactAddBallsUptoSaid : Prop := fnExactAddBallsUptoRow.holds Try.pinned (OpenSpec.upto fnExactAddBallsSpec)

/-- 'laws.FnExactJoinOf', WHERE WHAT IT READS IS OF BULK AT MOST 1048576: true; the input reads as it did. -/
def fnExactJoinOfUptoRow : OpenClaim := { program := "ytieajioobfkifaa", sum := "29e563e9d3b8a72c36e6488b9e819933e2fae428b0a78e1987ba33063bc9a162", func := "loop.example/g01252/laws.FnExactJoinOf", spec := "fnExactJoinOf", apart := false, narrowed := true }
def FnExactJoinOfUptoSaid : Prop := fnExactJoinOfUptoRow.holds Try.pinned (OpenSpec.upto fnExactJoinOfSpec)

end Rows
end Go.Proofs.Ytieajioobfkifaa
