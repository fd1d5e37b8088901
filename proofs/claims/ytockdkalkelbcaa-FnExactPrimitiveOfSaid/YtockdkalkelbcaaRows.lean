/-
  No cell of these rows narrows 'for every input' (looked for: loops, veiled, ifaces, maps, wideKeys, modest, calm, conditions, laid).
  DERIVED. THE GIVEN ROWS OF THIS SEAT. 12 by the template 'for every input the law returns true; each argument reads behind the call as it read before'; 0 by the template 'total and deterministic' (their statements: YtockdkalkelbcaaTotals.lean).
  GIVEN WITH THE SEED: the statements are not yours to turn. If you find one false, say at which input.
  Laid BY PROGRAM, IN A SANDBOX (cutbox-rows.mjs): the forced cells as the released guide's own fill.sh prints them over the translation 5bc2a0fced3c799e… (all of the seat's roots in one cut). By AI agents, Wed Nov 11 2026. No macro, syntax, notation, axiom, sorry.
-/
import Derived.Test.YtockdkalkelbcaaChecked
import GoSem.Claim
import GoSem.ClaimJoined
import GoSem.ClaimMapViews
import Derived.JoinedTies
import Derived.KernelRfl
namespace Go.Proofs.Ytockdkalkelbcaa
/- THE CELL 'sum', in the pinned program and in every row, IS THE sha256 OF THE DUMP (.gsa) THAT YtockdkalkelbcaaProg.lean LOADS. Nothing in Lean hashes anything: it is a label: what it is worth is what the hold of that sum in a sandbox is worth. -/
noncomputable def Try.pinned : Pinned := { name := "ytockdkalkelbcaa", sum := "5bc2a0fced3c799e1390626b8c5da8b1e5ed5f2303f2f1441a5b666034f84b47", checked := Try.checked }
namespace Rows
def none {H : Type} : Left H := { results := [], args := [] }

/-- 'laws.FnExactConstants': WHATEVER THE INPUT: true; the input reads as it did. -/
def fnExactConstantsSpec : ChangeSpec := { name := "fnExactConstants", fn := fun _ => fun
  | [] => { results := [.lit (.bool true)], args := [] }
  | _ => none }
def fnExactConstantsRow : OpenClaim := { program := "ytockdkalkelbcaa", sum := "5bc2a0fced3c799e1390626b8c5da8b1e5ed5f2303f2f1441a5b666034f84b47", func := "loop.example/g01252/laws.FnExactConstants", spec := "fnExactConstants", apart := false }
def FnExactConstantsSaid : Prop := fnExactConstantsRow.holds Try.pinned (OpenSpec.ofChange fnExactConstantsSpec)

/-- ITS FALSE NEIGHBOUR: 'it returns false'. Refute it at one input. -/
def fnExactConstantsWrong : ChangeSpec := { name := "fnExactConstants", fn := fun _ => fun
  | [] => { results := [.lit (.bool false)], args := [] }
  | _ => none }
def FnExactConstantsWrongFalsely : Prop := fnExactConstantsRow.holds Try.pinned (OpenSpec.ofChange fnExactConstantsWrong)

/-- 'laws.FnExactIsLattice': WHATEVER THE INPUT: true; the input reads as it did. -/
def fnExactIsLatticeSpec : ChangeSpec := { name := "fnExactIsLattice", fn := fun _ => fun
  | [d1, d2] => { results := [.lit (.bool true)], args := [d1, d2] }
  | _ => none }
def fnExactIsLatticeRow : OpenClaim := { program := "ytockdkalkelbcaa", sum := "5bc2a0fced3c799e1390626b8c5da8b1e5ed5f2303f2f1441a5b666034f84b47", func := "loop.example/g01252/laws.FnExactIsLattice", spec := "fnExactIsLattice", apart := false }
def FnExactIsLatticeSaid : Prop := fnExactIsLatticeRow.holds Try.pinned (OpenSpec.ofChange fnExactIsLatticeSpec)

/-- ITS FALSE NEIGHBOUR: 'it returns false'. Refute it at one input. -/
def fnExactIsLatticeWrong : ChangeSpec := { name := "fnExactIsLattice", fn := fun _ => fun
  | [d1, d2] => { results := [.lit (.bool false)], args := [d1, d2] }
  | _ => none }
def FnExactIsLatticeWrongFalsely : Prop := fnExactIsLatticeRow.holds Try.pinned (OpenSpec.ofChange fnExactIsLatticeWrong)

/-- 'laws.FnExactCountOfSphere': WHATEVER THE INPUT: true; the input reads as it did. -/
def fnExactCountOfSphereSpec : ChangeSpec := { name := "fnExactCountOfSphere", fn := fun _ => fun
  | [d1, d2] => { results := [.lit (.bool true)], args := [d1, d2] }
  | _ => none }
def fnExactCountOfSphereRow : OpenClaim := { program := "ytockdkalkelbcaa", sum := "5bc2a0fced3c799e1390626b8c5da8b1e5ed5f2303f2f1441a5b666034f84b47", func := "loop.example/g01252/laws.FnExactCountOfSphere", spec := "fnExactCountOfSphere", apart := false }
def FnExactCountOfSphereSaid : Prop := fnExactCountOfSphereRow.holds Try.pinned (OpenSpec.ofChange fnExactCountOfSphereSpec)

/-- ITS FALSE NEIGHBOUR: 'it returns false'. Refute it at one input. -/
def fnExactCountOfSphereWrong : ChangeSpec := { name := "fnExactCountOfSphere", fn := fun _ => fun
  | [d1, d2] => { results := [.lit (.bool false)], args := [d1, d2] }
  | _ => none }
def FnExactCountOfSphereWrongFalsely : Prop := fnExactCountOfSphereRow.holds Try.pinned (OpenSpec.ofChange fnExactCountOfSphereWrong)

/-- 'laws.FnExactIsEnd': WHATEVER THE INPUT: true; the input reads as it did. -/
def fnExactIsEndSpec : ChangeSpec := { name := "fnExactIsEnd", fn := fun _ => fun
  | [d] => { results := [.lit (.bool true)], args := [d] }
  | _ => none }
def fnExactIsEndRow : OpenClaim := { program := "ytockdkalkelbcaa", sum := "5bc2a0fced3c799e1390626b8c5da8b1e5ed5f2303f2f1441a5b666034f84b47", func := "loop.example/g01252/laws.FnExactIsEnd", spec := "fnExactIsEnd", apart := false }
def FnExactIsEndSaid : Prop := fnExactIsEndRow.holds Try.pinned (OpenSpec.ofChange fnExactIsEndSpec)

/-- ITS FALSE NEIGHBOUR: 'it returns false'. Refute it at one input. -/
def fnExactIsEndWrong : ChangeSpec := { name := "fnExactIsEnd", fn := fun _ => fun
  | [d] => { results := [.lit (.bool false)], args := [d] }
  | _ => none }
def FnExactIsEndWrongFalsely : Prop := fnExactIsEndRow.holds Try.pinned (OpenSpec.ofChange fnExactIsEndWrong)

/-- 'laws.FnExactIsBall': WHATEVER THE INPUT: true; the input reads as it did. -/
def fnExactIsBallSpec : ChangeSpec := { name := "fnExactIsBall", fn := fun _ => fun
  | [d1, d2] => { results := [.lit (.bool true)], args := [d1, d2] }
  | _ => none }
def fnExactIsBallRow : OpenClaim := { program := "ytockdkalkelbcaa", sum := "5bc2a0fced3c799e1390626b8c5da8b1e5ed5f2303f2f1441a5b666034f84b47", func := "loop.example/g01252/laws.FnExactIsBall", spec := "fnExactIsBall", apart := false }
def FnExactIsBallSaid : Prop := fnExactIsBallRow.holds Try.pinned (OpenSpec.ofChange fnExactIsBallSpec)

/-- ITS FALSE NEIGHBOUR: 'it returns false'. Refute it at one input. -/
def fnExactIsBallWrong : ChangeSpec := { name := "fnExactIsBall", fn := fun _ => fun
  | [d1, d2] => { results := [.lit (.bool false)], args := [d1, d2] }
  | _ => none }
def FnExactIsBallWrongFalsely : Prop := fnExactIsBallRow.holds Try.pinned (OpenSpec.ofChange fnExactIsBallWrong)

/-- 'laws.FnExactIndexOf': WHATEVER THE INPUT: true; the input reads as it did. -/
def fnExactIndexOfSpec : ChangeSpec := { name := "fnExactIndexOf", fn := fun _ => fun
  | [d1, d2] => { results := [.lit (.bool true)], args := [d1, d2] }
  | _ => none }
def fnExactIndexOfRow : OpenClaim := { program := "ytockdkalkelbcaa", sum := "5bc2a0fced3c799e1390626b8c5da8b1e5ed5f2303f2f1441a5b666034f84b47", func := "loop.example/g01252/laws.FnExactIndexOf", spec := "fnExactIndexOf", apart := false }
def FnExactIndexOfSaid : Prop := fnExactIndexOfRow.holds Try.pinned (OpenSpec.ofChange fnExactIndexOfSpec)

/-- ITS FALSE NEIGHBOUR: 'it returns false'. Refute it at one input. -/
def fnExactIndexOfWrong : ChangeSpec := { name := "fnExactIndexOf", fn := fun _ => fun
  | [d1, d2] => { results := [.lit (.bool false)], args := [d1, d2] }
  | _ => none }
def FnExactIndexOfWrongFalsely : Prop := fnExactIndexOfRow.holds Try.pinned (OpenSpec.ofChange fnExactIndexOfWrong)

/-- 'laws.FnExactValuationOf': WHATEVER THE INPUT: true; the input reads as it did. -/
def fnExactValuationOfSpec : ChangeSpec := { name := "fnExactValuationOf", fn := fun _ => fun
  | [d1, d2, d3] => { results := [.lit (.bool true)], args := [d1, d2, d3] }
  | _ => none }
def fnExactValuationOfRow : OpenClaim := { program := "ytockdkalkelbcaa", sum := "5bc2a0fced3c799e1390626b8c5da8b1e5ed5f2303f2f1441a5b666034f84b47", func := "loop.example/g01252/laws.FnExactValuationOf", spec := "fnExactValuationOf", apart := false }
def FnExactValuationOfSaid : Prop := fnExactValuationOfRow.holds Try.pinned (OpenSpec.ofChange fnExactValuationOfSpec)

/-- ITS FALSE NEIGHBOUR: 'it returns false'. Refute it at one input. -/
def fnExactValuationOfWrong : ChangeSpec := { name := "fnExactValuationOf", fn := fun _ => fun
  | [d1, d2, d3] => { results := [.lit (.bool false)], args := [d1, d2, d3] }
  | _ => none }
def FnExactValuationOfWrongFalsely : Prop := fnExactValuationOfRow.holds Try.pinned (OpenSpec.ofChange fnExactValuationOfWrong)

/-- 'laws.FnExactTypeOf': WHATEVER THE INPUT: true; the input reads as it did. -/
def fnExactTypeOfSpec : ChangeSpec := { name := "fnExactTypeOf", fn := fun _ => fun
  | [d1, d2] => { results := [.lit (.bool true)], args := [d1, d2] }
  | _ => none }
def fnExactTypeOfRow : OpenClaim := { program := "ytockdkalkelbcaa", sum := "5bc2a0fced3c799e1390626b8c5da8b1e5ed5f2303f2f1441a5b666034f84b47", func := "loop.example/g01252/laws.FnExactTypeOf", spec := "fnExactTypeOf", apart := false }
def FnExactTypeOfSaid : Prop := fnExactTypeOfRow.holds Try.pinned (OpenSpec.ofChange fnExactTypeOfSpec)

/-- ITS FALSE NEIGHBOUR: 'it returns false'. Refute it at one input. -/
def fnExactTypeOfWrong : ChangeSpec := { name := "fnExactTypeOf", fn := fun _ => fun
  | [d1, d2] => { results := [.lit (.bool false)], args := [d1, d2] }
  | _ => none }
def FnExactTypeOfWrongFalsely : Prop := fnExactTypeOfRow.holds Try.pinned (OpenSpec.ofChange fnExactTypeOfWrong)

/-- 'laws.FnExactEndOf': WHATEVER THE INPUT: true; the input reads as it did. -/
def fnExactEndOfSpec : ChangeSpec := { name := "fnExactEndOf", fn := fun _ => fun
  | [d1, d2] => { results := [.lit (.bool true)], args := [d1, d2] }
  | _ => none }
def fnExactEndOfRow : OpenClaim := { program := "ytockdkalkelbcaa", sum := "5bc2a0fced3c799e1390626b8c5da8b1e5ed5f2303f2f1441a5b666034f84b47", func := "loop.example/g01252/laws.FnExactEndOf", spec := "fnExactEndOf", apart := false }
def FnExactEndOfSaid : Prop := fnExactEndOfRow.holds Try.pinned (OpenSpec.ofChange fnExactEndOfSpec)

/-- ITS FALSE NEIGHBOUR: 'it returns false'. Refute it at one input. -/
def fnExactEndOfWrong : ChangeSpec := { name := "fnExactEndOf", fn := fun _ => fun
  | [d1, d2] => { results := [.lit (.bool false)], args := [d1, d2] }
  | _ => none }
def FnExactEndOfWrongFalsely : Prop := fnExactEndOfRow.holds Try.pinned (OpenSpec.ofChange fnExactEndOfWrong)

/-- 'laws.FnExactLatticeOfBall': WHATEVER THE INPUT: true; the input reads as it did. -/
def fnExactLatticeOfBallSpec : ChangeSpec := { name := "fnExactLatticeOfBall", fn := fun _ => fun
  | [d1, d2] => { results := [.lit (.bool true)], args := [d1, d2] }
  | _ => none }
def fnExactLatticeOfBallRow : OpenClaim := { program := "ytockdkalkelbcaa", sum := "5bc2a0fced3c799e1390626b8c5da8b1e5ed5f2303f2f1441a5b666034f84b47", func := "loop.example/g01252/laws.FnExactLatticeOfBall", spec := "fnExactLatticeOfBall", apart := false }
def FnExactLatticeOfBallSaid : Prop := fnExactLatticeOfBallRow.holds Try.pinned (OpenSpec.ofChange fnExactLatticeOfBallSpec)

/-- ITS FALSE NEIGHBOUR: 'it returns false'. Refute it at one input. -/
def fnExactLatticeOfBallWrong : ChangeSpec := { name := "fnExactLatticeOfBall", fn := fun _ => fun
  | [d1, d2] => { results := [.lit (.bool false)], args := [d1, d2] }
  | _ => none }
def FnExactLatticeOfBallWrongFalsely : Prop := fnExactLatticeOfBallRow.holds Try.pinned (OpenSpec.ofChange fnExactLatticeOfBallWrong)

/-- 'laws.FnExactAreOneClass': WHATEVER THE INPUT: true; the input reads as it did. -/
def fnExactAreOneClassSpec : ChangeSpec := { name := "fnExactAreOneClass", fn := fun _ => fun
  | [d1, d2, d3] => { results := [.lit (.bool true)], args := [d1, d2, d3] }
  | _ => none }
def fnExactAreOneClassRow : OpenClaim := { program := "ytockdkalkelbcaa", sum := "5bc2a0fced3c799e1390626b8c5da8b1e5ed5f2303f2f1441a5b666034f84b47", func := "loop.example/g01252/laws.FnExactAreOneClass", spec := "fnExactAreOneClass", apart := false }
def FnExactAreOneClassSaid : Prop := fnExactAreOneClassRow.holds Try.pinned (OpenSpec.ofChange fnExactAreOneClassSpec)

/-- ITS FALSE NEIGHBOUR: 'it returns false'. Refute it at one input. -/
def fnExactAreOneClassWrong : ChangeSpec := { name := "fnExactAreOneClass", fn := fun _ => fun
  | [d1, d2, d3] => { results := [.lit (.bool false)], args := [d1, d2, d3] }
  | _ => none }
def FnExactAreOneClassWrongFalsely : Prop := fnExactAreOneClassRow.holds Try.pinned (OpenSpec.ofChange fnExactAreOneClassWrong)

/-- 'laws.FnExactPrimitiveOf': WHATEVER THE INPUT: true; the input reads as it did. -/
def fnExactPrimitiveOfSpec : ChangeSpec := { name := "fnExactPrimitiveOf", fn := fun _ => fun
  | [d1, d2] => { results := [.lit (.bool true)], args := [d1, d2] }
  | _ => none }
def fnExactPrimitiveOfRow : OpenClaim := { program := "ytockdkalkelbcaa", sum := "5bc2a0fced3c799e1390626b8c5da8b1e5ed5f2303f2f1441a5b666034f84b47", func := "loop.example/g01252/laws.FnExactPrimitiveOf", spec := "fnExactPrimitiveOf", apart := false }
def FnExactPrimitiveOfSaid : Prop := fnExactPrimitiveOfRow.holds Try.pinned (OpenSpec.ofChange fnExactPrimitiveOfSpec)

/-- ITS FALSE NEIGHBOUR: 'it returns false'. Refute it at one input. -/
def fnExactPrimitiveOfWrong : ChangeSpec := { name := "fnExactPrimitiveOf", fn := fun _ => fun
  | [d1, d2] => { results := [.lit (.bool false)], args := [d1, d2] }
  | _ => none }
def FnExactPrimitiveOfWrongFalsely : Prop := fnExactPrimitiveOfRow.holds Try.pinned (OpenSpec.ofChange fnExactPrimitiveOfWrong)

/- THE SECOND FORM. 'bulk': how many values and letters a reading holds, each counted each time it is reached (what is shared counts as often as it is met; a slice's spare places count too). A statement '..UptoSaid' is the law's where the arguments, and the package variables that the reading takes, are together of bulk at most 1048576: NARROWER than '..Said'. Prove '..Said' where nothing that the law and all that it calls make is longer than what came in: it says more and counts as full. Else prove '..UptoSaid'. A law counts once. -/
mutual
def uptoBulk {H : Type} : DataW H → Nat
  | .lit (.string bytes) => bytes.length + 1
  | .lit _ => 1
  | .nil => 1
  | .ptr d => uptoBulk d + 1
  | .slice elems spare => uptoBulkAll elems + uptoBulkAll spare + 1
  | .agg parts => uptoBulkAll parts + 1
  | .iface _ d => uptoBulk d + 1
  | .map entries => uptoBulkEntries entries + 1
  | .held _ => 1
def uptoBulkAll {H : Type} : List (DataW H) → Nat
  | [] => 0
  | d :: r => uptoBulk d + uptoBulkAll r
def uptoBulkEntries {H : Type} : List (Lit × DataW H) → Nat
  | [] => 0
  | x :: r => uptoBulkEntry x + uptoBulkEntries r
def uptoBulkEntry {H : Type} : Lit × DataW H → Nat
  | (.string bytes, d) => bytes.length + uptoBulk d + 1
  | (_, d) => uptoBulk d + 1
 end
def uptoSmall : (H : Type) → List (DataW H) → Bool := fun _ ds => decide (uptoBulkAll ds ≤ 1048576)
def OpenSpec.upto (s : _root_.Go.ChangeSpec) : _root_.Go.OpenSpec := { _root_.Go.OpenSpec.ofChange s with cond := some uptoSmall }

/-- 'laws.FnExactConstants', WHERE WHAT IT READS IS OF BULK AT MOST 1048576: true; the input reads as it did. -/
def fnExactConstantsUptoRow : OpenClaim := { program := "ytockdkalkelbcaa", sum := "5bc2a0fced3c799e1390626b8c5da8b1e5ed5f2303f2f1441a5b666034f84b47", func := "loop.example/g01252/laws.FnExactConstants", spec := "fnExactConstants", apart := false, narrowed := true }
def FnExactConstantsUptoSaid : Prop := fnExactConstantsUptoRow.holds Try.pinned (OpenSpec.upto fnExactConstantsSpec)

/-- 'laws.FnExactIsLattice', WHERE WHAT IT READS IS OF BULK AT MOST 1048576: true; the input reads as it did. -/
def fnExactIsLatticeUptoRow : OpenClaim := { program := "ytockdkalkelbcaa", sum := "5bc2a0fced3c799e1390626b8c5da8b1e5ed5f2303f2f1441a5b666034f84b47", func := "loop.example/g01252/laws.FnExactIsLattice", spec := "fnExactIsLattice", apart := false, narrowed := true }
def FnExactIsLatticeUptoSaid : Prop := fnExactIsLatticeUptoRow.holds Try.pinned (OpenSpec.upto fnExactIsLatticeSpec)

/-- 'laws.FnExactCountOfSphere', WHERE WHAT IT READS IS OF BULK AT MOST 1048576: true; the input reads as it did. -/
def fnExactCountOfSphereUptoRow : OpenClaim := { program := "ytockdkalkelbcaa", sum := "5bc2a0fced3c799e1390626b8c5da8b1e5ed5f2303f2f1441a5b666034f84b47", func := "loop.example/g01252/laws.FnExactCountOfSphere", spec := "fnExactCountOfSphere", apart := false, narrowed := true }
def FnExactCountOfSphereUptoSaid : Prop := fnExactCountOfSphereUptoRow.holds Try.pinned (OpenSpec.upto fnExactCountOfSphereSpec)

/-- 'laws.FnExactIsEnd', WHERE WHAT IT READS IS OF BULK AT MOST 1048576: true; the input reads as it did. -/
def fnExactIsEndUptoRow : OpenClaim := { program := "ytockdkalkelbcaa", sum := "5bc2a0fced3c799e1390626b8c5da8b1e5ed5f2303f2f1441a5b666034f84b47", func := "loop.example/g01252/laws.FnExactIsEnd", spec := "fnExactIsEnd", apart := false, narrowed := true }
def FnExactIsEndUptoSaid : Prop := fnExactIsEndUptoRow.holds Try.pinned (OpenSpec.upto fnExactIsEndSpec)

/-- 'laws.FnExactIsBall', WHERE WHAT IT READS IS OF BULK AT MOST 1048576: true; the input reads as it did. -/
def fnExactIsBallUptoRow : OpenClaim := { program := "ytockdkalkelbcaa", sum := "5bc2a0fced3c799e1390626b8c5da8b1e5ed5f2303f2f1441a5b666034f84b47", func := "loop.example/g01252/laws.FnExactIsBall", spec := "fnExactIsBall", apart := false, narrowed := true }
def FnExactIsBallUptoSaid : Prop := fnExactIsBallUptoRow.holds Try.pinned (OpenSpec.upto fnExactIsBallSpec)

/-- 'laws.FnExactIndexOf', WHERE WHAT IT READS IS OF BULK AT MOST 1048576: true; the input reads as it did. -/
def fnExactIndexOfUptoRow : OpenClaim := { program := "ytockdkalkelbcaa", sum := "5bc2a0fced3c799e1390626b8c5da8b1e5ed5f2303f2f1441a5b666034f84b47", func := "loop.example/g01252/laws.FnExactIndexOf", spec := "fnExactIndexOf", apart := false, narrowed := true }
def FnExactIndexOfUptoSaid : Prop := fnExactIndexOfUptoRow.holds Try.pinned (OpenSpec.upto fnExactIndexOfSpec)

/-- 'laws.FnExactValuationOf', WHERE WHAT IT READS IS OF BULK AT MOST 1048576: true; the input reads as it did. -/
def fnExactValuationOfUptoRow : OpenClaim := { program := "ytockdkalkelbcaa", sum := "5bc2a0fced3c799e1390626b8c5da8b1e5ed5f2303f2f1441a5b666034f84b47", func := "loop.example/g01252/laws.FnExactValuationOf", spec := "fnExactValuationOf", apart := false, narrowed := true }
def FnExactValuationOfUptoSaid : Prop := fnExactValuationOfUptoRow.holds Try.pinned (OpenSpec.upto fnExactValuationOfSpec)

/-- 'laws.FnExactTypeOf', WHERE WHAT IT READS IS OF BULK AT MOST 1048576: true; the input reads as it did. -/
def fnExactTypeOfUptoRow : OpenClaim := { program := "ytockdkalkelbcaa", sum := "5bc2a0fced3c799e1390626b8c5da8b1e5ed5f2303f2f1441a5b666034f84b47", func := "loop.example/g01252/laws.FnExactTypeOf", spec := "fnExactTypeOf", apart := false, narrowed := true }
def FnExactTypeOfUptoSaid : Prop := fnExactTypeOfUptoRow.holds Try.pinned (OpenSpec.upto fnExactTypeOfSpec)

/-- 'laws.FnExactEndOf', WHERE WHAT IT READS IS OF BULK AT MOST 1048576: true; the input reads as it did. -/
def fnExactEndOfUptoRow : OpenClaim := { program := "ytockdkalkelbcaa", sum := "5bc2a0fced3c799e1390626b8c5da8b1e5ed5f2303f2f1441a5b666034f84b47", func := "loop.example/g01252/laws.FnExactEndOf", spec := "fnExactEndOf", apart := false, narrowed := true }
def FnExactEndOfUptoSaid : Prop := fnExactEndOfUptoRow.holds Try.pinned (OpenSpec.upto fnExactEndOfSpec)

/-- 'laws.FnExactLatticeOfBall', WHERE WHAT IT READS IS OF BULK AT MOST 1048576: true; the input reads as it did. -/
def fnExactLatticeOfBallUptoRow : OpenClaim := { program := "ytockdkalkelbcaa", sum := "5bc2a0fced3c799e1390626b8c5da8b1e5ed5f2303f2f1441a5b666034f84b47", func := "loop.example/g01252/laws.FnExactLatticeOfBall", spec := "fnExactLatticeOfBall", apart := false, narrowed := true }
def FnExactLatticeOfBallUptoSaid : Prop := fnExactLatticeOfBallUptoRow.holds Try.pinned (OpenSpec.upto fnExactLatticeOfBallSpec)

/-- 'laws.FnExactAreOneClass', WHERE WHAT IT READS IS OF BULK AT MOST 1048576: true; the input reads as it did. -/
def fnExactAreOneClassUptoRow : OpenClaim := { program := "ytockdkalkelbcaa", sum := "5bc2a0fced3c799e1390626b8c5da8b1e5ed5f2303f2f1441a5b666034f84b47", func := "loop.example/g01252/laws.FnExactAreOneClass", spec := "fnExactAreOneClass", apart := false, narrowed := true }
def FnExactAreOneClassUptoSaid : Prop := fnExactAreOneClassUptoRow.holds Try.pinned (OpenSpec.upto fnExactAreOneClassSpec)

/-- 'laws.FnExactPrimitiveOf', WHERE WHAT IT READS IS OF BULK AT MOST 1048576: true; the input reads as it did. -/
def fnExactPrimitiveOfUptoRow : OpenClaim := { program := "ytockdkalkelbcaa", sum := "5bc2a0fced3c799e1390626b8c5da8b1e5ed5f2303f2f1441a5b666034f84b47", func := "loop.example/g01252/laws.FnExactPrimitiveOf", spec := "fnExactPrimitiveOf", apart := false, narrowed := true }
def FnExactPrimitiveOfUptoSaid : Prop := fnExactPrimitiveOfUptoRow.holds Try.pinned (OpenSpec.upto fnExactPrimitiveOfSpec)

end Rows
end Go.Proofs.Ytockdkalkelbcaa
