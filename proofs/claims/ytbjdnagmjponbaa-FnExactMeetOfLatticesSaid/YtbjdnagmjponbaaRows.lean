/-
  No cell of these rows narrows 'for every input' (looked for: loops, veiled, ifaces, maps, wideKeys, modest, calm, conditions, laid).
  DERIVED. THE GIVEN ROWS OF THIS SEAT. 12 by the template 'for every input the law returns true; each argument reads behind the call as it read before'; 0 by the template 'total and deterministic' (their statements: YtbjdnagmjponbaaTotals.lean).
  GIVEN WITH THE SEED: the statements are not yours to turn. If you find one false, say at which input.
  Laid BY PROGRAM, IN A SANDBOX (cutbox-rows.mjs): the forced cells as the released guide's own fill.sh prints them over the translation 75bfc87cfa3ad46b… (all of the seat's roots in one cut). By AI agents, Wed Nov 11 2026. No macro, syntax, notation, axiom, sorry.
-/
import Derived.Test.YtbjdnagmjponbaaChecked
import GoSem.Claim
import GoSem.ClaimJoined
import GoSem.ClaimMapViews
import Derived.JoinedTies
import Derived.KernelRfl
namespace Go.Proofs.Ytbjdnagmjponbaa
/- THE CELL 'sum', in the pinned program and in every row, IS THE sha256 OF THE DUMP (.gsa) THAT YtbjdnagmjponbaaProg.lean LOADS. Nothing in Lean hashes anything: it is a label: what it is worth is what the hold of that sum in a sandbox is worth. -/
noncomputable def Try.pinned : Pinned := { name := "ytbjdnagmjponbaa", sum := "75bfc87cfa3ad46b93b9fa548dd83fb3387ff42240d4d0878888df88718befb2", checked := Try.checked }
namespace Rows
def none {H : Type} : Left H := { results := [], args := [] }

/-- 'laws.FnExactMultiplyBall': WHATEVER THE INPUT: true; the input reads as it did. -/
def fnExactMultiplyBallSpec : ChangeSpec := { name := "fnExactMultiplyBall", fn := fun _ => fun
  | [d1, d2, d3] => { results := [.lit (.bool true)], args := [d1, d2, d3] }
  | _ => none }
def fnExactMultiplyBallRow : OpenClaim := { program := "ytbjdnagmjponbaa", sum := "75bfc87cfa3ad46b93b9fa548dd83fb3387ff42240d4d0878888df88718befb2", func := "loop.example/g01252/laws.FnExactMultiplyBall", spec := "fnExactMultiplyBall", apart := false }
def FnExactMultiplyBallSaid : Prop := fnExactMultiplyBallRow.holds Try.pinned (OpenSpec.ofChange fnExactMultiplyBallSpec)

/-- ITS FALSE NEIGHBOUR: 'it returns false'. Refute it at one input. -/
def fnExactMultiplyBallWrong : ChangeSpec := { name := "fnExactMultiplyBall", fn := fun _ => fun
  | [d1, d2, d3] => { results := [.lit (.bool false)], args := [d1, d2, d3] }
  | _ => none }
def FnExactMultiplyBallWrongFalsely : Prop := fnExactMultiplyBallRow.holds Try.pinned (OpenSpec.ofChange fnExactMultiplyBallWrong)

/-- 'laws.FnExactMedianOf': WHATEVER THE INPUT: true; the input reads as it did. -/
def fnExactMedianOfSpec : ChangeSpec := { name := "fnExactMedianOf", fn := fun _ => fun
  | [d1, d2, d3, d4] => { results := [.lit (.bool true)], args := [d1, d2, d3, d4] }
  | _ => none }
def fnExactMedianOfRow : OpenClaim := { program := "ytbjdnagmjponbaa", sum := "75bfc87cfa3ad46b93b9fa548dd83fb3387ff42240d4d0878888df88718befb2", func := "loop.example/g01252/laws.FnExactMedianOf", spec := "fnExactMedianOf", apart := false }
def FnExactMedianOfSaid : Prop := fnExactMedianOfRow.holds Try.pinned (OpenSpec.ofChange fnExactMedianOfSpec)

/-- ITS FALSE NEIGHBOUR: 'it returns false'. Refute it at one input. -/
def fnExactMedianOfWrong : ChangeSpec := { name := "fnExactMedianOf", fn := fun _ => fun
  | [d1, d2, d3, d4] => { results := [.lit (.bool false)], args := [d1, d2, d3, d4] }
  | _ => none }
def FnExactMedianOfWrongFalsely : Prop := fnExactMedianOfRow.holds Try.pinned (OpenSpec.ofChange fnExactMedianOfWrong)

/-- 'laws.FnExactHoldsLattice': WHATEVER THE INPUT: true; the input reads as it did. -/
def fnExactHoldsLatticeSpec : ChangeSpec := { name := "fnExactHoldsLattice", fn := fun _ => fun
  | [d1, d2, d3] => { results := [.lit (.bool true)], args := [d1, d2, d3] }
  | _ => none }
def fnExactHoldsLatticeRow : OpenClaim := { program := "ytbjdnagmjponbaa", sum := "75bfc87cfa3ad46b93b9fa548dd83fb3387ff42240d4d0878888df88718befb2", func := "loop.example/g01252/laws.FnExactHoldsLattice", spec := "fnExactHoldsLattice", named := ["math/bits.divideError", "math/bits.overflowError"], apart := false }
def FnExactHoldsLatticeSaid : Prop := fnExactHoldsLatticeRow.holds Try.pinned (OpenSpec.ofChange fnExactHoldsLatticeSpec)

/-- ITS FALSE NEIGHBOUR: 'it returns false'. Refute it at one input. -/
def fnExactHoldsLatticeWrong : ChangeSpec := { name := "fnExactHoldsLattice", fn := fun _ => fun
  | [d1, d2, d3] => { results := [.lit (.bool false)], args := [d1, d2, d3] }
  | _ => none }
def FnExactHoldsLatticeWrongFalsely : Prop := fnExactHoldsLatticeRow.holds Try.pinned (OpenSpec.ofChange fnExactHoldsLatticeWrong)

/-- 'laws.FnExactHoldsVector': WHATEVER THE INPUT: true; the input reads as it did. -/
def fnExactHoldsVectorSpec : ChangeSpec := { name := "fnExactHoldsVector", fn := fun _ => fun
  | [d1, d2, d3, d4] => { results := [.lit (.bool true)], args := [d1, d2, d3, d4] }
  | _ => none }
def fnExactHoldsVectorRow : OpenClaim := { program := "ytbjdnagmjponbaa", sum := "75bfc87cfa3ad46b93b9fa548dd83fb3387ff42240d4d0878888df88718befb2", func := "loop.example/g01252/laws.FnExactHoldsVector", spec := "fnExactHoldsVector", named := ["math/bits.divideError", "math/bits.overflowError"], apart := false }
def FnExactHoldsVectorSaid : Prop := fnExactHoldsVectorRow.holds Try.pinned (OpenSpec.ofChange fnExactHoldsVectorSpec)

/-- ITS FALSE NEIGHBOUR: 'it returns false'. Refute it at one input. -/
def fnExactHoldsVectorWrong : ChangeSpec := { name := "fnExactHoldsVector", fn := fun _ => fun
  | [d1, d2, d3, d4] => { results := [.lit (.bool false)], args := [d1, d2, d3, d4] }
  | _ => none }
def FnExactHoldsVectorWrongFalsely : Prop := fnExactHoldsVectorRow.holds Try.pinned (OpenSpec.ofChange fnExactHoldsVectorWrong)

/-- 'laws.FnExactSumOfLattices': WHATEVER THE INPUT: true; the input reads as it did. -/
def fnExactSumOfLatticesSpec : ChangeSpec := { name := "fnExactSumOfLattices", fn := fun _ => fun
  | [d1, d2, d3] => { results := [.lit (.bool true)], args := [d1, d2, d3] }
  | _ => none }
def fnExactSumOfLatticesRow : OpenClaim := { program := "ytbjdnagmjponbaa", sum := "75bfc87cfa3ad46b93b9fa548dd83fb3387ff42240d4d0878888df88718befb2", func := "loop.example/g01252/laws.FnExactSumOfLattices", spec := "fnExactSumOfLattices", named := ["math/bits.divideError", "math/bits.overflowError"], apart := false }
def FnExactSumOfLatticesSaid : Prop := fnExactSumOfLatticesRow.holds Try.pinned (OpenSpec.ofChange fnExactSumOfLatticesSpec)

/-- ITS FALSE NEIGHBOUR: 'it returns false'. Refute it at one input. -/
def fnExactSumOfLatticesWrong : ChangeSpec := { name := "fnExactSumOfLattices", fn := fun _ => fun
  | [d1, d2, d3] => { results := [.lit (.bool false)], args := [d1, d2, d3] }
  | _ => none }
def FnExactSumOfLatticesWrongFalsely : Prop := fnExactSumOfLatticesRow.holds Try.pinned (OpenSpec.ofChange fnExactSumOfLatticesWrong)

/-- 'laws.FnExactLatticePosition': WHATEVER THE INPUT: true; the input reads as it did. -/
def fnExactLatticePositionSpec : ChangeSpec := { name := "fnExactLatticePosition", fn := fun _ => fun
  | [d1, d2, d3] => { results := [.lit (.bool true)], args := [d1, d2, d3] }
  | _ => none }
def fnExactLatticePositionRow : OpenClaim := { program := "ytbjdnagmjponbaa", sum := "75bfc87cfa3ad46b93b9fa548dd83fb3387ff42240d4d0878888df88718befb2", func := "loop.example/g01252/laws.FnExactLatticePosition", spec := "fnExactLatticePosition", inPlace := ["math/bits.Sub64"], named := ["math/bits.divideError", "math/bits.overflowError"], apart := false }
def FnExactLatticePositionSaid : Prop := fnExactLatticePositionRow.holds Try.pinned (OpenSpec.ofChange fnExactLatticePositionSpec)

/-- ITS FALSE NEIGHBOUR: 'it returns false'. Refute it at one input. -/
def fnExactLatticePositionWrong : ChangeSpec := { name := "fnExactLatticePosition", fn := fun _ => fun
  | [d1, d2, d3] => { results := [.lit (.bool false)], args := [d1, d2, d3] }
  | _ => none }
def FnExactLatticePositionWrongFalsely : Prop := fnExactLatticePositionRow.holds Try.pinned (OpenSpec.ofChange fnExactLatticePositionWrong)

/-- 'laws.FnExactMeetOfLattices': WHATEVER THE INPUT: true; the input reads as it did. -/
def fnExactMeetOfLatticesSpec : ChangeSpec := { name := "fnExactMeetOfLattices", fn := fun _ => fun
  | [d1, d2, d3] => { results := [.lit (.bool true)], args := [d1, d2, d3] }
  | _ => none }
def fnExactMeetOfLatticesRow : OpenClaim := { program := "ytbjdnagmjponbaa", sum := "75bfc87cfa3ad46b93b9fa548dd83fb3387ff42240d4d0878888df88718befb2", func := "loop.example/g01252/laws.FnExactMeetOfLattices", spec := "fnExactMeetOfLattices", named := ["math/bits.divideError", "math/bits.overflowError"], apart := false }
def FnExactMeetOfLatticesSaid : Prop := fnExactMeetOfLatticesRow.holds Try.pinned (OpenSpec.ofChange fnExactMeetOfLatticesSpec)

/-- ITS FALSE NEIGHBOUR: 'it returns false'. Refute it at one input. -/
def fnExactMeetOfLatticesWrong : ChangeSpec := { name := "fnExactMeetOfLattices", fn := fun _ => fun
  | [d1, d2, d3] => { results := [.lit (.bool false)], args := [d1, d2, d3] }
  | _ => none }
def FnExactMeetOfLatticesWrongFalsely : Prop := fnExactMeetOfLatticesRow.holds Try.pinned (OpenSpec.ofChange fnExactMeetOfLatticesWrong)

/-- 'laws.FnExactLatticeOf': WHATEVER THE INPUT: true; the input reads as it did. -/
def fnExactLatticeOfSpec : ChangeSpec := { name := "fnExactLatticeOf", fn := fun _ => fun
  | [d1, d2, d3, d4, d5] => { results := [.lit (.bool true)], args := [d1, d2, d3, d4, d5] }
  | _ => none }
def fnExactLatticeOfRow : OpenClaim := { program := "ytbjdnagmjponbaa", sum := "75bfc87cfa3ad46b93b9fa548dd83fb3387ff42240d4d0878888df88718befb2", func := "loop.example/g01252/laws.FnExactLatticeOf", spec := "fnExactLatticeOf", named := ["math/bits.divideError", "math/bits.overflowError"], apart := false }
def FnExactLatticeOfSaid : Prop := fnExactLatticeOfRow.holds Try.pinned (OpenSpec.ofChange fnExactLatticeOfSpec)

/-- ITS FALSE NEIGHBOUR: 'it returns false'. Refute it at one input. -/
def fnExactLatticeOfWrong : ChangeSpec := { name := "fnExactLatticeOf", fn := fun _ => fun
  | [d1, d2, d3, d4, d5] => { results := [.lit (.bool false)], args := [d1, d2, d3, d4, d5] }
  | _ => none }
def FnExactLatticeOfWrongFalsely : Prop := fnExactLatticeOfRow.holds Try.pinned (OpenSpec.ofChange fnExactLatticeOfWrong)

/-- 'laws.FnExactBallOf': WHATEVER THE INPUT: true; the input reads as it did. -/
def fnExactBallOfSpec : ChangeSpec := { name := "fnExactBallOf", fn := fun _ => fun
  | [d1, d2, d3, d4] => { results := [.lit (.bool true)], args := [d1, d2, d3, d4] }
  | _ => none }
def fnExactBallOfRow : OpenClaim := { program := "ytbjdnagmjponbaa", sum := "75bfc87cfa3ad46b93b9fa548dd83fb3387ff42240d4d0878888df88718befb2", func := "loop.example/g01252/laws.FnExactBallOf", spec := "fnExactBallOf", named := ["math/bits.divideError", "math/bits.overflowError"], apart := false }
def FnExactBallOfSaid : Prop := fnExactBallOfRow.holds Try.pinned (OpenSpec.ofChange fnExactBallOfSpec)

/-- ITS FALSE NEIGHBOUR: 'it returns false'. Refute it at one input. -/
def fnExactBallOfWrong : ChangeSpec := { name := "fnExactBallOf", fn := fun _ => fun
  | [d1, d2, d3, d4] => { results := [.lit (.bool false)], args := [d1, d2, d3, d4] }
  | _ => none }
def FnExactBallOfWrongFalsely : Prop := fnExactBallOfRow.holds Try.pinned (OpenSpec.ofChange fnExactBallOfWrong)

/-- 'laws.FnExactBallOfLattice': WHATEVER THE INPUT: true; the input reads as it did. -/
def fnExactBallOfLatticeSpec : ChangeSpec := { name := "fnExactBallOfLattice", fn := fun _ => fun
  | [d1, d2] => { results := [.lit (.bool true)], args := [d1, d2] }
  | _ => none }
def fnExactBallOfLatticeRow : OpenClaim := { program := "ytbjdnagmjponbaa", sum := "75bfc87cfa3ad46b93b9fa548dd83fb3387ff42240d4d0878888df88718befb2", func := "loop.example/g01252/laws.FnExactBallOfLattice", spec := "fnExactBallOfLattice", named := ["math/bits.divideError", "math/bits.overflowError"], apart := false }
def FnExactBallOfLatticeSaid : Prop := fnExactBallOfLatticeRow.holds Try.pinned (OpenSpec.ofChange fnExactBallOfLatticeSpec)

/-- ITS FALSE NEIGHBOUR: 'it returns false'. Refute it at one input. -/
def fnExactBallOfLatticeWrong : ChangeSpec := { name := "fnExactBallOfLattice", fn := fun _ => fun
  | [d1, d2] => { results := [.lit (.bool false)], args := [d1, d2] }
  | _ => none }
def FnExactBallOfLatticeWrongFalsely : Prop := fnExactBallOfLatticeRow.holds Try.pinned (OpenSpec.ofChange fnExactBallOfLatticeWrong)

/-- 'laws.FnExactBallOfEnd': WHATEVER THE INPUT: true; the input reads as it did. -/
def fnExactBallOfEndSpec : ChangeSpec := { name := "fnExactBallOfEnd", fn := fun _ => fun
  | [d1, d2, d3] => { results := [.lit (.bool true)], args := [d1, d2, d3] }
  | _ => none }
def fnExactBallOfEndRow : OpenClaim := { program := "ytbjdnagmjponbaa", sum := "75bfc87cfa3ad46b93b9fa548dd83fb3387ff42240d4d0878888df88718befb2", func := "loop.example/g01252/laws.FnExactBallOfEnd", spec := "fnExactBallOfEnd", named := ["math/bits.divideError", "math/bits.overflowError"], apart := false }
def FnExactBallOfEndSaid : Prop := fnExactBallOfEndRow.holds Try.pinned (OpenSpec.ofChange fnExactBallOfEndSpec)

/-- ITS FALSE NEIGHBOUR: 'it returns false'. Refute it at one input. -/
def fnExactBallOfEndWrong : ChangeSpec := { name := "fnExactBallOfEnd", fn := fun _ => fun
  | [d1, d2, d3] => { results := [.lit (.bool false)], args := [d1, d2, d3] }
  | _ => none }
def FnExactBallOfEndWrongFalsely : Prop := fnExactBallOfEndRow.holds Try.pinned (OpenSpec.ofChange fnExactBallOfEndWrong)

/-- 'laws.FnExactChildrenOf': WHATEVER THE INPUT: true; the input reads as it did. -/
def fnExactChildrenOfSpec : ChangeSpec := { name := "fnExactChildrenOf", fn := fun _ => fun
  | [d1, d2] => { results := [.lit (.bool true)], args := [d1, d2] }
  | _ => none }
def fnExactChildrenOfRow : OpenClaim := { program := "ytbjdnagmjponbaa", sum := "75bfc87cfa3ad46b93b9fa548dd83fb3387ff42240d4d0878888df88718befb2", func := "loop.example/g01252/laws.FnExactChildrenOf", spec := "fnExactChildrenOf", apart := false }
def FnExactChildrenOfSaid : Prop := fnExactChildrenOfRow.holds Try.pinned (OpenSpec.ofChange fnExactChildrenOfSpec)

/-- ITS FALSE NEIGHBOUR: 'it returns false'. Refute it at one input. -/
def fnExactChildrenOfWrong : ChangeSpec := { name := "fnExactChildrenOf", fn := fun _ => fun
  | [d1, d2] => { results := [.lit (.bool false)], args := [d1, d2] }
  | _ => none }
def FnExactChildrenOfWrongFalsely : Prop := fnExactChildrenOfRow.holds Try.pinned (OpenSpec.ofChange fnExactChildrenOfWrong)

/- THE SECOND FORM. 'bulk': how many values and letters a reading holds, each counted each time it is reached (what is shared counts as often as it is met; a slice's spare places count too). A statement '..UptoSaid' is the law's where the arguments, and the package variables that the reading takes, are together of bulk at most 1048576: NARROWER than '..Said'. Prove '..Said' where nothing that the law and all that it calls make is longer than what came in: it says more and counts as full. Else prove '..UptoSaid'. A law counts once. -/
mutual
def uptoBulk {H : Type} : DataW H → Nat
  | .lit (.string bytes) => bytes.length + 1
  | .lit _ => 1
  | .nil => 1
  | .ptr d => uptoBulk d + 1
  | .slice elems spare => uptoBulkAll elems + uptoBulkAll spare + 1
  | .agg parts => uptoBulkAll parts + 1
  | .iface _ d => uptoBulk d + 1
  | .map entries => uptoBulkEntries entries + 1
  | .held _ => 1
def uptoBulkAll {H : Type} : List (DataW H) → Nat
  | [] => 0
  | d :: r => uptoBulk d + uptoBulkAll r
def uptoBulkEntries {H : Type} : List (Lit × DataW H) → Nat
  | [] => 0
  | x :: r => uptoBulkEntry x + uptoBulkEntries r
def uptoBulkEntry {H : Type} : Lit × DataW H → Nat
  | (.string bytes, d) => bytes.length + uptoBulk d + 1
  | (_, d) => uptoBulk d + 1
 end
def uptoSmall : (H : Type) → List (DataW H) → Bool := fun _ ds => decide (uptoBulkAll ds ≤ 1048576)
def OpenSpec.upto (s : _root_.Go.ChangeSpec) : _root_.Go.OpenSpec := { _root_.Go.OpenSpec.ofChange s with cond := some uptoSmall }

/-- 'laws.FnExactMultiplyBall', WHERE WHAT IT READS IS OF BULK AT MOST 1048576: true; the input reads as it did. -/
def fnExactMultiplyBallUptoRow : OpenClaim := { program := "ytbjdnagmjponbaa", sum := "75bfc87cfa3ad46b93b9fa548dd83fb3387ff42240d4d0878888df88718befb2", func := "loop.example/g01252/laws.FnExactMultiplyBall", spec := "fnExactMultiplyBall", apart := false, narrowed := true }
def FnExactMultiplyBallUptoSaid : Prop := fnExactMultiplyBallUptoRow.holds Try.pinned (OpenSpec.upto fnExactMultiplyBallSpec)

/-- 'laws.FnExactMedianOf', WHERE WHAT IT READS IS OF BULK AT MOST 1048576: true; the input reads as it did. -/
def fnExactMedianOfUptoRow : OpenClaim := { program := "ytbjdnagmjponbaa", sum := "75bfc87cfa3ad46b93b9fa548dd83fb3387ff42240d4d0878888df88718befb2", func := "loop.example/g01252/laws.FnExactMedianOf", spec := "fnExactMedianOf", apart := false, narrowed := true }
def FnExactMedianOfUptoSaid : Prop := fnExactMedianOfUptoRow.holds Try.pinned (OpenSpec.upto fnExactMedianOfSpec)

/-- 'laws.FnExactHoldsLattice', WHERE WHAT IT READS IS OF BULK AT MOST 1048576: true; the input reads as it did. -/
def fnExactHoldsLatticeUptoRow : OpenClaim := { program := "ytbjdnagmjponbaa", sum := "75bfc87cfa3ad46b93b9fa548dd83fb3387ff42240d4d0878888df88718befb2", func := "loop.example/g01252/laws.FnExactHoldsLattice", spec := "fnExactHoldsLattice", named := ["math/bits.divideError", "math/bits.overflowError"], apart := false, narrowed := true }
def FnExactHoldsLatticeUptoSaid : Prop := fnExactHoldsLatticeUptoRow.holds Try.pinned (OpenSpec.upto fnExactHoldsLatticeSpec)

/-- 'laws.FnExactHoldsVector', WHERE WHAT IT READS IS OF BULK AT MOST 1048576: true; the input reads as it did. -/
def fnExactHoldsVectorUptoRow : OpenClaim := { program := "ytbjdnagmjponbaa", sum := "75bfc87cfa3ad46b93b9fa548dd83fb3387ff42240d4d0878888df88718befb2", func := "loop.example/g01252/laws.FnExactHoldsVector", spec := "fnExactHoldsVector", named := ["math/bits.divideError", "math/bits.overflowError"], apart := false, narrowed := true }
def FnExactHoldsVectorUptoSaid : Prop := fnExactHoldsVectorUptoRow.holds Try.pinned (OpenSpec.upto fnExactHoldsVectorSpec)

/-- 'laws.FnExactSumOfLattices', WHERE WHAT IT READS IS OF BULK AT MOST 1048576: true; the input reads as it did. -/
def fnExactSumOfLatticesUptoRow : OpenClaim := { program := "ytbjdnagmjponbaa", sum := "75bfc87cfa3ad46b93b9fa548dd83fb3387ff42240d4d0878888df88718befb2", func := "loop.example/g01252/laws.FnExactSumOfLattices", spec := "fnExactSumOfLattices", named := ["math/bits.divideError", "math/bits.overflowError"], apart := false, narrowed := true }
def FnExactSumOfLatticesUptoSaid : Prop := fnExactSumOfLatticesUptoRow.holds Try.pinned (OpenSpec.upto fnExactSumOfLatticesSpec)

/-- 'laws.FnExactLatticePosition', WHERE WHAT IT READS IS OF BULK AT MOST 1048576: true; the input reads as it did. -/
def fnExactLatticePositionUptoRow : OpenClaim := { program := "ytbjdnagmjponbaa", sum := "75bfc87cfa3ad46b93b9fa548dd83fb3387ff42240d4d0878888df88718befb2", func := "loop.example/g01252/laws.FnExactLatticePosition", spec := "fnExactLatticePosition", inPlace := ["math/bits.Sub64"], named := ["math/bits.divideError", "math/bits.overflowError"], apart := false, narrowed := true }
def FnExactLatticePositionUptoSaid : Prop := fnExactLatticePositionUptoRow.holds Try.pinned (OpenSpec.upto fnExactLatticePositionSpec)

/-- 'laws.FnExactMeetOfLattices', WHERE WHAT IT READS IS OF BULK AT MOST 1048576: true; the input reads as it did. -/
def fnExactMeetOfLatticesUptoRow : OpenClaim := { program := "ytbjdnagmjponbaa", sum := "75bfc87cfa3ad46b93b9fa548dd83fb3387ff42240d4d0878888df88718befb2", func := "loop.example/g01252/laws.FnExactMeetOfLattices", spec := "fnExactMeetOfLattices", named := ["math/bits.divideError", "math/bits.overflowError"], apart := false, narrowed := true }
def FnExactMeetOfLatticesUptoSaid : Prop := fnExactMeetOfLatticesUptoRow.holds Try.pinned (OpenSpec.upto fnExactMeetOfLatticesSpec)

/-- 'laws.FnExactLatticeOf', WHERE WHAT IT READS IS OF BULK AT MOST 1048576: true; the input reads as it did. -/
def fnExactLatticeOfUptoRow : OpenClaim := { program := "ytbjdnagmjponbaa", sum := "75bfc87cfa3ad46b93b9fa548dd83fb3387ff42240d4d0878888df88718befb2", func := "loop.example/g01252/laws.FnExactLatticeOf", spec := "fnExactLatticeOf", named := ["math/bits.divideError", "math/bits.overflowError"], apart := false, narrowed := true }
def FnExactLatticeOfUptoSaid : Prop := fnExactLatticeOfUptoRow.holds Try.pinned (OpenSpec.upto fnExactLatticeOfSpec)

/-- 'laws.FnExactBallOf', WHERE WHAT IT READS IS OF BULK AT MOST 1048576: true; the input reads as it did. -/
def fnExactBallOfUptoRow : OpenClaim := { program := "ytbjdnagmjponbaa", sum := "75bfc87cfa3ad46b93b9fa548dd83fb3387ff42240d4d0878888df88718befb2", func := "loop.example/g01252/laws.FnExactBallOf", spec := "fnExactBallOf", named := ["math/bits.divideError", "math/bits.overflowError"], apart := false, narrowed := true }
def FnExactBallOfUptoSaid : Prop := fnExactBallOfUptoRow.holds Try.pinned (OpenSpec.upto fnExactBallOfSpec)

/-- 'laws.FnExactBallOfLattice', WHERE WHAT IT READS IS OF BULK AT MOST 1048576: true; the input reads as it did. -/
def fnExactBallOfLatticeUptoRow : OpenClaim := { program := "ytbjdnagmjponbaa", sum := "75bfc87cfa3ad46b93b9fa548dd83fb3387ff42240d4d0878888df88718befb2", func := "loop.example/g01252/laws.FnExactBallOfLattice", spec := "fnExactBallOfLattice", named := ["math/bits.divideError", "math/bits.overflowError"], apart := false, narrowed := true }
def FnExactBallOfLatticeUptoSaid : Prop := fnExactBallOfLatticeUptoRow.holds Try.pinned (OpenSpec.upto fnExactBallOfLatticeSpec)

/-- 'laws.FnExactBallOfEnd', WHERE WHAT IT READS IS OF BULK AT MOST 1048576: true; the input reads as it did. -/
def fnExactBallOfEndUptoRow : OpenClaim := { program := "ytbjdnagmjponbaa", sum := "75bfc87cfa3ad46b93b9fa548dd83fb3387ff42240d4d0878888df88718befb2", func := "loop.example/g01252/laws.FnExactBallOfEnd", spec := "fnExactBallOfEnd", named := ["math/bits.divideError", "math/bits.overflowError"], apart := false, narrowed := true }
def FnExactBallOfEndUptoSaid : Prop := fnExactBallOfEndUptoRow.holds Try.pinned (OpenSpec.upto fnExactBallOfEndSpec)

/-- 'laws.FnExactChildrenOf', WHERE WHAT IT READS IS OF BULK AT MOST 1048576: true; the input reads as it did. -/
def fnExactChildrenOfUptoRow : OpenClaim := { program := "ytbjdnagmjponbaa", sum := "75bfc87cfa3ad46b93b9fa548dd83fb3387ff42240d4d0878888df88718befb2", func := "loop.example/g01252/laws.FnExactChildrenOf", spec := "fnExactChildrenOf", apart := false, narrowed := true }
def FnExactChildrenOfUptoSaid : Prop := fnExactChildrenOfUptoRow.holds Try.pinned (OpenSpec.upto fnExactChildrenOfSpec)

end Rows
end Go.Proofs.Ytbjdnagmjponbaa
