-- PRINTED BY print.sh 35421559b90ae4d0a3588c463048766b98c2df88dd9212a6774a882060cdf62d: not written by this session
import Derived.Test.YtockdkalkelbcaaProg
import Derived.Below
import Derived.Deep.Draws
import Derived.Deep.AppendLies
import Derived.Maps.AppendAt
import Derived.OwnWalk
import Derived.Laws.BytesArg
import Derived.Laws.MakeOwn
import Derived.Laws.OwnMore
import Derived.Deep.OwnRows
import Derived.Tactics
import Derived.Lib.ConvBytes
import Derived.Laws.Slices
import Derived.WalkKit
import Derived.KernelRfl
import Derived.RowKit3
import Derived.Deep.LoopGhost
import Derived.Deep.QuietTactic
import Derived.BigQuiet
import Derived.WideLaws
import Derived.Deep.DeepCutAuto
import Derived.Deep.CutBlock
import Derived.Deep.RegionHeld3
import Derived.Laws.Rows
import Derived.Lib.AppendStr
import Derived.ArgAppend
import Derived.Laws.IdiomCopy
import Derived.OrdersHeld
import Derived.Laws.BitsLemmas
import Derived.RowKit
import Derived.Test.YtockdkalkelbcaaWWords
import Derived.Test.YtockdkalkelbcaaWLast
import Derived.Test.YtockdkalkelbcaaWTab
import Derived.Test.YtockdkalkelbcaaWFour
import Derived.Test.YtockdkalkelbcaaWQPut
import Derived.Test.YtockdkalkelbcaaWApart
import Derived.Test.YtockdkalkelbcaaWArr
import Derived.Test.YtockdkalkelbcaaWZeros
import Derived.Test.YtockdkalkelbcaaWFoot
import Derived.Test.YtockdkalkelbcaaWKept
import Derived.Test.YtockdkalkelbcaaWShare
import Derived.Test.YtockdkalkelbcaaWN
import Derived.Test.YtockdkalkelbcaaWFootNe
import Derived.Test.YtockdkalkelbcaaWAt
import Derived.Test.YtockdkalkelbcaaWEqStruct
import Derived.Test.YtockdkalkelbcaaWRepsOne
import Derived.Test.YtockdkalkelbcaaWInv
import Derived.Test.YtockdkalkelbcaaWInvWords
import Derived.Test.YtockdkalkelbcaaWGuard
import Derived.Test.YtockdkalkelbcaaWNEv
import Derived.Test.YtockdkalkelbcaaWMore
namespace Go.Proofs.Ytockdkalkelbcaa.PFnExactEndOf
open Go.RowKit Go.Proofs.YtockdkalkelbcaaW.PrintWords Go.Proofs.YtockdkalkelbcaaW.PrintLast Go.Proofs.YtockdkalkelbcaaW.PrintMore
attribute [local go_sem] max2_int min2_int max_two min_two max_three min_three max_four min_four   -- for this text's walks alone
set_option linter.unusedVariables false
set_option linter.unusedSimpArgs false



def errW : Option Int → Value
  | none => .nilIface
  | some c => .iface 0 (.int .i64 c)
theorem errW_none : errW none = .nilIface := rfl
theorem errW_some (c : Int) : errW (some c) = .iface 0 (.int .i64 c) := rfl

theorem info2 : (Try.prog.info? 2).map (fun i => (i.zero, i.size, i.bytes)) = some (some (.int .i64 0), 1, 8) := by kernel_rfl
-- the values' own types

end Go.Proofs.Ytockdkalkelbcaa.PFnExactEndOf
