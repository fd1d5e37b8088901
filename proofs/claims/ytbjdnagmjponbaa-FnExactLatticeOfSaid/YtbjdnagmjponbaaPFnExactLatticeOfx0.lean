-- Written by a program of this session, after the manner of the kit's print.
import Derived.Test.YtbjdnagmjponbaaProg
import Derived.Below
import Derived.Deep.Draws
import Derived.Deep.AppendLies
import Derived.Maps.AppendAt
import Derived.OwnWalk
import Derived.Laws.BytesArg
import Derived.Laws.MakeOwn
import Derived.Laws.OwnMore
import Derived.Deep.OwnRows
import Derived.Tactics
import Derived.Lib.ConvBytes
import Derived.Laws.Slices
import Derived.WalkKit
import Derived.KernelRfl
import Derived.RowKit3
import Derived.Deep.LoopGhost
import Derived.Deep.QuietTactic
import Derived.BigQuiet
import Derived.WideLaws
import Derived.Deep.DeepCutAuto
import Derived.Deep.CutBlock
import Derived.Deep.RegionHeld3
import Derived.Laws.Rows
import Derived.Lib.AppendStr
import Derived.ArgAppend
import Derived.Laws.IdiomCopy
import Derived.OrdersHeld
import Derived.Laws.BitsLemmas
import Derived.RowKit
import Derived.Test.YtbjdnagmjponbaaWWords
import Derived.Test.YtbjdnagmjponbaaWLast
import Derived.Test.YtbjdnagmjponbaaWTab
import Derived.Test.YtbjdnagmjponbaaWFour
import Derived.Test.YtbjdnagmjponbaaWQPut
import Derived.Test.YtbjdnagmjponbaaWApart
import Derived.Test.YtbjdnagmjponbaaWArr
import Derived.Test.YtbjdnagmjponbaaWZeros
import Derived.Test.YtbjdnagmjponbaaWFoot
import Derived.Test.YtbjdnagmjponbaaWKept
import Derived.Test.YtbjdnagmjponbaaWShare
import Derived.Test.YtbjdnagmjponbaaWN
import Derived.Test.YtbjdnagmjponbaaWFootNe
import Derived.Test.YtbjdnagmjponbaaWAt
import Derived.Test.YtbjdnagmjponbaaWEqStruct
import Derived.Test.YtbjdnagmjponbaaWRepsOne
import Derived.Test.YtbjdnagmjponbaaWInv
import Derived.Test.YtbjdnagmjponbaaWInvWords
import Derived.Test.YtbjdnagmjponbaaWGuard
import Derived.Test.YtbjdnagmjponbaaWNEv
import Derived.Test.YtbjdnagmjponbaaWMore
namespace Go.Proofs.Ytbjdnagmjponbaa.PFnExactLatticeOf
open Go.RowKit Go.Proofs.YtbjdnagmjponbaaW.PrintWords Go.Proofs.YtbjdnagmjponbaaW.PrintLast Go.Proofs.YtbjdnagmjponbaaW.PrintMore
attribute [local go_sem] max2_int min2_int max_two min_two max_three min_three max_four min_four   -- for this text's walks alone
set_option linter.unusedVariables false
set_option linter.unusedSimpArgs false



def errW : Option Int → Value
  | none => .nilIface
  | some c => .iface 0 (.int .i64 c)
theorem errW_none : errW none = .nilIface := rfl
theorem errW_some (c : Int) : errW (some c) = .iface 0 (.int .i64 c) := rfl

theorem info2 : (Try.prog.info? 2).map (fun i => (i.zero, i.size, i.bytes)) = some (some (.int .i64 0), 1, 8) := by kernel_rfl
-- the values' own types

end Go.Proofs.Ytbjdnagmjponbaa.PFnExactLatticeOf
