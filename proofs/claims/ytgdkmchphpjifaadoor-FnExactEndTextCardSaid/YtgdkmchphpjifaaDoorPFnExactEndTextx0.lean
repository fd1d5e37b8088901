-- Written by a program of this session, after the manner of the kit's print.
import Derived.Test.YtgdkmchphpjifaaDoorProg
import Derived.Below
import Derived.Deep.Draws
import Derived.Deep.AppendLies
import Derived.Maps.AppendAt
import Derived.OwnWalk
import Derived.Laws.BytesArg
import Derived.Laws.MakeOwn
import Derived.Laws.OwnMore
import Derived.Deep.OwnRows
import Derived.Tactics
import Derived.Lib.ConvBytes
import Derived.Laws.Slices
import Derived.WalkKit
import Derived.KernelRfl
import Derived.RowKit3
import Derived.Deep.LoopGhost
import Derived.Deep.QuietTactic
import Derived.BigQuiet
import Derived.WideLaws
import Derived.Deep.DeepCutAuto
import Derived.Deep.CutBlock
import Derived.Deep.RegionHeld3
import Derived.Laws.Rows
import Derived.Lib.AppendStr
import Derived.ArgAppend
import Derived.Laws.IdiomCopy
import Derived.OrdersHeld
import Derived.Laws.BitsLemmas
import Derived.RowKit
import Derived.Test.YtgdkmchphpjifaaDoorFmt
import Derived.Lib.IndexBytes
import Derived.Test.YtgdkmchphpjifaaDoorWWords
import Derived.Test.YtgdkmchphpjifaaDoorWLast
import Derived.Test.YtgdkmchphpjifaaDoorWTab
import Derived.Test.YtgdkmchphpjifaaDoorWFour
import Derived.Test.YtgdkmchphpjifaaDoorWQPut
import Derived.Test.YtgdkmchphpjifaaDoorWApart
import Derived.Test.YtgdkmchphpjifaaDoorWArr
import Derived.Test.YtgdkmchphpjifaaDoorWZeros
import Derived.Test.YtgdkmchphpjifaaDoorWFoot
import Derived.Test.YtgdkmchphpjifaaDoorWKept
import Derived.Test.YtgdkmchphpjifaaDoorWShare
import Derived.Test.YtgdkmchphpjifaaDoorWN
import Derived.Test.YtgdkmchphpjifaaDoorWFootNe
import Derived.Test.YtgdkmchphpjifaaDoorWAt
import Derived.Test.YtgdkmchphpjifaaDoorWEqStruct
import Derived.Test.YtgdkmchphpjifaaDoorWRepsOne
import Derived.Test.YtgdkmchphpjifaaDoorWInv
import Derived.Test.YtgdkmchphpjifaaDoorWInvWords
import Derived.Test.YtgdkmchphpjifaaDoorWGuard
import Derived.Test.YtgdkmchphpjifaaDoorWNEv
import Derived.Test.YtgdkmchphpjifaaDoorWMore
namespace Go.Proofs.YtgdkmchphpjifaaDoor.PFnExactEndText
open Go.RowKit Go.Proofs.YtgdkmchphpjifaaDoorW.PrintWords Go.Proofs.YtgdkmchphpjifaaDoorW.PrintLast Go.Proofs.YtgdkmchphpjifaaDoorW.PrintMore
attribute [local go_sem] max2_int min2_int max_two min_two max_three min_three max_four min_four   -- for this text's walks alone
set_option linter.unusedVariables false
set_option linter.unusedSimpArgs false



def errW : Option Int → Value
  | none => .nilIface
  | some c => .iface 0 (.int .i64 c)
theorem errW_none : errW none = .nilIface := rfl
theorem errW_some (c : Int) : errW (some c) = .iface 0 (.int .i64 c) := rfl

theorem info2 : (Tryd.prog.info? 2).map (fun i => (i.zero, i.size, i.bytes)) = some (some (.int .i64 0), 1, 8) := by kernel_rfl
theorem info5 : (Tryd.prog.info? 5).map (fun i => (i.zero, i.size, i.bytes)) = some (some (.int .u8 0), 1, 1) := by kernel_rfl
-- the values' own types

end Go.Proofs.YtgdkmchphpjifaaDoor.PFnExactEndText
