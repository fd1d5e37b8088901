-- Written by a program of this session, after the manner of the kit's print.
import Derived.Test.YtgdkmchphpjifaaProg
import Derived.Below
import Derived.Deep.Draws
import Derived.Deep.AppendLies
import Derived.Maps.AppendAt
import Derived.OwnWalk
import Derived.Laws.BytesArg
import Derived.Laws.MakeOwn
import Derived.Laws.OwnMore
import Derived.Deep.OwnRows
import Derived.Tactics
import Derived.Lib.ConvBytes
import Derived.Laws.Slices
import Derived.WalkKit
import Derived.KernelRfl
import Derived.RowKit3
import Derived.Deep.LoopGhost
import Derived.Deep.QuietTactic
import Derived.BigQuiet
import Derived.WideLaws
import Derived.Deep.DeepCutAuto
import Derived.Deep.CutBlock
import Derived.Deep.RegionHeld3
import Derived.Laws.Rows
import Derived.Lib.AppendStr
import Derived.ArgAppend
import Derived.Laws.IdiomCopy
import Derived.OrdersHeld
import Derived.Laws.BitsLemmas
import Derived.RowKit
import Derived.Lib.Bytealg
import Derived.Test.YtgdkmchphpjifaaWWords
import Derived.Test.YtgdkmchphpjifaaWLast
import Derived.Test.YtgdkmchphpjifaaWTab
import Derived.Test.YtgdkmchphpjifaaWFour
import Derived.Test.YtgdkmchphpjifaaWQPut
import Derived.Test.YtgdkmchphpjifaaWApart
import Derived.Test.YtgdkmchphpjifaaWArr
import Derived.Test.YtgdkmchphpjifaaWZeros
import Derived.Test.YtgdkmchphpjifaaWFoot
import Derived.Test.YtgdkmchphpjifaaWKept
import Derived.Test.YtgdkmchphpjifaaWShare
import Derived.Test.YtgdkmchphpjifaaWN
import Derived.Test.YtgdkmchphpjifaaWFootNe
import Derived.Test.YtgdkmchphpjifaaWAt
import Derived.Test.YtgdkmchphpjifaaWEqStruct
import Derived.Test.YtgdkmchphpjifaaWRepsOne
import Derived.Test.YtgdkmchphpjifaaWInv
import Derived.Test.YtgdkmchphpjifaaWInvWords
import Derived.Test.YtgdkmchphpjifaaWGuard
import Derived.Test.YtgdkmchphpjifaaWNEv
import Derived.Test.YtgdkmchphpjifaaWMore
namespace Go.Proofs.Ytgdkmchphpjifaa.PFnExactParseBall
open Go.RowKit Go.Proofs.YtgdkmchphpjifaaW.PrintWords Go.Proofs.YtgdkmchphpjifaaW.PrintLast Go.Proofs.YtgdkmchphpjifaaW.PrintMore
attribute [local go_sem] max2_int min2_int max_two min_two max_three min_three max_four min_four   -- for this text's walks alone
set_option linter.unusedVariables false
set_option linter.unusedSimpArgs false



def errW : Option Int → Value
  | none => .nilIface
  | some c => .iface 0 (.int .i64 c)
theorem errW_none : errW none = .nilIface := rfl
theorem errW_some (c : Int) : errW (some c) = .iface 0 (.int .i64 c) := rfl

theorem info9 : (Try.prog.info? 9).map (fun i => (i.zero, i.size, i.bytes)) = some (some (.string ⟨#[]⟩), 1, 16) := by kernel_rfl
-- the values' own types

end Go.Proofs.Ytgdkmchphpjifaa.PFnExactParseBall
