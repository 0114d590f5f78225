/- Machine proofs of Go functions, part x0: began as a text that the kit's print wrote, turned by hand. -/
import Derived.Test.YtpinehfjimphmaaProg
import Derived.Below
import Derived.Deep.Draws
import Derived.Deep.AppendLies
import Derived.Maps.AppendAt
import Derived.OwnWalk
import Derived.Laws.BytesArg
import Derived.Laws.MakeOwn
import Derived.Laws.OwnMore
import Derived.Deep.OwnRows
import Derived.Tactics
import Derived.Lib.ConvBytes
import Derived.Laws.Slices
import Derived.WalkKit
import Derived.KernelRfl
import Derived.RowKit3
import Derived.Deep.LoopGhost
import Derived.Deep.QuietTactic
import Derived.BigQuiet
import Derived.WideLaws
import Derived.Deep.DeepCutAuto
import Derived.Deep.CutBlock
import Derived.Deep.RegionHeld3
import Derived.Laws.Rows
import Derived.Lib.AppendStr
import Derived.ArgAppend
import Derived.Laws.IdiomCopy
import Derived.OrdersHeld
import Derived.Laws.BitsLemmas
import Derived.RowKit
import Derived.Test.YtpinehfjimphmaaWWords
import Derived.Test.YtpinehfjimphmaaWLast
import Derived.Test.YtpinehfjimphmaaWTab
import Derived.Test.YtpinehfjimphmaaWFour
import Derived.Test.YtpinehfjimphmaaWQPut
import Derived.Test.YtpinehfjimphmaaWApart
import Derived.Test.YtpinehfjimphmaaWArr
import Derived.Test.YtpinehfjimphmaaWZeros
import Derived.Test.YtpinehfjimphmaaWFoot
import Derived.Test.YtpinehfjimphmaaWKept
import Derived.Test.YtpinehfjimphmaaWShare
import Derived.Test.YtpinehfjimphmaaWN
import Derived.Test.YtpinehfjimphmaaWFootNe
import Derived.Test.YtpinehfjimphmaaWAt
import Derived.Test.YtpinehfjimphmaaWEqStruct
import Derived.Test.YtpinehfjimphmaaWRepsOne
import Derived.Test.YtpinehfjimphmaaWInv
import Derived.Test.YtpinehfjimphmaaWInvWords
import Derived.Test.YtpinehfjimphmaaWGuard
import Derived.Test.YtpinehfjimphmaaWNEv
import Derived.Test.YtpinehfjimphmaaWMore
namespace Go.Proofs.Ytpinehfjimphmaa.PFnExactHello
open Go.RowKit Go.Proofs.YtpinehfjimphmaaW.PrintWords Go.Proofs.YtpinehfjimphmaaW.PrintLast Go.Proofs.YtpinehfjimphmaaW.PrintMore
attribute [local go_sem] max2_int min2_int max_two min_two max_three min_three max_four min_four   -- for this text's walks alone
set_option linter.unusedVariables false
set_option linter.unusedSimpArgs false



def errW : Option Int → Value
  | none => .nilIface
  | some c => .iface 0 (.int .i64 c)
theorem errW_none : errW none = .nilIface := rfl
theorem errW_some (c : Int) : errW (some c) = .iface 0 (.int .i64 c) := rfl

theorem info5 : (Try.prog.info? 5).map (fun i => (i.zero, i.size, i.bytes)) = some (some (.int .u8 0), 1, 1) := by kernel_rfl
-- the values' own types

end Go.Proofs.Ytpinehfjimphmaa.PFnExactHello
