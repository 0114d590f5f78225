/- Machine proofs of Go functions, part x0: began as a text that the kit's print wrote, turned by hand. -/
import Derived.Test.YtpheniajdbbphaaProg
import Derived.Below
import Derived.Deep.Draws
import Derived.Deep.AppendLies
import Derived.Maps.AppendAt
import Derived.OwnWalk
import Derived.Laws.BytesArg
import Derived.Laws.MakeOwn
import Derived.Laws.OwnMore
import Derived.Deep.OwnRows
import Derived.Tactics
import Derived.Lib.ConvBytes
import Derived.Laws.Slices
import Derived.WalkKit
import Derived.KernelRfl
import Derived.RowKit3
import Derived.Deep.LoopGhost
import Derived.Deep.QuietTactic
import Derived.BigQuiet
import Derived.WideLaws
import Derived.Deep.DeepCutAuto
import Derived.Deep.CutBlock
import Derived.Deep.RegionHeld3
import Derived.Laws.Rows
import Derived.Lib.AppendStr
import Derived.ArgAppend
import Derived.Laws.IdiomCopy
import Derived.OrdersHeld
import Derived.Laws.BitsLemmas
import Derived.RowKit
import Derived.Test.YtpheniajdbbphaaWWords
import Derived.Test.YtpheniajdbbphaaWLast
import Derived.Test.YtpheniajdbbphaaWTab
import Derived.Test.YtpheniajdbbphaaWFour
import Derived.Test.YtpheniajdbbphaaWQPut
import Derived.Test.YtpheniajdbbphaaWApart
import Derived.Test.YtpheniajdbbphaaWArr
import Derived.Test.YtpheniajdbbphaaWZeros
import Derived.Test.YtpheniajdbbphaaWFoot
import Derived.Test.YtpheniajdbbphaaWKept
import Derived.Test.YtpheniajdbbphaaWShare
import Derived.Test.YtpheniajdbbphaaWN
import Derived.Test.YtpheniajdbbphaaWFootNe
import Derived.Test.YtpheniajdbbphaaWAt
import Derived.Test.YtpheniajdbbphaaWEqStruct
import Derived.Test.YtpheniajdbbphaaWRepsOne
import Derived.Test.YtpheniajdbbphaaWInv
import Derived.Test.YtpheniajdbbphaaWInvWords
import Derived.Test.YtpheniajdbbphaaWGuard
import Derived.Test.YtpheniajdbbphaaWNEv
import Derived.Test.YtpheniajdbbphaaWMore
namespace Go.Proofs.Ytpheniajdbbphaa.PFnExactPacketText
open Go.RowKit Go.Proofs.YtpheniajdbbphaaW.PrintWords Go.Proofs.YtpheniajdbbphaaW.PrintLast Go.Proofs.YtpheniajdbbphaaW.PrintMore
attribute [local go_sem] max2_int min2_int max_two min_two max_three min_three max_four min_four   -- for this text's walks alone
set_option linter.unusedVariables false
set_option linter.unusedSimpArgs false



def errW : Option Int → Value
  | none => .nilIface
  | some c => .iface 0 (.int .i64 c)
theorem errW_none : errW none = .nilIface := rfl
theorem errW_some (c : Int) : errW (some c) = .iface 0 (.int .i64 c) := rfl

theorem info3 : (Try.prog.info? 3).map (fun i => (i.zero, i.size, i.bytes)) = some (some (.int .i64 0), 1, 8) := by kernel_rfl
theorem info5 : (Try.prog.info? 5).map (fun i => (i.zero, i.size, i.bytes)) = some (some (.int .u8 0), 1, 1) := by kernel_rfl
-- the values' own types

end Go.Proofs.Ytpheniajdbbphaa.PFnExactPacketText
