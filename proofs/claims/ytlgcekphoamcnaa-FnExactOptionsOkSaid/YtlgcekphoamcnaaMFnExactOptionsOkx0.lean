/- Machine proofs of Go functions, part x0: began as a text that the kit's print wrote, turned by hand. -/
import Derived.Test.YtlgcekphoamcnaaProg
import Derived.Below
import Derived.Deep.Draws
import Derived.Deep.AppendLies
import Derived.Maps.AppendAt
import Derived.OwnWalk
import Derived.Laws.BytesArg
import Derived.Laws.MakeOwn
import Derived.Laws.OwnMore
import Derived.Deep.OwnRows
import Derived.Tactics
import Derived.Lib.ConvBytes
import Derived.Laws.Slices
import Derived.WalkKit
import Derived.KernelRfl
import Derived.RowKit3
import Derived.Deep.LoopGhost
import Derived.Deep.QuietTactic
import Derived.BigQuiet
import Derived.WideLaws
import Derived.Deep.DeepCutAuto
import Derived.Deep.CutBlock
import Derived.Deep.RegionHeld3
import Derived.Laws.Rows
import Derived.Lib.AppendStr
import Derived.ArgAppend
import Derived.Laws.IdiomCopy
import Derived.OrdersHeld
import Derived.Laws.BitsLemmas
import Derived.RowKit
import Derived.Test.YtlgcekphoamcnaaWWords
import Derived.Test.YtlgcekphoamcnaaWLast
import Derived.Test.YtlgcekphoamcnaaWTab
import Derived.Test.YtlgcekphoamcnaaWFour
import Derived.Test.YtlgcekphoamcnaaWQPut
import Derived.Test.YtlgcekphoamcnaaWApart
import Derived.Test.YtlgcekphoamcnaaWArr
import Derived.Test.YtlgcekphoamcnaaWZeros
import Derived.Test.YtlgcekphoamcnaaWFoot
import Derived.Test.YtlgcekphoamcnaaWKept
import Derived.Test.YtlgcekphoamcnaaWShare
import Derived.Test.YtlgcekphoamcnaaWN
import Derived.Test.YtlgcekphoamcnaaWFootNe
import Derived.Test.YtlgcekphoamcnaaWAt
import Derived.Test.YtlgcekphoamcnaaWEqStruct
import Derived.Test.YtlgcekphoamcnaaWRepsOne
import Derived.Test.YtlgcekphoamcnaaWInv
import Derived.Test.YtlgcekphoamcnaaWInvWords
import Derived.Test.YtlgcekphoamcnaaWGuard
import Derived.Test.YtlgcekphoamcnaaWNEv
import Derived.Test.YtlgcekphoamcnaaWMore
namespace Go.Proofs.Ytlgcekphoamcnaa.PFnExactOptionsOk
open Go.RowKit Go.Proofs.YtlgcekphoamcnaaW.PrintWords Go.Proofs.YtlgcekphoamcnaaW.PrintLast Go.Proofs.YtlgcekphoamcnaaW.PrintMore
attribute [local go_sem] max2_int min2_int max_two min_two max_three min_three max_four min_four   -- for this text's walks alone
set_option linter.unusedVariables false
set_option linter.unusedSimpArgs false



def errW : Option Int → Value
  | none => .nilIface
  | some c => .iface 0 (.int .i64 c)
theorem errW_none : errW none = .nilIface := rfl
theorem errW_some (c : Int) : errW (some c) = .iface 0 (.int .i64 c) := rfl

theorem info9 : (Try.prog.info? 9).map (fun i => (i.zero, i.size, i.bytes)) = some (some (.string ⟨#[]⟩), 1, 16) := by kernel_rfl
-- the values' own types

end Go.Proofs.Ytlgcekphoamcnaa.PFnExactOptionsOk
