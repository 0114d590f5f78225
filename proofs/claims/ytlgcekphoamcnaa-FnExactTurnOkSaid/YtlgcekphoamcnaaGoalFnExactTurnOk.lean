/- The pure statement of FnExactTurnOk: over numbers and lists alone. -/
import Derived.Test.YtlgcekphoamcnaaPFnExactTurnOkx1
namespace Go.Proofs.Ytlgcekphoamcnaa.PFnExactTurnOk
open Go.RowKit Go.Proofs.YtlgcekphoamcnaaW.PrintWords Go.Proofs.YtlgcekphoamcnaaW.PrintLast Go.Proofs.YtlgcekphoamcnaaW.PrintMore
def laws_FnExactTurnOk.Goal : Prop := ∀ (a0_0 : Int) (a0_1 : Int) (a0_2 : Int), ((Lit.int .i64 a0_0).wf = true) → ((Lit.int .i64 a0_1).wf = true) → ((Lit.int .i64 a0_2).wf = true) →  laws_FnExactTurnOk.f a0_0 a0_1 a0_2 = some true
end Go.Proofs.Ytlgcekphoamcnaa.PFnExactTurnOk
