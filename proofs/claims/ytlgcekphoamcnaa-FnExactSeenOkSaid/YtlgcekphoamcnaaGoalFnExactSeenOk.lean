/- The pure statement of FnExactSeenOk: over numbers and lists alone. -/
import Derived.Test.YtlgcekphoamcnaaPFnExactSeenOkx3
namespace Go.Proofs.Ytlgcekphoamcnaa.PFnExactSeenOk
open Go.RowKit Go.Proofs.YtlgcekphoamcnaaW.PrintWords Go.Proofs.YtlgcekphoamcnaaW.PrintLast Go.Proofs.YtlgcekphoamcnaaW.PrintMore
def laws_FnExactSeenOk.Goal : Prop := ∀ (l0 : List (Int)), (l0.length ≤ maxLen ∧ l0.length * 8 ≤ 140737488351232 ∧ ∀ x ∈ l0, (Lit.int .i64 x).wf = true) → ∃ k, laws_FnExactSeenOk.f k l0 = some true
end Go.Proofs.Ytlgcekphoamcnaa.PFnExactSeenOk
