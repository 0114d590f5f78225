/- The pure statement of FnExactOptionsOk: over numbers and lists alone. -/
import Derived.Test.YtlgcekphoamcnaaMFnExactOptionsOkx3
namespace Go.Proofs.Ytlgcekphoamcnaa.PFnExactOptionsOk
open Go.RowKit Go.Proofs.YtlgcekphoamcnaaW.PrintWords Go.Proofs.YtlgcekphoamcnaaW.PrintLast Go.Proofs.YtlgcekphoamcnaaW.PrintMore
def laws_FnExactOptionsOk.Goal : Prop := ∀ (a0_0 : Int) (l0_1 : List (ByteArray)) (a0_2 : Bool), ((Lit.int .i64 a0_0).wf = true) → (l0_1.length ≤ maxLen ∧ l0_1.length * 16 ≤ 140737488351232 ∧ ∀ x ∈ l0_1, x.size ≤ 140737488351232) → (True) → ∃ k, laws_FnExactOptionsOk.f k a0_0 l0_1 a0_2 = some true
end Go.Proofs.Ytlgcekphoamcnaa.PFnExactOptionsOk
