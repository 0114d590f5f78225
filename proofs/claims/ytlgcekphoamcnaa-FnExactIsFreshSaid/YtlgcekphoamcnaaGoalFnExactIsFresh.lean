/- The pure statement of FnExactIsFresh: over numbers and lists alone. -/
import Derived.Test.YtlgcekphoamcnaaPFnExactIsFreshx3
namespace Go.Proofs.Ytlgcekphoamcnaa.PFnExactIsFresh
open Go.RowKit Go.Proofs.YtlgcekphoamcnaaW.PrintWords Go.Proofs.YtlgcekphoamcnaaW.PrintLast Go.Proofs.YtlgcekphoamcnaaW.PrintMore
def laws_FnExactIsFresh.Goal : Prop := ∀ (l0 : List (Int)) (a1 : Int), (l0.length ≤ maxLen ∧ l0.length * 8 ≤ 140737488351232 ∧ ∀ x ∈ l0, (Lit.int .i64 x).wf = true) → ((Lit.int .i64 a1).wf = true) → ∃ k, laws_FnExactIsFresh.f k l0 a1 = some true
end Go.Proofs.Ytlgcekphoamcnaa.PFnExactIsFresh
