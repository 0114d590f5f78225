/- The pure statement of FnTries: over numbers and lists alone. -/
import Derived.Test.YtlgcekphoamcnaaZFnTriesMFnTriesx10
namespace Go.Proofs.Ytlgcekphoamcnaa.PFnTries
open Go.RowKit Go.Proofs.YtlgcekphoamcnaaW.PrintWords Go.Proofs.YtlgcekphoamcnaaW.PrintLast Go.Proofs.YtlgcekphoamcnaaW.PrintMore
def laws_FnTries.Goal : Prop := ∀ (l0 : List (Int)), (l0.length ≤ maxLen ∧ l0.length * 1 ≤ 140737488351232 ∧ ∀ x ∈ l0, (Lit.int .u8 x).wf = true) → ∃ k, laws_FnTries.f k l0 = some true
end Go.Proofs.Ytlgcekphoamcnaa.PFnTries
