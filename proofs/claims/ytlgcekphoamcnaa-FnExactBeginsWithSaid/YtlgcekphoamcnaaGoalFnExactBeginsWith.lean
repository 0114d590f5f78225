/- The pure statement of FnExactBeginsWith: over numbers and lists alone. -/
import Derived.Test.YtlgcekphoamcnaaMFnExactBeginsWithx2
namespace Go.Proofs.Ytlgcekphoamcnaa.PFnExactBeginsWith
open Go.RowKit Go.Proofs.YtlgcekphoamcnaaW.PrintWords Go.Proofs.YtlgcekphoamcnaaW.PrintLast Go.Proofs.YtlgcekphoamcnaaW.PrintMore
def laws_FnExactBeginsWith.Goal : Prop := ∀ (l0 : List (ByteArray)) (l1 : List (ByteArray)), (l0.length ≤ maxLen ∧ l0.length * 16 ≤ 140737488351232 ∧ ∀ x ∈ l0, x.size ≤ 140737488351232) → (l1.length ≤ maxLen ∧ l1.length * 16 ≤ 140737488351232 ∧ ∀ x ∈ l1, x.size ≤ 140737488351232) → ∃ k, laws_FnExactBeginsWith.f k l0 l1 = some true
end Go.Proofs.Ytlgcekphoamcnaa.PFnExactBeginsWith
