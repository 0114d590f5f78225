/- The pure statement of FnGrants: over numbers and lists alone. -/
import Derived.Test.YtfaeklomiofpdaaVFnGrants5
import Derived.Test.YtfaeklomiofpdaaDIOpen
namespace Go.Proofs.Ytfaeklomiofpdaa.DI
open Go Go.RowKit
def laws_FnGrants.Goal : Prop := ∀ (a0 : (List (Int))), (List.length (α := Int) a0 ≤ maxLen ∧ List.length (α := Int) a0 * 1 ≤ 140737488351232 ∧ ∀ e ∈ (a0 : List (Int)), (Lit.int .u8 e).wf = true) → ∃ k, laws_FnGrants.f k a0 = some true
end Go.Proofs.Ytfaeklomiofpdaa.DI
