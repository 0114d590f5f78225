/- The pure statement of FnOptions: over numbers and lists alone. -/
import Derived.Test.YtfaeklomiofpdaaDoorVFnOptions3
import Derived.Test.YtfaeklomiofpdaaDoorDIOpen
namespace Go.Proofs.YtfaeklomiofpdaaDoor.DI
open Go Go.RowKit
def laws_FnOptions.Goal : Prop := ∀ (a0 : (List (Int))), (List.length (α := Int) a0 ≤ maxLen ∧ List.length (α := Int) a0 * 1 ≤ 140737488351232 ∧ ∀ e ∈ (a0 : List (Int)), (Lit.int .u8 e).wf = true) → ∃ k, laws_FnOptions.f k a0 = some true
end Go.Proofs.YtfaeklomiofpdaaDoor.DI
