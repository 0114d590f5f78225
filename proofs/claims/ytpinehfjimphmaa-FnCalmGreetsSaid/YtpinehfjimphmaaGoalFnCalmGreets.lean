/- The pure statement of FnCalmGreets: over numbers and lists alone. -/
import Derived.Test.YtpinehfjimphmaaVFnCalmGreets6
import Derived.Test.YtpinehfjimphmaaDIOpen
namespace Go.Proofs.Ytpinehfjimphmaa.DI
open Go Go.RowKit
def laws_FnCalmGreets.Goal : Prop := ∀ (a0 : (List (Int))), (List.length (α := Int) a0 ≤ maxLen ∧ List.length (α := Int) a0 * 1 ≤ 140737488351232 ∧ ∀ e ∈ (a0 : List (Int)), (Lit.int .u8 e).wf = true) → ∃ k, laws_FnCalmGreets.f k a0 = some true
end Go.Proofs.Ytpinehfjimphmaa.DI
