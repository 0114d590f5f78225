/- The pure statement of FnGreets: over numbers and lists alone. -/
import Derived.Test.YtpinehfjimphmaaGreatVFnGreets7
import Derived.Test.YtpinehfjimphmaaGreatDIOpen
namespace Go.Proofs.YtpinehfjimphmaaGreat.DI
open Go Go.RowKit
def laws_FnGreets.Goal : Prop := ∀ (a0 : (List (Int))), (List.length (α := Int) a0 ≤ maxLen ∧ List.length (α := Int) a0 * 1 ≤ 140737488351232 ∧ ∀ e ∈ (a0 : List (Int)), (Lit.int .u8 e).wf = true) → ∃ k, laws_FnGreets.f k a0 = some true
end Go.Proofs.YtpinehfjimphmaaGreat.DI
