/- The pure statement of FnEnds: over numbers and lists alone. -/
import Derived.Test.YtpheniajdbbphaaVFnEnds10
import Derived.Test.YtpheniajdbbphaaDIOpen
namespace Go.Proofs.Ytpheniajdbbphaa.DI
open Go Go.RowKit
def laws_FnEnds.Goal : Prop := ∀ (a0 : (List (Int))), (List.length (α := Int) a0 ≤ maxLen ∧ List.length (α := Int) a0 * 1 ≤ 140737488351232 ∧ ∀ e ∈ (a0 : List (Int)), (Lit.int .u8 e).wf = true) → ∃ k, laws_FnEnds.f k a0 = some true
end Go.Proofs.Ytpheniajdbbphaa.DI
