/- The pure statement of FnExactReadOption: over numbers and lists alone. -/
import Derived.Test.YtfaeklomiofpdaaDoorVFnExactReadOption2
import Derived.Test.YtfaeklomiofpdaaDoorDIOpen
namespace Go.Proofs.YtfaeklomiofpdaaDoor.DI
open Go Go.RowKit
def laws_FnExactReadOption.Goal : Prop := ∀ (a0 : ByteArray), (ByteArray.size a0 ≤ 140737488351232) → ∃ k, laws_FnExactReadOption.f k a0 = some true
end Go.Proofs.YtfaeklomiofpdaaDoor.DI
