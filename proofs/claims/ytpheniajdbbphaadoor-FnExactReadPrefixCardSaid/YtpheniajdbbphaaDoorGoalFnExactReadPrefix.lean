/- The pure statement of FnExactReadPrefix: over numbers and lists alone. -/
import Derived.Test.YtpheniajdbbphaaDoorVFnExactReadPrefix1
import Derived.Test.YtpheniajdbbphaaDoorDIOpen
namespace Go.Proofs.YtpheniajdbbphaaDoor.DI
open Go Go.RowKit
def laws_FnExactReadPrefix.Goal : Prop := ∀ (a0 : ByteArray), (ByteArray.size a0 ≤ 140737488351232) → ∃ k, laws_FnExactReadPrefix.f k a0 = some true
end Go.Proofs.YtpheniajdbbphaaDoor.DI
