/- The pure statement of FnExactNextKeys: over numbers and lists alone. -/
import Derived.Test.YtpheniajdbbphaaVFnExactNextKeys3
import Derived.Test.YtpheniajdbbphaaDIOpen
namespace Go.Proofs.Ytpheniajdbbphaa.DI
open Go Go.RowKit
def laws_FnExactNextKeys.Goal : Prop := ∀ (a0 : ByteArray) (a1 : ByteArray), (ByteArray.size a0 ≤ 140737488351232) → (ByteArray.size a1 ≤ 140737488351232) → ∃ k, laws_FnExactNextKeys.f k a0 a1 = some true
end Go.Proofs.Ytpheniajdbbphaa.DI
