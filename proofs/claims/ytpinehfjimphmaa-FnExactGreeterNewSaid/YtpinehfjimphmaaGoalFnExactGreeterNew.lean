/- The pure statement of FnExactGreeterNew: over numbers and lists alone. -/
import Derived.Test.YtpinehfjimphmaaVFnExactGreeterNew4
import Derived.Test.YtpinehfjimphmaaDIOpen
namespace Go.Proofs.Ytpinehfjimphmaa.DI
open Go Go.RowKit
def laws_FnExactGreeterNew.Goal : Prop := ∀ (a0 : Int) (a1 : ByteArray) (a2 : ByteArray) (a3 : Int), ((Lit.int .i64 a0).wf = true) → (ByteArray.size a1 ≤ 140737488351232) → (ByteArray.size a2 ≤ 140737488351232) → ((Lit.int .i64 a3).wf = true) → ∃ k, laws_FnExactGreeterNew.f k a0 a1 a2 a3 = some true
end Go.Proofs.Ytpinehfjimphmaa.DI
