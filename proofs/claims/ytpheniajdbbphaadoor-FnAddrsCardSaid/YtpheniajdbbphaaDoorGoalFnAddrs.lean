/- The pure statement of FnAddrs: over numbers and lists alone. -/
import Derived.Test.YtpheniajdbbphaaDoorVFnAddrs2
import Derived.Test.YtpheniajdbbphaaDoorDIOpen
namespace Go.Proofs.YtpheniajdbbphaaDoor.DI
open Go Go.RowKit
def laws_FnAddrs.Goal : Prop := ∀ (a0 : (List (Int))), (List.length (α := Int) a0 ≤ maxLen ∧ List.length (α := Int) a0 * 1 ≤ 140737488351232 ∧ ∀ e ∈ (a0 : List (Int)), (Lit.int .u8 e).wf = true) → ∃ k, laws_FnAddrs.f k a0 = some true
end Go.Proofs.YtpheniajdbbphaaDoor.DI
