/- The pure statement of FnAddrReads: over numbers and lists alone. -/
import Derived.Test.YtpheniajdbbphaaDoorVFnAddrReads3
import Derived.Test.YtpheniajdbbphaaDoorDIOpen
namespace Go.Proofs.YtpheniajdbbphaaDoor.DI
open Go Go.RowKit
def laws_FnAddrReads.Goal : Prop := ∀ (a0 : (List (Int))), (List.length (α := Int) a0 ≤ maxLen ∧ List.length (α := Int) a0 * 1 ≤ 140737488351232 ∧ ∀ e ∈ (a0 : List (Int)), (Lit.int .u8 e).wf = true) → ∃ k, laws_FnAddrReads.f k a0 = some true
end Go.Proofs.YtpheniajdbbphaaDoor.DI
