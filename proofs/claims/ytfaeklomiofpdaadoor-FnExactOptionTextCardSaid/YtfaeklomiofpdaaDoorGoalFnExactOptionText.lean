/- The pure statement of FnExactOptionText: over numbers and lists alone. -/
import Derived.Test.YtfaeklomiofpdaaDoorVFnExactOptionText2
import Derived.Test.YtfaeklomiofpdaaDoorDIOpen
namespace Go.Proofs.YtfaeklomiofpdaaDoor.DI
open Go Go.RowKit
def ok24 (x : Int × (List (ByteArray)) × Bool) : Prop := ((Lit.int .i64 x.1).wf = true) ∧ (List.length (α := ByteArray) x.2.1 ≤ maxLen ∧ List.length (α := ByteArray) x.2.1 * 16 ≤ 140737488351232 ∧ ∀ e ∈ (x.2.1 : List (ByteArray)), ByteArray.size e ≤ 140737488351232) ∧ (True)
def laws_FnExactOptionText.Goal : Prop := ∀ (a0_0 : Int) (a0_1 : (List (ByteArray))) (a0_2 : Bool), ((Lit.int .i64 a0_0).wf = true) → (List.length (α := ByteArray) a0_1 ≤ maxLen ∧ List.length (α := ByteArray) a0_1 * 16 ≤ 140737488351232 ∧ ∀ e ∈ (a0_1 : List (ByteArray)), ByteArray.size e ≤ 140737488351232) → (True) → ∃ k, laws_FnExactOptionText.f k a0_0 a0_1 a0_2 = some true
end Go.Proofs.YtfaeklomiofpdaaDoor.DI
