/- The pure statement of FnExactAgree: over numbers and lists alone. -/
import Derived.Test.YtfaeklomiofpdaaVFnExactAgree2
import Derived.Test.YtfaeklomiofpdaaDIOpen
namespace Go.Proofs.Ytfaeklomiofpdaa.DI
open Go Go.RowKit
def ok88 (x : Int × (List (ByteArray)) × Bool) : Prop := ((Lit.int .i64 x.1).wf = true) ∧ (List.length (α := ByteArray) x.2.1 ≤ maxLen ∧ List.length (α := ByteArray) x.2.1 * 16 ≤ 140737488351232 ∧ ∀ e ∈ (x.2.1 : List (ByteArray)), ByteArray.size e ≤ 140737488351232) ∧ (True)
def laws_FnExactAgree.Goal : Prop := ∀ (a0_0 : Int) (a0_1 : (List (ByteArray))) (a0_2 : Bool) (a1_0 : Int) (a1_1 : (List (ByteArray))) (a1_2 : Bool), ((Lit.int .i64 a0_0).wf = true) → (List.length (α := ByteArray) a0_1 ≤ maxLen ∧ List.length (α := ByteArray) a0_1 * 16 ≤ 140737488351232 ∧ ∀ e ∈ (a0_1 : List (ByteArray)), ByteArray.size e ≤ 140737488351232) → (True) → ((Lit.int .i64 a1_0).wf = true) → (List.length (α := ByteArray) a1_1 ≤ maxLen ∧ List.length (α := ByteArray) a1_1 * 16 ≤ 140737488351232 ∧ ∀ e ∈ (a1_1 : List (ByteArray)), ByteArray.size e ≤ 140737488351232) → (True) → ∃ k, laws_FnExactAgree.f k a0_0 a0_1 a0_2 a1_0 a1_1 a1_2 = some true
end Go.Proofs.Ytfaeklomiofpdaa.DI
