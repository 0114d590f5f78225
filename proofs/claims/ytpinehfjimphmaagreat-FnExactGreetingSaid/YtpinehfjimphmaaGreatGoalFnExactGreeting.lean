/- The pure statement of FnExactGreeting: over numbers and lists alone. -/
import Derived.Test.YtpinehfjimphmaaGreatVFnExactGreeting8
import Derived.Test.YtpinehfjimphmaaGreatDIOpen
namespace Go.Proofs.YtpinehfjimphmaaGreat.DI
open Go Go.RowKit
def laws_FnExactGreeting.Goal : Prop := ∀ (a0 : (List (ByteArray))) (a1 : (List (Int))), (List.length (α := ByteArray) a0 ≤ maxLen ∧ List.length (α := ByteArray) a0 * 16 ≤ 140737488351232 ∧ ∀ e ∈ (a0 : List (ByteArray)), ByteArray.size e ≤ 140737488351232) → (List.length (α := Int) a1 ≤ maxLen ∧ List.length (α := Int) a1 * 8 ≤ 140737488351232 ∧ ∀ e ∈ (a1 : List (Int)), (Lit.int .i64 e).wf = true) → ∃ k, laws_FnExactGreeting.f k a0 a1 = some true
end Go.Proofs.YtpinehfjimphmaaGreat.DI
