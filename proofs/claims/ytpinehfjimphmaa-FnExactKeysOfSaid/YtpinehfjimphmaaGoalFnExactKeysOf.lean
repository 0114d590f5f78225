/- The pure statement of FnExactKeysOf: over numbers and lists alone. -/
import Derived.Test.YtpinehfjimphmaaVFnExactKeysOf5
import Derived.Test.YtpinehfjimphmaaDIOpen
namespace Go.Proofs.Ytpinehfjimphmaa.DI
open Go Go.RowKit
def ok23 (x : Int × Int × Int × Int × Int × ByteArray × ByteArray) : Prop := ((Lit.int .i64 x.1).wf = true) ∧ ((Lit.int .i64 x.2.1).wf = true) ∧ ((Lit.int .i64 x.2.2.1).wf = true) ∧ ((Lit.int .i64 x.2.2.2.1).wf = true) ∧ ((Lit.int .i64 x.2.2.2.2.1).wf = true) ∧ (ByteArray.size x.2.2.2.2.2.1 ≤ 140737488351232) ∧ (ByteArray.size x.2.2.2.2.2.2 ≤ 140737488351232)
def laws_FnExactKeysOf.Goal : Prop := ∀ (a0_0 : Int) (a0_1 : Int) (a0_2 : Int) (a0_3 : Int) (a0_4 : Int) (a0_5 : ByteArray) (a0_6 : ByteArray), ((Lit.int .i64 a0_0).wf = true) → ((Lit.int .i64 a0_1).wf = true) → ((Lit.int .i64 a0_2).wf = true) → ((Lit.int .i64 a0_3).wf = true) → ((Lit.int .i64 a0_4).wf = true) → (ByteArray.size a0_5 ≤ 140737488351232) → (ByteArray.size a0_6 ≤ 140737488351232) → ∃ k, laws_FnExactKeysOf.f k a0_0 a0_1 a0_2 a0_3 a0_4 a0_5 a0_6 = some true
end Go.Proofs.Ytpinehfjimphmaa.DI
