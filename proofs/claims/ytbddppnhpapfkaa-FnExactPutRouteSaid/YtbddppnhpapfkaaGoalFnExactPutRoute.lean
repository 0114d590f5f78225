/- The pure statement of FnExactPutRoute: over numbers and lists alone. -/
import Derived.Test.YtbddppnhpapfkaaVFnExactPutRoute3
import Derived.Test.YtbddppnhpapfkaaDIOpen
namespace Go.Proofs.Ytbddppnhpapfkaa.DI
open Go Go.RowKit
def ok33 (x : Int × Int) : Prop := ((Lit.int .i64 x.1).wf = true) ∧ ((Lit.int .i64 x.2).wf = true)
def ok81 (x : Int × Int × Int) : Prop := (((Lit.int .i64 x.1).wf = true) ∧ ((Lit.int .i64 x.2.1).wf = true)) ∧ ((Lit.int .i64 x.2.2).wf = true)
def laws_FnExactPutRoute.Goal : Prop := ∀ (a0 : (List (Int × Int × Int))) (a1_0 : Int) (a1_1 : Int) (a1_2 : Int), (List.length (α := Int × Int × Int) a0 ≤ maxLen ∧ List.length (α := Int × Int × Int) a0 * 24 ≤ 140737488351232 ∧ ∀ e ∈ (a0 : List (Int × Int × Int)), ok81 e) → ((Lit.int .i64 a1_0).wf = true) → ((Lit.int .i64 a1_1).wf = true) → ((Lit.int .i64 a1_2).wf = true) → ∃ k, laws_FnExactPutRoute.f k a0 a1_0 a1_1 a1_2 = some true
end Go.Proofs.Ytbddppnhpapfkaa.DI
