/- The pure statement of FnExactTrieOf: over numbers and lists alone. -/
import Derived.Test.YtbddppnhpapfkaaVFnExactTrieOf4
import Derived.Test.YtbddppnhpapfkaaDIOpen
namespace Go.Proofs.Ytbddppnhpapfkaa.DI
open Go Go.RowKit
def ok33 (x : Int × Int) : Prop := ((Lit.int .i64 x.1).wf = true) ∧ ((Lit.int .i64 x.2).wf = true)
def ok81 (x : Int × Int × Int) : Prop := (((Lit.int .i64 x.1).wf = true) ∧ ((Lit.int .i64 x.2.1).wf = true)) ∧ ((Lit.int .i64 x.2.2).wf = true)
def laws_FnExactTrieOf.Goal : Prop := ∀ (a0 : (List (Int × Int × Int))), (List.length (α := Int × Int × Int) a0 ≤ maxLen ∧ List.length (α := Int × Int × Int) a0 * 24 ≤ 140737488351232 ∧ ∀ e ∈ (a0 : List (Int × Int × Int)), ok81 e) → ∃ k, laws_FnExactTrieOf.f k a0 = some true
end Go.Proofs.Ytbddppnhpapfkaa.DI
