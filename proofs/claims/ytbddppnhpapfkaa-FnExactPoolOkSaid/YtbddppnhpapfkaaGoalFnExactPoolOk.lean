/- The pure statement of FnExactPoolOk: over numbers and lists alone. -/
import Derived.Test.YtbddppnhpapfkaaVFnExactPoolOk3
import Derived.Test.YtbddppnhpapfkaaDIOpen
namespace Go.Proofs.Ytbddppnhpapfkaa.DI
open Go Go.RowKit
def ok33 (x : Int × Int) : Prop := ((Lit.int .i64 x.1).wf = true) ∧ ((Lit.int .i64 x.2).wf = true)
def ok126 (x : Int × Int × Int) : Prop := ((Lit.int .i64 x.1).wf = true) ∧ ((Lit.int .i64 x.2.1).wf = true) ∧ ((Lit.int .i64 x.2.2).wf = true)
def ok128 (x : Int × Int) : Prop := ((Lit.int .i64 x.1).wf = true) ∧ ((Lit.int .i64 x.2).wf = true)
def ok37 (x : Int × Int × (List (Int × Int × Int)) × (List (Int × Int))) : Prop := (((Lit.int .i64 x.1).wf = true) ∧ ((Lit.int .i64 x.2.1).wf = true)) ∧ (List.length (α := Int × Int × Int) x.2.2.1 ≤ maxLen ∧ List.length (α := Int × Int × Int) x.2.2.1 * 24 ≤ 140737488351232 ∧ ∀ e ∈ (x.2.2.1 : List (Int × Int × Int)), ok126 e) ∧ (List.length (α := Int × Int) x.2.2.2 ≤ maxLen ∧ List.length (α := Int × Int) x.2.2.2 * 16 ≤ 140737488351232 ∧ ∀ e ∈ (x.2.2.2 : List (Int × Int)), ok128 e)
def laws_FnExactPoolOk.Goal : Prop := ∀ (a0_0 : Int) (a0_1 : Int) (a0_2 : (List (Int × Int × Int))) (a0_3 : (List (Int × Int))), ((Lit.int .i64 a0_0).wf = true) → ((Lit.int .i64 a0_1).wf = true) → (List.length (α := Int × Int × Int) a0_2 ≤ maxLen ∧ List.length (α := Int × Int × Int) a0_2 * 24 ≤ 140737488351232 ∧ ∀ e ∈ (a0_2 : List (Int × Int × Int)), ok126 e) → (List.length (α := Int × Int) a0_3 ≤ maxLen ∧ List.length (α := Int × Int) a0_3 * 16 ≤ 140737488351232 ∧ ∀ e ∈ (a0_3 : List (Int × Int)), ok128 e) → ∃ k, laws_FnExactPoolOk.f k a0_0 a0_1 a0_2 a0_3 = some true
end Go.Proofs.Ytbddppnhpapfkaa.DI
