/- The pure statement of FnExactRelease: over numbers and lists alone. -/
import Derived.Test.YtfaeklomiofpdaaVFnExactRelease4
import Derived.Test.YtfaeklomiofpdaaDIOpen
namespace Go.Proofs.Ytfaeklomiofpdaa.DI
open Go Go.RowKit
def ok41 (x : Int × Int) : Prop := ((Lit.int .i64 x.1).wf = true) ∧ ((Lit.int .i64 x.2).wf = true)
def ok148 (x : Int × Int × Int) : Prop := ((Lit.int .i64 x.1).wf = true) ∧ ((Lit.int .i64 x.2.1).wf = true) ∧ ((Lit.int .i64 x.2.2).wf = true)
def ok152 (x : Int × Int) : Prop := ((Lit.int .i64 x.1).wf = true) ∧ ((Lit.int .i64 x.2).wf = true)
def ok45 (x : Int × Int × (List (Int × Int × Int)) × (List (Int × Int))) : Prop := (((Lit.int .i64 x.1).wf = true) ∧ ((Lit.int .i64 x.2.1).wf = true)) ∧ (List.length (α := Int × Int × Int) x.2.2.1 ≤ maxLen ∧ List.length (α := Int × Int × Int) x.2.2.1 * 24 ≤ 140737488351232 ∧ ∀ e ∈ (x.2.2.1 : List (Int × Int × Int)), ok148 e) ∧ (List.length (α := Int × Int) x.2.2.2 ≤ maxLen ∧ List.length (α := Int × Int) x.2.2.2 * 16 ≤ 140737488351232 ∧ ∀ e ∈ (x.2.2.2 : List (Int × Int)), ok152 e)
def laws_FnExactRelease.Goal : Prop := ∀ (a0_0 : Int) (a0_1 : Int) (a0_2 : (List (Int × Int × Int))) (a0_3 : (List (Int × Int))) (a1 : Int), ((Lit.int .i64 a0_0).wf = true) → ((Lit.int .i64 a0_1).wf = true) → (List.length (α := Int × Int × Int) a0_2 ≤ maxLen ∧ List.length (α := Int × Int × Int) a0_2 * 24 ≤ 140737488351232 ∧ ∀ e ∈ (a0_2 : List (Int × Int × Int)), ok148 e) → (List.length (α := Int × Int) a0_3 ≤ maxLen ∧ List.length (α := Int × Int) a0_3 * 16 ≤ 140737488351232 ∧ ∀ e ∈ (a0_3 : List (Int × Int)), ok152 e) → ((Lit.int .i64 a1).wf = true) → ∃ k, laws_FnExactRelease.f k a0_0 a0_1 a0_2 a0_3 a1 = some true
end Go.Proofs.Ytfaeklomiofpdaa.DI
