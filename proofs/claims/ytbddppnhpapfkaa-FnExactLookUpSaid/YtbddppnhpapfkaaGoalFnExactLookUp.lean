/- The pure statement of FnExactLookUp: over numbers and lists alone. -/
import Derived.Test.YtbddppnhpapfkaaPFnExactLookUpx7
namespace Go.Proofs.Ytbddppnhpapfkaa.PFnExactLookUp
open Go.RowKit Go.Proofs.YtbddppnhpapfkaaW.PrintWords Go.Proofs.YtbddppnhpapfkaaW.PrintLast Go.Proofs.YtbddppnhpapfkaaW.PrintMore
def ok33 (x : S33) : Prop := (Lit.int .i64 x.f0).wf = true ∧ (Lit.int .i64 x.f1).wf = true
def ok81 (x : S81) : Prop := ok33 x.f0 ∧ (Lit.int .i64 x.f1).wf = true
def laws_FnExactLookUp.Goal : Prop := ∀ (l0 : List (S81)) (a1 : Int), (l0.length ≤ maxLen ∧ l0.length * 24 ≤ 140737488351232 ∧ ∀ x ∈ l0, ok81 x) → ((Lit.int .i64 a1).wf = true) → ∃ k, laws_FnExactLookUp.f k l0 a1 = some true
end Go.Proofs.Ytbddppnhpapfkaa.PFnExactLookUp
