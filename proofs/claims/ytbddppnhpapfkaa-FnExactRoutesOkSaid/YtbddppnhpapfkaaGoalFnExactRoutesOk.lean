/- The pure statement of FnExactRoutesOk: over numbers and lists alone. -/
import Derived.Test.YtbddppnhpapfkaaPFnExactRoutesOkx6
namespace Go.Proofs.Ytbddppnhpapfkaa.PFnExactRoutesOk
open Go.RowKit Go.Proofs.YtbddppnhpapfkaaW.PrintWords Go.Proofs.YtbddppnhpapfkaaW.PrintLast Go.Proofs.YtbddppnhpapfkaaW.PrintMore
def ok33 (x : S33) : Prop := (Lit.int .i64 x.f0).wf = true ∧ (Lit.int .i64 x.f1).wf = true
def ok81 (x : S81) : Prop := ok33 x.f0 ∧ (Lit.int .i64 x.f1).wf = true
def laws_FnExactRoutesOk.Goal : Prop := ∀ (l0 : List (S81)), (l0.length ≤ maxLen ∧ l0.length * 24 ≤ 140737488351232 ∧ ∀ x ∈ l0, ok81 x) → ∃ k, laws_FnExactRoutesOk.f k l0 = some true
end Go.Proofs.Ytbddppnhpapfkaa.PFnExactRoutesOk
