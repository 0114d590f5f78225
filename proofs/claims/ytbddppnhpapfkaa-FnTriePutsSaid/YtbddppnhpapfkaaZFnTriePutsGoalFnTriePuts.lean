/- The pure statement of FnTriePuts: over numbers and lists alone. -/
import Derived.Test.YtbddppnhpapfkaaZFnTriePutsMFnTriePutsx14
namespace Go.Proofs.Ytbddppnhpapfkaa.PFnTriePuts
open Go.RowKit Go.Proofs.YtbddppnhpapfkaaW.PrintWords Go.Proofs.YtbddppnhpapfkaaW.PrintLast Go.Proofs.YtbddppnhpapfkaaW.PrintMore
def laws_FnTriePuts.Goal : Prop := ∀ (l0 : List (Int)), (l0.length ≤ maxLen ∧ l0.length * 1 ≤ 140737488351232 ∧ ∀ x ∈ l0, (Lit.int .u8 x).wf = true) → ∃ k, laws_FnTriePuts.f k l0 = some true
end Go.Proofs.Ytbddppnhpapfkaa.PFnTriePuts
