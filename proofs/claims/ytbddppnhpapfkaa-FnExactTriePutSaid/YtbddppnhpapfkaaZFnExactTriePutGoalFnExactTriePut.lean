/- The pure statement of FnExactTriePut: over numbers and lists alone. -/
import Derived.Test.YtbddppnhpapfkaaZFnExactTriePutMFnExactTriePutx7
namespace Go.Proofs.Ytbddppnhpapfkaa.PFnExactTriePut
open Go.RowKit Go.Proofs.YtbddppnhpapfkaaW.PrintWords Go.Proofs.YtbddppnhpapfkaaW.PrintLast Go.Proofs.YtbddppnhpapfkaaW.PrintMore
def ok132 (x : S132) : Prop := (Lit.int .i64 x.f0).wf = true ∧ (Lit.int .i64 x.f1).wf = true ∧ (Lit.int .i64 x.f2).wf = true
def laws_FnExactTriePut.Goal : Prop := ∀ (l0_0 : List (S132)) (a1_0 : Int) (a1_1 : Int) (a2 : Int), (l0_0.length ≤ maxLen ∧ l0_0.length * 24 ≤ 140737488351232 ∧ ∀ x ∈ l0_0, ok132 x) → ((Lit.int .i64 a1_0).wf = true) → ((Lit.int .i64 a1_1).wf = true) → ((Lit.int .i64 a2).wf = true) → ∃ k, laws_FnExactTriePut.f k l0_0 a1_0 a1_1 a2 = some true
end Go.Proofs.Ytbddppnhpapfkaa.PFnExactTriePut
