/- The pure statement of FnExactTrieFind: over numbers and lists alone. -/
import Derived.Test.YtbddppnhpapfkaaMFnExactTrieFindx5
namespace Go.Proofs.Ytbddppnhpapfkaa.PFnExactTrieFind
open Go.RowKit Go.Proofs.YtbddppnhpapfkaaW.PrintWords Go.Proofs.YtbddppnhpapfkaaW.PrintLast Go.Proofs.YtbddppnhpapfkaaW.PrintMore
def ok132 (x : S132) : Prop := (Lit.int .i64 x.f0).wf = true ∧ (Lit.int .i64 x.f1).wf = true ∧ (Lit.int .i64 x.f2).wf = true
def laws_FnExactTrieFind.Goal : Prop := ∀ (l0_0 : List (S132)) (a1 : Int), (l0_0.length ≤ maxLen ∧ l0_0.length * 24 ≤ 140737488351232 ∧ ∀ x ∈ l0_0, ok132 x) → ((Lit.int .i64 a1).wf = true) → ∃ k, laws_FnExactTrieFind.f k l0_0 a1 = some true
end Go.Proofs.Ytbddppnhpapfkaa.PFnExactTrieFind
