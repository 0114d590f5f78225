/- The pure statement of FnExactHolderOf: over numbers and lists alone. -/
import Derived.Test.YtbddppnhpapfkaaPFnExactHolderOfx3
namespace Go.Proofs.Ytbddppnhpapfkaa.PFnExactHolderOf
open Go.RowKit Go.Proofs.YtbddppnhpapfkaaW.PrintWords Go.Proofs.YtbddppnhpapfkaaW.PrintLast Go.Proofs.YtbddppnhpapfkaaW.PrintMore
def ok126 (x : S126) : Prop := (Lit.int .i64 x.f0).wf = true ∧ (Lit.int .i64 x.f1).wf = true ∧ (Lit.int .i64 x.f2).wf = true
def ok128 (x : S128) : Prop := (Lit.int .i64 x.f0).wf = true ∧ (Lit.int .i64 x.f1).wf = true
def laws_FnExactHolderOf.Goal : Prop := ∀ (a0_0 : Int) (a0_1 : Int) (l0_2 : List (S126)) (l0_3 : List (S128)) (a1 : Int), ((Lit.int .i64 a0_0).wf = true) → ((Lit.int .i64 a0_1).wf = true) → (l0_2.length ≤ maxLen ∧ l0_2.length * 24 ≤ 140737488351232 ∧ ∀ x ∈ l0_2, ok126 x) → (l0_3.length ≤ maxLen ∧ l0_3.length * 16 ≤ 140737488351232 ∧ ∀ x ∈ l0_3, ok128 x) → ((Lit.int .i64 a1).wf = true) → ∃ k, laws_FnExactHolderOf.f k a0_0 a0_1 l0_2 l0_3 a1 = some true
end Go.Proofs.Ytbddppnhpapfkaa.PFnExactHolderOf
