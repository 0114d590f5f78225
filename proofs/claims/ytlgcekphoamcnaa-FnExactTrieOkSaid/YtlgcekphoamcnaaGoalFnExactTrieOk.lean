/- The pure statement of FnExactTrieOk: over numbers and lists alone. -/
import Derived.Test.YtlgcekphoamcnaaMFnExactTrieOkx4
namespace Go.Proofs.Ytlgcekphoamcnaa.PFnExactTrieOk
open Go.RowKit Go.Proofs.YtlgcekphoamcnaaW.PrintWords Go.Proofs.YtlgcekphoamcnaaW.PrintLast Go.Proofs.YtlgcekphoamcnaaW.PrintMore
def ok142 (x : S142) : Prop := (Lit.int .i64 x.f0).wf = true ∧ (Lit.int .i64 x.f1).wf = true ∧ (Lit.int .i64 x.f2).wf = true
def laws_FnExactTrieOk.Goal : Prop := ∀ (l0_0 : List (S142)), (l0_0.length ≤ maxLen ∧ l0_0.length * 24 ≤ 140737488351232 ∧ ∀ x ∈ l0_0, ok142 x) → ∃ k, laws_FnExactTrieOk.f k l0_0 = some true
end Go.Proofs.Ytlgcekphoamcnaa.PFnExactTrieOk
