/- The pure statement of FnExactSlotOk: over numbers and lists alone. -/
import Derived.Test.YtlgcekphoamcnaaPFnExactSlotOkx5
namespace Go.Proofs.Ytlgcekphoamcnaa.PFnExactSlotOk
open Go.RowKit Go.Proofs.YtlgcekphoamcnaaW.PrintWords Go.Proofs.YtlgcekphoamcnaaW.PrintLast Go.Proofs.YtlgcekphoamcnaaW.PrintMore
def laws_FnExactSlotOk.Goal : Prop := ∀ (a0_0 : Int) (a0_1 : ByteArray) (a0_2 : ByteArray) (a0_3 : Int) (l0_4 : List (Int)) (a0_5 : Int), ((Lit.int .i64 a0_0).wf = true) → (a0_1.size ≤ 140737488351232) → (a0_2.size ≤ 140737488351232) → ((Lit.int .i64 a0_3).wf = true) → (l0_4.length ≤ maxLen ∧ l0_4.length * 8 ≤ 140737488351232 ∧ ∀ x ∈ l0_4, (Lit.int .i64 x).wf = true) → ((Lit.int .i64 a0_5).wf = true) → ∃ k, laws_FnExactSlotOk.f k a0_0 a0_1 a0_2 a0_3 l0_4 a0_5 = some true
end Go.Proofs.Ytlgcekphoamcnaa.PFnExactSlotOk
