/- The pure statement of FnExactPacketText: over numbers and lists alone. -/
import Derived.Test.YtpheniajdbbphaaMFnExactPacketTextx7
namespace Go.Proofs.Ytpheniajdbbphaa.PFnExactPacketText
open Go.RowKit Go.Proofs.YtpheniajdbbphaaW.PrintWords Go.Proofs.YtpheniajdbbphaaW.PrintLast Go.Proofs.YtpheniajdbbphaaW.PrintMore
def laws_FnExactPacketText.Goal : Prop := ∀ (a0_0 : Int) (a0_1 : Int) (a0_2 : Int) (a0_3 : Int) (a0_4 : Int) (l0_5 : List (Int)) (a0_6 : ByteArray), ((Lit.int .i64 a0_0).wf = true) → ((Lit.int .i64 a0_1).wf = true) → ((Lit.int .i64 a0_2).wf = true) → ((Lit.int .i64 a0_3).wf = true) → ((Lit.int .i64 a0_4).wf = true) → (l0_5.length ≤ maxLen ∧ l0_5.length * 8 ≤ 140737488351232 ∧ ∀ x ∈ l0_5, (Lit.int .i64 x).wf = true) → (a0_6.size ≤ 140737488351232) → ∃ k, laws_FnExactPacketText.f k a0_0 a0_1 a0_2 a0_3 a0_4 l0_5 a0_6 = some true
end Go.Proofs.Ytpheniajdbbphaa.PFnExactPacketText
