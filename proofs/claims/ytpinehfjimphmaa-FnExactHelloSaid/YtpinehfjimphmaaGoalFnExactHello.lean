/- The pure statement of FnExactHello: over numbers and lists alone. -/
import Derived.Test.YtpinehfjimphmaaMFnExactHellox2
namespace Go.Proofs.Ytpinehfjimphmaa.PFnExactHello
open Go.RowKit Go.Proofs.YtpinehfjimphmaaW.PrintWords Go.Proofs.YtpinehfjimphmaaW.PrintLast Go.Proofs.YtpinehfjimphmaaW.PrintMore
def laws_FnExactHello.Goal : Prop := ∀ (a0_0 : Int) (a0_1 : Int) (a0_2 : Int) (a0_3 : Int) (a0_4 : Int) (a0_5 : ByteArray) (a0_6 : ByteArray), ((Lit.int .i64 a0_0).wf = true) → ((Lit.int .i64 a0_1).wf = true) → ((Lit.int .i64 a0_2).wf = true) → ((Lit.int .i64 a0_3).wf = true) → ((Lit.int .i64 a0_4).wf = true) → (a0_5.size ≤ 140737488351232) → (a0_6.size ≤ 140737488351232) → ∃ k, laws_FnExactHello.f k a0_0 a0_1 a0_2 a0_3 a0_4 a0_5 a0_6 = some true
end Go.Proofs.Ytpinehfjimphmaa.PFnExactHello
