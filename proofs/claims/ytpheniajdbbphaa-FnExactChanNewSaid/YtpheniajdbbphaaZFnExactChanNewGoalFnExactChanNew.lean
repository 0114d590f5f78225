/- The pure statement of FnExactChanNew: over numbers and lists alone. -/
import Derived.Test.YtpheniajdbbphaaZFnExactChanNewMFnExactChanNewx7
namespace Go.Proofs.Ytpheniajdbbphaa.PFnExactChanNew
open Go.RowKit Go.Proofs.YtpheniajdbbphaaW.PrintWords Go.Proofs.YtpheniajdbbphaaW.PrintLast Go.Proofs.YtpheniajdbbphaaW.PrintMore
def laws_FnExactChanNew.Goal : Prop := ∀ (a0 : Int) (a1 : Int), ((Lit.int .i64 a0).wf = true) → ((Lit.int .i64 a1).wf = true) → ∃ k, laws_FnExactChanNew.f k a0 a1 = some true
end Go.Proofs.Ytpheniajdbbphaa.PFnExactChanNew
