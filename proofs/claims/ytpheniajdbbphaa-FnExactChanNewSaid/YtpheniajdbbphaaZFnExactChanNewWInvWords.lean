/- Of printed words: what this claim names. -/
import Derived.Test.YtpheniajdbbphaaZFnExactChanNewWInv
import Derived.Test.YtpheniajdbbphaaZFnExactChanNewWFootNe
namespace Go.Proofs.YtpheniajdbbphaaW.PrintWords
open Go.RowKit
end Go.Proofs.YtpheniajdbbphaaW.PrintWords
namespace Go.Proofs.YtpheniajdbbphaaW.PrintLast
section
variable {ops : Array Oper} {a : Act} {o og : Oper} {g : Nat} {t : Tmp} {u : Bool}
end
end Go.Proofs.YtpheniajdbbphaaW.PrintLast
