/- Of printed words: what this claim names. -/
import Derived.Test.YtpheniajdbbphaaZFnExactChanNewWWords
namespace Go.Proofs.YtpheniajdbbphaaW.PrintWords
open Go.RowKit
section
variable {P : Program} {ops : Array Oper} {rest : List Oper} {o : Oper} {a : Act} {Q : Exit → Act → World → Prop} {W : World}
end
end Go.Proofs.YtpheniajdbbphaaW.PrintWords
