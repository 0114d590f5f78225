/- Of printed words: what this claim names. -/
import Derived.Test.YtpheniajdbbphaaZFnExactChanNewWTab
namespace Go.Proofs.YtpheniajdbbphaaW.PrintLast
section
variable {P : Program} {ops : Array Oper} {Q : Exit → Act → World → Prop} {md : Region.Mode} {S : World → Prop} {ds : List Nat} {T : Bool × List (List Nat × List Nat)}
end
end Go.Proofs.YtpheniajdbbphaaW.PrintLast
