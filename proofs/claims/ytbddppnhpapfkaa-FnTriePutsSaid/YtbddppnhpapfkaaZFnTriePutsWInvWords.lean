/- Of printed words: what this claim names. -/
import Derived.Test.YtbddppnhpapfkaaZFnTriePutsWInv
import Derived.Test.YtbddppnhpapfkaaZFnTriePutsWFootNe
namespace Go.Proofs.YtbddppnhpapfkaaW.PrintWords
open Go.RowKit
end Go.Proofs.YtbddppnhpapfkaaW.PrintWords
namespace Go.Proofs.YtbddppnhpapfkaaW.PrintLast
section
variable {ops : Array Oper} {a : Act} {o og : Oper} {g : Nat} {t : Tmp} {u : Bool}
end
end Go.Proofs.YtbddppnhpapfkaaW.PrintLast
