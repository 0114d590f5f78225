/- Of printed words: what this claim names. -/
import Derived.Test.YtlgcekphoamcnaaZFnTriesWInv
import Derived.Test.YtlgcekphoamcnaaZFnTriesWFootNe
namespace Go.Proofs.YtlgcekphoamcnaaW.PrintWords
open Go.RowKit
end Go.Proofs.YtlgcekphoamcnaaW.PrintWords
namespace Go.Proofs.YtlgcekphoamcnaaW.PrintLast
section
variable {ops : Array Oper} {a : Act} {o og : Oper} {g : Nat} {t : Tmp} {u : Bool}
end
end Go.Proofs.YtlgcekphoamcnaaW.PrintLast
