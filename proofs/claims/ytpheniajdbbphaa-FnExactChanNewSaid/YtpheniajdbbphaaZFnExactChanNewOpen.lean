/- Of printed words: what this claim names. -/
import Derived.Test.YtpheniajdbbphaaZFnExactChanNewWSized
import Derived.Test.YtpheniajdbbphaaZFnExactChanNewWWords
import Derived.DataReads
import Derived.ChangeArms
import Derived.ChangeOld
import Derived.OpenShut
import Derived.SizedLaws
namespace Go.Proofs.Ytpheniajdbbphaa.Opens
open Go.ChangeShapes Go.WideShapes Go.Proofs.YtpheniajdbbphaaW.PrintWords
end Go.Proofs.Ytpheniajdbbphaa.Opens
