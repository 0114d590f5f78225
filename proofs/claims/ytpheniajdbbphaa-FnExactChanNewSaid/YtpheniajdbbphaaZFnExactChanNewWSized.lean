/- Of printed words: what this claim names. -/
import Derived.SizedLaws
import Derived.ChangeSlices
namespace Go.Proofs.YtpheniajdbbphaaW.PrintWords
open Go.ChangeShapes Go.WideShapes
end Go.Proofs.YtpheniajdbbphaaW.PrintWords
