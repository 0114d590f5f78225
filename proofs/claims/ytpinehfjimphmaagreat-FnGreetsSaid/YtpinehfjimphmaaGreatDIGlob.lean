/- The machine of values: what is known of the program's own variables (here: nothing). -/
import Derived.Test.YtpinehfjimphmaaGreatDI
namespace Go.Proofs.YtpinehfjimphmaaGreat.DI
open Go
set_option linter.unusedVariables false
/-- Their blocks. -/
def GB : Nat → Prop := fun _ => False
/-- What they hold. -/
def GOK : World → Prop := fun _ => True
theorem GOK.keep {w w' : World} (h : ∀ b, GB b → w'.heap[b]? = w.heap[b]?) (k : GOK w) : GOK w' := trivial
theorem GOK.none (W : World) : GOK W ∧ ∀ b, GB b → b < W.heap.size := ⟨trivial, fun _ h => h.elim⟩
end Go.Proofs.YtpinehfjimphmaaGreat.DI
