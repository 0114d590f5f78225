/-
  No cell of these rows narrows 'for every input' (looked for: loops, veiled, ifaces, maps, wideKeys, modest, calm, conditions, laid).
  DERIVED. THE GIVEN ROWS OF THIS SEAT. 6 by the template 'for every input the law returns true; each argument reads behind the call as it read before'; 0 by the template 'total and deterministic' (their statements: YtpinehfjimphmaaTotals.lean).
  GIVEN WITH THE SEED: the statements are not yours to turn. If you find one false, say at which input.
  Laid BY PROGRAM, IN A SANDBOX (cutbox-rows.mjs): the forced cells as the released guide's own fill.sh prints them over the translation fdfe4b5406c60fb2… (all of the seat's roots in one cut). By AI agents, Wed Nov 11 2026. No macro, syntax, notation, axiom, sorry.
-/
import Derived.Test.YtpinehfjimphmaaChecked
import GoSem.Claim
import GoSem.ClaimJoined
import GoSem.ClaimMapViews
import Derived.JoinedTies
import Derived.KernelRfl
namespace Go.Proofs.Ytpinehfjimphmaa
/- THE CELL 'sum', in the pinned program and in every row, IS THE sha256 OF THE DUMP (.gsa) THAT YtpinehfjimphmaaProg.lean LOADS. Nothing in Lean hashes anything: it is a label: what it is worth is what the hold of that sum in a sandbox is worth. -/
noncomputable def Try.pinned : Pinned := { name := "ytpinehfjimphmaa", sum := "fdfe4b5406c60fb2dafd77efb38fe2e93ea57ccd188b9ce707e7c3a58df6da23", checked := Try.checked }
namespace Rows
def none {H : Type} : Left H := { results := [], args := [] }

/-- 'laws.FnExactHello': WHATEVER THE INPUT: true; the input reads as it did. -/
def fnExactHelloSpec : ChangeSpec := { name := "fnExactHello", fn := fun _ => fun
  | [d] => { results := [.lit (.bool true)], args := [d] }
  | _ => none }
def fnExactHelloRow : OpenClaim := { program := "ytpinehfjimphmaa", sum := "fdfe4b5406c60fb2dafd77efb38fe2e93ea57ccd188b9ce707e7c3a58df6da23", func := "loop.example/g00193/laws.FnExactHello", spec := "fnExactHello", apart := false }
def FnExactHelloSaid : Prop := fnExactHelloRow.holds Try.pinned (OpenSpec.ofChange fnExactHelloSpec)

/-- ITS FALSE NEIGHBOUR: 'it returns false'. Refute it at one input. -/
def fnExactHelloWrong : ChangeSpec := { name := "fnExactHello", fn := fun _ => fun
  | [d] => { results := [.lit (.bool false)], args := [d] }
  | _ => none }
def FnExactHelloWrongFalsely : Prop := fnExactHelloRow.holds Try.pinned (OpenSpec.ofChange fnExactHelloWrong)

/-- 'laws.FnExactGreeterNew': WHATEVER THE INPUT: true; the input reads as it did. -/
def fnExactGreeterNewSpec : ChangeSpec := { name := "fnExactGreeterNew", fn := fun _ => fun
  | [d1, d2, d3, d4] => { results := [.lit (.bool true)], args := [d1, d2, d3, d4] }
  | _ => none }
def fnExactGreeterNewRow : OpenClaim := { program := "ytpinehfjimphmaa", sum := "fdfe4b5406c60fb2dafd77efb38fe2e93ea57ccd188b9ce707e7c3a58df6da23", func := "loop.example/g00193/laws.FnExactGreeterNew", spec := "fnExactGreeterNew", inPlace := ["internal/abi.NoEscape", "internal/bytealg.MakeNoZero"], apart := false }
def FnExactGreeterNewSaid : Prop := fnExactGreeterNewRow.holds Try.pinned (OpenSpec.ofChange fnExactGreeterNewSpec)

/-- ITS FALSE NEIGHBOUR: 'it returns false'. Refute it at one input. -/
def fnExactGreeterNewWrong : ChangeSpec := { name := "fnExactGreeterNew", fn := fun _ => fun
  | [d1, d2, d3, d4] => { results := [.lit (.bool false)], args := [d1, d2, d3, d4] }
  | _ => none }
def FnExactGreeterNewWrongFalsely : Prop := fnExactGreeterNewRow.holds Try.pinned (OpenSpec.ofChange fnExactGreeterNewWrong)

/-- 'laws.FnExactProof': WHATEVER THE INPUT: true; the input reads as it did. -/
def fnExactProofSpec : ChangeSpec := { name := "fnExactProof", fn := fun _ => fun
  | [d] => { results := [.lit (.bool true)], args := [d] }
  | _ => none }
def fnExactProofRow : OpenClaim := { program := "ytpinehfjimphmaa", sum := "fdfe4b5406c60fb2dafd77efb38fe2e93ea57ccd188b9ce707e7c3a58df6da23", func := "loop.example/g00193/laws.FnExactProof", spec := "fnExactProof", inPlace := ["internal/abi.NoEscape", "internal/bytealg.MakeNoZero"], apart := false }
def FnExactProofSaid : Prop := fnExactProofRow.holds Try.pinned (OpenSpec.ofChange fnExactProofSpec)

/-- ITS FALSE NEIGHBOUR: 'it returns false'. Refute it at one input. -/
def fnExactProofWrong : ChangeSpec := { name := "fnExactProof", fn := fun _ => fun
  | [d] => { results := [.lit (.bool false)], args := [d] }
  | _ => none }
def FnExactProofWrongFalsely : Prop := fnExactProofRow.holds Try.pinned (OpenSpec.ofChange fnExactProofWrong)

/-- 'laws.FnExactKeysOf': WHATEVER THE INPUT: true; the input reads as it did. -/
def fnExactKeysOfSpec : ChangeSpec := { name := "fnExactKeysOf", fn := fun _ => fun
  | [d] => { results := [.lit (.bool true)], args := [d] }
  | _ => none }
def fnExactKeysOfRow : OpenClaim := { program := "ytpinehfjimphmaa", sum := "fdfe4b5406c60fb2dafd77efb38fe2e93ea57ccd188b9ce707e7c3a58df6da23", func := "loop.example/g00193/laws.FnExactKeysOf", spec := "fnExactKeysOf", inPlace := ["internal/abi.NoEscape", "internal/bytealg.MakeNoZero"], apart := false }
def FnExactKeysOfSaid : Prop := fnExactKeysOfRow.holds Try.pinned (OpenSpec.ofChange fnExactKeysOfSpec)

/-- ITS FALSE NEIGHBOUR: 'it returns false'. Refute it at one input. -/
def fnExactKeysOfWrong : ChangeSpec := { name := "fnExactKeysOf", fn := fun _ => fun
  | [d] => { results := [.lit (.bool false)], args := [d] }
  | _ => none }
def FnExactKeysOfWrongFalsely : Prop := fnExactKeysOfRow.holds Try.pinned (OpenSpec.ofChange fnExactKeysOfWrong)

/-- 'laws.FnExactHearGreet': WHATEVER THE INPUT: true; the input reads as it did. -/
def fnExactHearGreetSpec : ChangeSpec := { name := "fnExactHearGreet", fn := fun _ => fun
  | [d1, d2] => { results := [.lit (.bool true)], args := [d1, d2] }
  | _ => none }
def fnExactHearGreetRow : OpenClaim := { program := "ytpinehfjimphmaa", sum := "fdfe4b5406c60fb2dafd77efb38fe2e93ea57ccd188b9ce707e7c3a58df6da23", func := "loop.example/g00193/laws.FnExactHearGreet", spec := "fnExactHearGreet", inPlace := ["internal/abi.NoEscape", "internal/bytealg.MakeNoZero"], apart := false }
def FnExactHearGreetSaid : Prop := fnExactHearGreetRow.holds Try.pinned (OpenSpec.ofChange fnExactHearGreetSpec)

/-- ITS FALSE NEIGHBOUR: 'it returns false'. Refute it at one input. -/
def fnExactHearGreetWrong : ChangeSpec := { name := "fnExactHearGreet", fn := fun _ => fun
  | [d1, d2] => { results := [.lit (.bool false)], args := [d1, d2] }
  | _ => none }
def FnExactHearGreetWrongFalsely : Prop := fnExactHearGreetRow.holds Try.pinned (OpenSpec.ofChange fnExactHearGreetWrong)

/-- 'laws.FnCalmGreets': WHATEVER THE INPUT: true; the input reads as it did. -/
def fnCalmGreetsSpec : ChangeSpec := { name := "fnCalmGreets", fn := fun _ => fun
  | [d] => { results := [.lit (.bool true)], args := [d] }
  | _ => none }
def fnCalmGreetsRow : OpenClaim := { program := "ytpinehfjimphmaa", sum := "fdfe4b5406c60fb2dafd77efb38fe2e93ea57ccd188b9ce707e7c3a58df6da23", func := "loop.example/g00193/laws.FnCalmGreets", spec := "fnCalmGreets", inPlace := ["internal/abi.NoEscape", "internal/bytealg.MakeNoZero"], apart := false }
def FnCalmGreetsSaid : Prop := fnCalmGreetsRow.holds Try.pinned (OpenSpec.ofChange fnCalmGreetsSpec)

/-- ITS FALSE NEIGHBOUR: 'it returns false'. Refute it at one input. -/
def fnCalmGreetsWrong : ChangeSpec := { name := "fnCalmGreets", fn := fun _ => fun
  | [d] => { results := [.lit (.bool false)], args := [d] }
  | _ => none }
def FnCalmGreetsWrongFalsely : Prop := fnCalmGreetsRow.holds Try.pinned (OpenSpec.ofChange fnCalmGreetsWrong)

/- THE SECOND FORM. 'bulk': how many values and letters a reading holds, each counted each time it is reached (what is shared counts as often as it is met; a slice's spare places count too). A statement '..UptoSaid' is the law's where the arguments, and the package variables that the reading takes, are together of bulk at most 1048576: NARROWER than '..Said'. Prove '..Said' where nothing that the law and all that it calls make is longer than what came in: it says more and counts as full. Else prove '..UptoSaid'. A law counts once. -/
mutual
def uptoBulk {H : Type} : DataW H → Nat
  | .lit (.string bytes) => bytes.length + 1
  | .lit _ => 1
  | .nil => 1
  | .ptr d => uptoBulk d + 1
  | .slice elems spare => uptoBulkAll elems + uptoBulkAll spare + 1
  | .agg parts => uptoBulkAll parts + 1
  | .iface _ d => uptoBulk d + 1
  | .map entries => uptoBulkEntries entries + 1
  | .held _ => 1
def uptoBulkAll {H : Type} : List (DataW H) → Nat
  | [] => 0
  | d :: r => uptoBulk d + uptoBulkAll r
def uptoBulkEntries {H : Type} : List (Lit × DataW H) → Nat
  | [] => 0
  | x :: r => uptoBulkEntry x + uptoBulkEntries r
def uptoBulkEntry {H : Type} : Lit × DataW H → Nat
  | (.string bytes, d) => bytes.length + uptoBulk d + 1
  | (_, d) => uptoBulk d + 1
 end
def uptoSmall : (H : Type) → List (DataW H) → Bool := fun _ ds => decide (uptoBulkAll ds ≤ 1048576)
def OpenSpec.upto (s : _root_.Go.ChangeSpec) : _root_.Go.OpenSpec := { _root_.Go.OpenSpec.ofChange s with cond := some uptoSmall }

/-- 'laws.FnExactHello', WHERE WHAT IT READS IS OF BULK AT MOST 1048576: true; the input reads as it did. -/
def fnExactHelloUptoRow : OpenClaim := { program := "ytpinehfjimphmaa", sum := "fdfe4b5406c60fb2dafd77efb38fe2e93ea57ccd188b9ce707e7c3a58df6da23", func := "loop.example/g00193/laws.FnExactHello", spec := "fnExactHello", apart := false, narrowed := true }
def FnExactHelloUptoSaid : Prop := fnExactHelloUptoRow.holds Try.pinned (OpenSpec.upto fnExactHelloSpec)

/-- 'laws.FnExactGreeterNew', WHERE WHAT IT READS IS OF BULK AT MOST 1048576: true; the input reads as it did. -/
def fnExactGreeterNewUptoRow : OpenClaim := { program := "ytpinehfjimphmaa", sum := "fdfe4b5406c60fb2dafd77efb38fe2e93ea57ccd188b9ce707e7c3a58df6da23", func := "loop.example/g00193/laws.FnExactGreeterNew", spec := "fnExactGreeterNew", inPlace := ["internal/abi.NoEscape", "internal/bytealg.MakeNoZero"], apart := false, narrowed := true }
def FnExactGreeterNewUptoSaid : Prop := fnExactGreeterNewUptoRow.holds Try.pinned (OpenSpec.upto fnExactGreeterNewSpec)

/-- 'laws.FnExactProof', WHERE WHAT IT READS IS OF BULK AT MOST 1048576: true; the input reads as it did. -/
def fnExactProofUptoRow : OpenClaim := { program := "ytpinehfjimphmaa", sum := "fdfe4b5406c60fb2dafd77efb38fe2e93ea57ccd188b9ce707e7c3a58df6da23", func := "loop.example/g00193/laws.FnExactProof", spec := "fnExactProof", inPlace := ["internal/abi.NoEscape", "internal/bytealg.MakeNoZero"], apart := false, narrowed := true }
def FnExactProofUptoSaid : Prop := fnExactProofUptoRow.holds Try.pinned (OpenSpec.upto fnExactProofSpec)

/-- 'laws.FnExactKeysOf', WHERE WHAT IT READS IS OF BULK AT MOST 1048576: true; the input reads as it did. -/
def fnExactKeysOfUptoRow : OpenClaim := { program := "ytpinehfjimphmaa", sum := "fdfe4b5406c60fb2dafd77efb38fe2e93ea57ccd188b9ce707e7c3a58df6da23", func := "loop.example/g00193/laws.FnExactKeysOf", spec := "fnExactKeysOf", inPlace := ["internal/abi.NoEscape", "internal/bytealg.MakeNoZero"], apart := false, narrowed := true }
def FnExactKeysOfUptoSaid : Prop := fnExactKeysOfUptoRow.holds Try.pinned (OpenSpec.upto fnExactKeysOfSpec)

/-- 'laws.FnExactHearGreet', WHERE WHAT IT READS IS OF BULK AT MOST 1048576: true; the input reads as it did. -/
def fnExactHearGreetUptoRow : OpenClaim := { program := "ytpinehfjimphmaa", sum := "fdfe4b5406c60fb2dafd77efb38fe2e93ea57ccd188b9ce707e7c3a58df6da23", func := "loop.example/g00193/laws.FnExactHearGreet", spec := "fnExactHearGreet", inPlace := ["internal/abi.NoEscape", "internal/bytealg.MakeNoZero"], apart := false, narrowed := true }
def FnExactHearGreetUptoSaid : Prop := fnExactHearGreetUptoRow.holds Try.pinned (OpenSpec.upto fnExactHearGreetSpec)

/-- 'laws.FnCalmGreets', WHERE WHAT IT READS IS OF BULK AT MOST 1048576: true; the input reads as it did. -/
def fnCalmGreetsUptoRow : OpenClaim := { program := "ytpinehfjimphmaa", sum := "fdfe4b5406c60fb2dafd77efb38fe2e93ea57ccd188b9ce707e7c3a58df6da23", func := "loop.example/g00193/laws.FnCalmGreets", spec := "fnCalmGreets", inPlace := ["internal/abi.NoEscape", "internal/bytealg.MakeNoZero"], apart := false, narrowed := true }
def FnCalmGreetsUptoSaid : Prop := fnCalmGreetsUptoRow.holds Try.pinned (OpenSpec.upto fnCalmGreetsSpec)

end Rows
end Go.Proofs.Ytpinehfjimphmaa
