/-
  No cell of these rows narrows 'for every input' (looked for: loops, veiled, ifaces, maps, wideKeys, modest, calm, conditions, laid).
  DERIVED. THE GIVEN ROWS OF THIS SEAT. 12 by the template 'for every input the law returns true; each argument reads behind the call as it read before'; 0 by the template 'total and deterministic' (their statements: YtbddppnhpapfkaaTotals.lean).
  GIVEN WITH THE SEED: the statements are not yours to turn. If you find one false, say at which input.
  Laid BY PROGRAM, IN A SANDBOX (cutbox-rows.mjs): the forced cells as the released guide's own fill.sh prints them over the translation c538aa741168a7d0… (all of the seat's roots in one cut). By AI agents, Wed Nov 11 2026. No macro, syntax, notation, axiom, sorry.
-/
import Derived.Test.YtbddppnhpapfkaaChecked
import GoSem.Claim
import GoSem.ClaimJoined
import GoSem.ClaimMapViews
import Derived.JoinedTies
import Derived.KernelRfl
namespace Go.Proofs.Ytbddppnhpapfkaa
/- THE CELL 'sum', in the pinned program and in every row, IS THE sha256 OF THE DUMP (.gsa) THAT YtbddppnhpapfkaaProg.lean LOADS. Nothing in Lean hashes anything: it is a label: what it is worth is what the hold of that sum in a sandbox is worth. -/
noncomputable def Try.pinned : Pinned := { name := "ytbddppnhpapfkaa", sum := "c538aa741168a7d09706dafbe5c55dce031e0a3b1e8c026bef0b16d69cf010fd", checked := Try.checked }
namespace Rows
def none {H : Type} : Left H := { results := [], args := [] }

/-- 'laws.FnExactDropTo': WHATEVER THE INPUT: true; the input reads as it did. -/
def fnExactDropToSpec : ChangeSpec := { name := "fnExactDropTo", fn := fun _ => fun
  | [d1, d2] => { results := [.lit (.bool true)], args := [d1, d2] }
  | _ => none }
def fnExactDropToRow : OpenClaim := { program := "ytbddppnhpapfkaa", sum := "c538aa741168a7d09706dafbe5c55dce031e0a3b1e8c026bef0b16d69cf010fd", func := "loop.example/g00193/laws.FnExactDropTo", spec := "fnExactDropTo", unfollowed := true, recurses := true, apart := false }
def FnExactDropToSaid : Prop := fnExactDropToRow.holds Try.pinned (OpenSpec.ofChange fnExactDropToSpec)

/-- ITS FALSE NEIGHBOUR: 'it returns false'. Refute it at one input. -/
def fnExactDropToWrong : ChangeSpec := { name := "fnExactDropTo", fn := fun _ => fun
  | [d1, d2] => { results := [.lit (.bool false)], args := [d1, d2] }
  | _ => none }
def FnExactDropToWrongFalsely : Prop := fnExactDropToRow.holds Try.pinned (OpenSpec.ofChange fnExactDropToWrong)

/-- 'laws.FnExactRoutesOk': WHATEVER THE INPUT: true; the input reads as it did. -/
def fnExactRoutesOkSpec : ChangeSpec := { name := "fnExactRoutesOk", fn := fun _ => fun
  | [d] => { results := [.lit (.bool true)], args := [d] }
  | _ => none }
def fnExactRoutesOkRow : OpenClaim := { program := "ytbddppnhpapfkaa", sum := "c538aa741168a7d09706dafbe5c55dce031e0a3b1e8c026bef0b16d69cf010fd", func := "loop.example/g00193/laws.FnExactRoutesOk", spec := "fnExactRoutesOk", apart := false }
def FnExactRoutesOkSaid : Prop := fnExactRoutesOkRow.holds Try.pinned (OpenSpec.ofChange fnExactRoutesOkSpec)

/-- ITS FALSE NEIGHBOUR: 'it returns false'. Refute it at one input. -/
def fnExactRoutesOkWrong : ChangeSpec := { name := "fnExactRoutesOk", fn := fun _ => fun
  | [d] => { results := [.lit (.bool false)], args := [d] }
  | _ => none }
def FnExactRoutesOkWrongFalsely : Prop := fnExactRoutesOkRow.holds Try.pinned (OpenSpec.ofChange fnExactRoutesOkWrong)

/-- 'laws.FnExactHolderOf': WHATEVER THE INPUT: true; the input reads as it did. -/
def fnExactHolderOfSpec : ChangeSpec := { name := "fnExactHolderOf", fn := fun _ => fun
  | [d1, d2] => { results := [.lit (.bool true)], args := [d1, d2] }
  | _ => none }
def fnExactHolderOfRow : OpenClaim := { program := "ytbddppnhpapfkaa", sum := "c538aa741168a7d09706dafbe5c55dce031e0a3b1e8c026bef0b16d69cf010fd", func := "loop.example/g00193/laws.FnExactHolderOf", spec := "fnExactHolderOf", apart := false }
def FnExactHolderOfSaid : Prop := fnExactHolderOfRow.holds Try.pinned (OpenSpec.ofChange fnExactHolderOfSpec)

/-- ITS FALSE NEIGHBOUR: 'it returns false'. Refute it at one input. -/
def fnExactHolderOfWrong : ChangeSpec := { name := "fnExactHolderOf", fn := fun _ => fun
  | [d1, d2] => { results := [.lit (.bool false)], args := [d1, d2] }
  | _ => none }
def FnExactHolderOfWrongFalsely : Prop := fnExactHolderOfRow.holds Try.pinned (OpenSpec.ofChange fnExactHolderOfWrong)

/-- 'laws.FnExactLookUp': WHATEVER THE INPUT: true; the input reads as it did. -/
def fnExactLookUpSpec : ChangeSpec := { name := "fnExactLookUp", fn := fun _ => fun
  | [d1, d2] => { results := [.lit (.bool true)], args := [d1, d2] }
  | _ => none }
def fnExactLookUpRow : OpenClaim := { program := "ytbddppnhpapfkaa", sum := "c538aa741168a7d09706dafbe5c55dce031e0a3b1e8c026bef0b16d69cf010fd", func := "loop.example/g00193/laws.FnExactLookUp", spec := "fnExactLookUp", apart := false }
def FnExactLookUpSaid : Prop := fnExactLookUpRow.holds Try.pinned (OpenSpec.ofChange fnExactLookUpSpec)

/-- ITS FALSE NEIGHBOUR: 'it returns false'. Refute it at one input. -/
def fnExactLookUpWrong : ChangeSpec := { name := "fnExactLookUp", fn := fun _ => fun
  | [d1, d2] => { results := [.lit (.bool false)], args := [d1, d2] }
  | _ => none }
def FnExactLookUpWrongFalsely : Prop := fnExactLookUpRow.holds Try.pinned (OpenSpec.ofChange fnExactLookUpWrong)

/-- 'laws.FnExactTrieFind': WHATEVER THE INPUT: true; the input reads as it did. -/
def fnExactTrieFindSpec : ChangeSpec := { name := "fnExactTrieFind", fn := fun _ => fun
  | [d1, d2] => { results := [.lit (.bool true)], args := [d1, d2] }
  | _ => none }
def fnExactTrieFindRow : OpenClaim := { program := "ytbddppnhpapfkaa", sum := "c538aa741168a7d09706dafbe5c55dce031e0a3b1e8c026bef0b16d69cf010fd", func := "loop.example/g00193/laws.FnExactTrieFind", spec := "fnExactTrieFind", apart := false }
def FnExactTrieFindSaid : Prop := fnExactTrieFindRow.holds Try.pinned (OpenSpec.ofChange fnExactTrieFindSpec)

/-- ITS FALSE NEIGHBOUR: 'it returns false'. Refute it at one input. -/
def fnExactTrieFindWrong : ChangeSpec := { name := "fnExactTrieFind", fn := fun _ => fun
  | [d1, d2] => { results := [.lit (.bool false)], args := [d1, d2] }
  | _ => none }
def FnExactTrieFindWrongFalsely : Prop := fnExactTrieFindRow.holds Try.pinned (OpenSpec.ofChange fnExactTrieFindWrong)

/-- 'laws.FnLongest': WHATEVER THE INPUT: true; the input reads as it did. -/
def fnLongestSpec : ChangeSpec := { name := "fnLongest", fn := fun _ => fun
  | [d] => { results := [.lit (.bool true)], args := [d] }
  | _ => none }
def fnLongestRow : OpenClaim := { program := "ytbddppnhpapfkaa", sum := "c538aa741168a7d09706dafbe5c55dce031e0a3b1e8c026bef0b16d69cf010fd", func := "loop.example/g00193/laws.FnLongest", spec := "fnLongest", apart := false }
def FnLongestSaid : Prop := fnLongestRow.holds Try.pinned (OpenSpec.ofChange fnLongestSpec)

/-- ITS FALSE NEIGHBOUR: 'it returns false'. Refute it at one input. -/
def fnLongestWrong : ChangeSpec := { name := "fnLongest", fn := fun _ => fun
  | [d] => { results := [.lit (.bool false)], args := [d] }
  | _ => none }
def FnLongestWrongFalsely : Prop := fnLongestRow.holds Try.pinned (OpenSpec.ofChange fnLongestWrong)

/-- 'laws.FnExactDropRoute': WHATEVER THE INPUT: true; the input reads as it did. -/
def fnExactDropRouteSpec : ChangeSpec := { name := "fnExactDropRoute", fn := fun _ => fun
  | [d1, d2] => { results := [.lit (.bool true)], args := [d1, d2] }
  | _ => none }
def fnExactDropRouteRow : OpenClaim := { program := "ytbddppnhpapfkaa", sum := "c538aa741168a7d09706dafbe5c55dce031e0a3b1e8c026bef0b16d69cf010fd", func := "loop.example/g00193/laws.FnExactDropRoute", spec := "fnExactDropRoute", unfollowed := true, recurses := true, apart := false }
def FnExactDropRouteSaid : Prop := fnExactDropRouteRow.holds Try.pinned (OpenSpec.ofChange fnExactDropRouteSpec)

/-- ITS FALSE NEIGHBOUR: 'it returns false'. Refute it at one input. -/
def fnExactDropRouteWrong : ChangeSpec := { name := "fnExactDropRoute", fn := fun _ => fun
  | [d1, d2] => { results := [.lit (.bool false)], args := [d1, d2] }
  | _ => none }
def FnExactDropRouteWrongFalsely : Prop := fnExactDropRouteRow.holds Try.pinned (OpenSpec.ofChange fnExactDropRouteWrong)

/-- 'laws.FnExactPoolOk': WHATEVER THE INPUT: true; the input reads as it did. -/
def fnExactPoolOkSpec : ChangeSpec := { name := "fnExactPoolOk", fn := fun _ => fun
  | [d] => { results := [.lit (.bool true)], args := [d] }
  | _ => none }
def fnExactPoolOkRow : OpenClaim := { program := "ytbddppnhpapfkaa", sum := "c538aa741168a7d09706dafbe5c55dce031e0a3b1e8c026bef0b16d69cf010fd", func := "loop.example/g00193/laws.FnExactPoolOk", spec := "fnExactPoolOk", unfollowed := true, recurses := true, apart := false }
def FnExactPoolOkSaid : Prop := fnExactPoolOkRow.holds Try.pinned (OpenSpec.ofChange fnExactPoolOkSpec)

/-- ITS FALSE NEIGHBOUR: 'it returns false'. Refute it at one input. -/
def fnExactPoolOkWrong : ChangeSpec := { name := "fnExactPoolOk", fn := fun _ => fun
  | [d] => { results := [.lit (.bool false)], args := [d] }
  | _ => none }
def FnExactPoolOkWrongFalsely : Prop := fnExactPoolOkRow.holds Try.pinned (OpenSpec.ofChange fnExactPoolOkWrong)

/-- 'laws.FnExactTriePut': WHATEVER THE INPUT: true; the input reads as it did. -/
def fnExactTriePutSpec : ChangeSpec := { name := "fnExactTriePut", fn := fun _ => fun
  | [d1, d2, d3] => { results := [.lit (.bool true)], args := [d1, d2, d3] }
  | _ => none }
def fnExactTriePutRow : OpenClaim := { program := "ytbddppnhpapfkaa", sum := "c538aa741168a7d09706dafbe5c55dce031e0a3b1e8c026bef0b16d69cf010fd", func := "loop.example/g00193/laws.FnExactTriePut", spec := "fnExactTriePut", apart := false }
def FnExactTriePutSaid : Prop := fnExactTriePutRow.holds Try.pinned (OpenSpec.ofChange fnExactTriePutSpec)

/-- ITS FALSE NEIGHBOUR: 'it returns false'. Refute it at one input. -/
def fnExactTriePutWrong : ChangeSpec := { name := "fnExactTriePut", fn := fun _ => fun
  | [d1, d2, d3] => { results := [.lit (.bool false)], args := [d1, d2, d3] }
  | _ => none }
def FnExactTriePutWrongFalsely : Prop := fnExactTriePutRow.holds Try.pinned (OpenSpec.ofChange fnExactTriePutWrong)

/-- 'laws.FnExactTrieOf': WHATEVER THE INPUT: true; the input reads as it did. -/
def fnExactTrieOfSpec : ChangeSpec := { name := "fnExactTrieOf", fn := fun _ => fun
  | [d] => { results := [.lit (.bool true)], args := [d] }
  | _ => none }
def fnExactTrieOfRow : OpenClaim := { program := "ytbddppnhpapfkaa", sum := "c538aa741168a7d09706dafbe5c55dce031e0a3b1e8c026bef0b16d69cf010fd", func := "loop.example/g00193/laws.FnExactTrieOf", spec := "fnExactTrieOf", apart := false }
def FnExactTrieOfSaid : Prop := fnExactTrieOfRow.holds Try.pinned (OpenSpec.ofChange fnExactTrieOfSpec)

/-- ITS FALSE NEIGHBOUR: 'it returns false'. Refute it at one input. -/
def fnExactTrieOfWrong : ChangeSpec := { name := "fnExactTrieOf", fn := fun _ => fun
  | [d] => { results := [.lit (.bool false)], args := [d] }
  | _ => none }
def FnExactTrieOfWrongFalsely : Prop := fnExactTrieOfRow.holds Try.pinned (OpenSpec.ofChange fnExactTrieOfWrong)

/-- 'laws.FnTriePuts': WHATEVER THE INPUT: true; the input reads as it did. -/
def fnTriePutsSpec : ChangeSpec := { name := "fnTriePuts", fn := fun _ => fun
  | [d] => { results := [.lit (.bool true)], args := [d] }
  | _ => none }
def fnTriePutsRow : OpenClaim := { program := "ytbddppnhpapfkaa", sum := "c538aa741168a7d09706dafbe5c55dce031e0a3b1e8c026bef0b16d69cf010fd", func := "loop.example/g00193/laws.FnTriePuts", spec := "fnTriePuts", apart := false }
def FnTriePutsSaid : Prop := fnTriePutsRow.holds Try.pinned (OpenSpec.ofChange fnTriePutsSpec)

/-- ITS FALSE NEIGHBOUR: 'it returns false'. Refute it at one input. -/
def fnTriePutsWrong : ChangeSpec := { name := "fnTriePuts", fn := fun _ => fun
  | [d] => { results := [.lit (.bool false)], args := [d] }
  | _ => none }
def FnTriePutsWrongFalsely : Prop := fnTriePutsRow.holds Try.pinned (OpenSpec.ofChange fnTriePutsWrong)

/-- 'laws.FnExactPutRoute': WHATEVER THE INPUT: true; the input reads as it did. -/
def fnExactPutRouteSpec : ChangeSpec := { name := "fnExactPutRoute", fn := fun _ => fun
  | [d1, d2] => { results := [.lit (.bool true)], args := [d1, d2] }
  | _ => none }
def fnExactPutRouteRow : OpenClaim := { program := "ytbddppnhpapfkaa", sum := "c538aa741168a7d09706dafbe5c55dce031e0a3b1e8c026bef0b16d69cf010fd", func := "loop.example/g00193/laws.FnExactPutRoute", spec := "fnExactPutRoute", inPlace := ["slices.overlaps[loop.example/g00193/impl.Route]"], unfollowed := true, recurses := true, apart := false }
def FnExactPutRouteSaid : Prop := fnExactPutRouteRow.holds Try.pinned (OpenSpec.ofChange fnExactPutRouteSpec)

/-- ITS FALSE NEIGHBOUR: 'it returns false'. Refute it at one input. -/
def fnExactPutRouteWrong : ChangeSpec := { name := "fnExactPutRoute", fn := fun _ => fun
  | [d1, d2] => { results := [.lit (.bool false)], args := [d1, d2] }
  | _ => none }
def FnExactPutRouteWrongFalsely : Prop := fnExactPutRouteRow.holds Try.pinned (OpenSpec.ofChange fnExactPutRouteWrong)

/- THE SECOND FORM. 'bulk': how many values and letters a reading holds, each counted each time it is reached (what is shared counts as often as it is met; a slice's spare places count too). A statement '..UptoSaid' is the law's where the arguments, and the package variables that the reading takes, are together of bulk at most 1048576: NARROWER than '..Said'. Prove '..Said' where nothing that the law and all that it calls make is longer than what came in: it says more and counts as full. Else prove '..UptoSaid'. A law counts once. -/
mutual
def uptoBulk {H : Type} : DataW H → Nat
  | .lit (.string bytes) => bytes.length + 1
  | .lit _ => 1
  | .nil => 1
  | .ptr d => uptoBulk d + 1
  | .slice elems spare => uptoBulkAll elems + uptoBulkAll spare + 1
  | .agg parts => uptoBulkAll parts + 1
  | .iface _ d => uptoBulk d + 1
  | .map entries => uptoBulkEntries entries + 1
  | .held _ => 1
def uptoBulkAll {H : Type} : List (DataW H) → Nat
  | [] => 0
  | d :: r => uptoBulk d + uptoBulkAll r
def uptoBulkEntries {H : Type} : List (Lit × DataW H) → Nat
  | [] => 0
  | x :: r => uptoBulkEntry x + uptoBulkEntries r
def uptoBulkEntry {H : Type} : Lit × DataW H → Nat
  | (.string bytes, d) => bytes.length + uptoBulk d + 1
  | (_, d) => uptoBulk d + 1
 end
def uptoSmall : (H : Type) → List (DataW H) → Bool := fun _ ds => decide (uptoBulkAll ds ≤ 1048576)
def OpenSpec.upto (s : _root_.Go.ChangeSpec) : _root_.Go.OpenSpec := { _root_.Go.OpenSpec.ofChange s with cond := some uptoSmall }

/-- 'laws.FnExactDropTo', WHERE WHAT IT READS IS OF BULK AT MOST 1048576: true; the input reads as it did. -/
def fnExactDropToUptoRow : OpenClaim := { program := "ytbddppnhpapfkaa", sum := "c538aa741168a7d09706dafbe5c55dce031e0a3b1e8c026bef0b16d69cf010fd", func := "loop.example/g00193/laws.FnExactDropTo", spec := "fnExactDropTo", unfollowed := true, recurses := true, apart := false, narrowed := true }
def FnExactDropToUptoSaid : Prop := fnExactDropToUptoRow.holds Try.pinned (OpenSpec.upto fnExactDropToSpec)

/-- 'laws.FnExactRoutesOk', WHERE WHAT IT READS IS OF BULK AT MOST 1048576: true; the input reads as it did. -/
def fnExactRoutesOkUptoRow : OpenClaim := { program := "ytbddppnhpapfkaa", sum := "c538aa741168a7d09706dafbe5c55dce031e0a3b1e8c026bef0b16d69cf010fd", func := "loop.example/g00193/laws.FnExactRoutesOk", spec := "fnExactRoutesOk", apart := false, narrowed := true }
def FnExactRoutesOkUptoSaid : Prop := fnExactRoutesOkUptoRow.holds Try.pinned (OpenSpec.upto fnExactRoutesOkSpec)

/-- 'laws.FnExactHolderOf', WHERE WHAT IT READS IS OF BULK AT MOST 1048576: true; the input reads as it did. -/
def fnExactHolderOfUptoRow : OpenClaim := { program := "ytbddppnhpapfkaa", sum := "c538aa741168a7d09706dafbe5c55dce031e0a3b1e8c026bef0b16d69cf010fd", func := "loop.example/g00193/laws.FnExactHolderOf", spec := "fnExactHolderOf", apart := false, narrowed := true }
def FnExactHolderOfUptoSaid : Prop := fnExactHolderOfUptoRow.holds Try.pinned (OpenSpec.upto fnExactHolderOfSpec)

/-- 'laws.FnExactLookUp', WHERE WHAT IT READS IS OF BULK AT MOST 1048576: true; the input reads as it did. -/
def fnExactLookUpUptoRow : OpenClaim := { program := "ytbddppnhpapfkaa", sum := "c538aa741168a7d09706dafbe5c55dce031e0a3b1e8c026bef0b16d69cf010fd", func := "loop.example/g00193/laws.FnExactLookUp", spec := "fnExactLookUp", apart := false, narrowed := true }
def FnExactLookUpUptoSaid : Prop := fnExactLookUpUptoRow.holds Try.pinned (OpenSpec.upto fnExactLookUpSpec)

/-- 'laws.FnExactTrieFind', WHERE WHAT IT READS IS OF BULK AT MOST 1048576: true; the input reads as it did. -/
def fnExactTrieFindUptoRow : OpenClaim := { program := "ytbddppnhpapfkaa", sum := "c538aa741168a7d09706dafbe5c55dce031e0a3b1e8c026bef0b16d69cf010fd", func := "loop.example/g00193/laws.FnExactTrieFind", spec := "fnExactTrieFind", apart := false, narrowed := true }
def FnExactTrieFindUptoSaid : Prop := fnExactTrieFindUptoRow.holds Try.pinned (OpenSpec.upto fnExactTrieFindSpec)

/-- 'laws.FnLongest', WHERE WHAT IT READS IS OF BULK AT MOST 1048576: true; the input reads as it did. -/
def fnLongestUptoRow : OpenClaim := { program := "ytbddppnhpapfkaa", sum := "c538aa741168a7d09706dafbe5c55dce031e0a3b1e8c026bef0b16d69cf010fd", func := "loop.example/g00193/laws.FnLongest", spec := "fnLongest", apart := false, narrowed := true }
def FnLongestUptoSaid : Prop := fnLongestUptoRow.holds Try.pinned (OpenSpec.upto fnLongestSpec)

/-- 'laws.FnExactDropRoute', WHERE WHAT IT READS IS OF BULK AT MOST 1048576: true; the input reads as it did. -/
def fnExactDropRouteUptoRow : OpenClaim := { program := "ytbddppnhpapfkaa", sum := "c538aa741168a7d09706dafbe5c55dce031e0a3b1e8c026bef0b16d69cf010fd", func := "loop.example/g00193/laws.FnExactDropRoute", spec := "fnExactDropRoute", unfollowed := true, recurses := true, apart := false, narrowed := true }
def FnExactDropRouteUptoSaid : Prop := fnExactDropRouteUptoRow.holds Try.pinned (OpenSpec.upto fnExactDropRouteSpec)

/-- 'laws.FnExactPoolOk', WHERE WHAT IT READS IS OF BULK AT MOST 1048576: true; the input reads as it did. -/
def fnExactPoolOkUptoRow : OpenClaim := { program := "ytbddppnhpapfkaa", sum := "c538aa741168a7d09706dafbe5c55dce031e0a3b1e8c026bef0b16d69cf010fd", func := "loop.example/g00193/laws.FnExactPoolOk", spec := "fnExactPoolOk", unfollowed := true, recurses := true, apart := false, narrowed := true }
def FnExactPoolOkUptoSaid : Prop := fnExactPoolOkUptoRow.holds Try.pinned (OpenSpec.upto fnExactPoolOkSpec)

/-- 'laws.FnExactTriePut', WHERE WHAT IT READS IS OF BULK AT MOST 1048576: true; the input reads as it did. -/
def fnExactTriePutUptoRow : OpenClaim := { program := "ytbddppnhpapfkaa", sum := "c538aa741168a7d09706dafbe5c55dce031e0a3b1e8c026bef0b16d69cf010fd", func := "loop.example/g00193/laws.FnExactTriePut", spec := "fnExactTriePut", apart := false, narrowed := true }
def FnExactTriePutUptoSaid : Prop := fnExactTriePutUptoRow.holds Try.pinned (OpenSpec.upto fnExactTriePutSpec)

/-- 'laws.FnExactTrieOf', WHERE WHAT IT READS IS OF BULK AT MOST 1048576: true; the input reads as it did. -/
def fnExactTrieOfUptoRow : OpenClaim := { program := "ytbddppnhpapfkaa", sum := "c538aa741168a7d09706dafbe5c55dce031e0a3b1e8c026bef0b16d69cf010fd", func := "loop.example/g00193/laws.FnExactTrieOf", spec := "fnExactTrieOf", apart := false, narrowed := true }
def FnExactTrieOfUptoSaid : Prop := fnExactTrieOfUptoRow.holds Try.pinned (OpenSpec.upto fnExactTrieOfSpec)

/-- 'laws.FnTriePuts', WHERE WHAT IT READS IS OF BULK AT MOST 1048576: true; the input reads as it did. -/
def fnTriePutsUptoRow : OpenClaim := { program := "ytbddppnhpapfkaa", sum := "c538aa741168a7d09706dafbe5c55dce031e0a3b1e8c026bef0b16d69cf010fd", func := "loop.example/g00193/laws.FnTriePuts", spec := "fnTriePuts", apart := false, narrowed := true }
def FnTriePutsUptoSaid : Prop := fnTriePutsUptoRow.holds Try.pinned (OpenSpec.upto fnTriePutsSpec)

/-- 'laws.FnExactPutRoute', WHERE WHAT IT READS IS OF BULK AT MOST 1048576: true; the input reads as it did. -/
def fnExactPutRouteUptoRow : OpenClaim := { program := "ytbddppnhpapfkaa", sum := "c538aa741168a7d09706dafbe5c55dce031e0a3b1e8c026bef0b16d69cf010fd", func := "loop.example/g00193/laws.FnExactPutRoute", spec := "fnExactPutRoute", inPlace := ["slices.overlaps[loop.example/g00193/impl.Route]"], unfollowed := true, recurses := true, apart := false, narrowed := true }
def FnExactPutRouteUptoSaid : Prop := fnExactPutRouteUptoRow.holds Try.pinned (OpenSpec.upto fnExactPutRouteSpec)

end Rows
end Go.Proofs.Ytbddppnhpapfkaa
