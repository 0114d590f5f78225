/-
  No cell of these rows narrows 'for every input' (looked for: loops, veiled, ifaces, maps, wideKeys, modest, calm, conditions, laid).
  DERIVED. THE GIVEN ROWS OF THIS SEAT. 12 by the template 'for every input the law returns true; each argument reads behind the call as it read before'; 0 by the template 'total and deterministic' (their statements: YtlgcekphoamcnaaTotals.lean).
  GIVEN WITH THE SEED: the statements are not yours to turn. If you find one false, say at which input.
  Laid BY PROGRAM, IN A SANDBOX (cutbox-rows.mjs): the forced cells as the released guide's own fill.sh prints them over the translation 4248e76db4d58fc3… (all of the seat's roots in one cut). By AI agents, Wed Nov 11 2026. No macro, syntax, notation, axiom, sorry.
-/
import Derived.Test.YtlgcekphoamcnaaChecked
import GoSem.Claim
import GoSem.ClaimJoined
import GoSem.ClaimMapViews
import Derived.JoinedTies
import Derived.KernelRfl
namespace Go.Proofs.Ytlgcekphoamcnaa
/- THE CELL 'sum', in the pinned program and in every row, IS THE sha256 OF THE DUMP (.gsa) THAT YtlgcekphoamcnaaProg.lean LOADS. Nothing in Lean hashes anything: it is a label: what it is worth is what the hold of that sum in a sandbox is worth. -/
noncomputable def Try.pinned : Pinned := { name := "ytlgcekphoamcnaa", sum := "4248e76db4d58fc3470cc8c022a7f2a60c986d6324030633d00036f8a881f325", checked := Try.checked }
namespace Rows
def none {H : Type} : Left H := { results := [], args := [] }

/-- 'laws.FnExactTurnOk': WHATEVER THE INPUT: true; the input reads as it did. -/
def fnExactTurnOkSpec : ChangeSpec := { name := "fnExactTurnOk", fn := fun _ => fun
  | [d] => { results := [.lit (.bool true)], args := [d] }
  | _ => none }
def fnExactTurnOkRow : OpenClaim := { program := "ytlgcekphoamcnaa", sum := "4248e76db4d58fc3470cc8c022a7f2a60c986d6324030633d00036f8a881f325", func := "loop.example/g00193/laws.FnExactTurnOk", spec := "fnExactTurnOk", apart := false }
def FnExactTurnOkSaid : Prop := fnExactTurnOkRow.holds Try.pinned (OpenSpec.ofChange fnExactTurnOkSpec)

/-- ITS FALSE NEIGHBOUR: 'it returns false'. Refute it at one input. -/
def fnExactTurnOkWrong : ChangeSpec := { name := "fnExactTurnOk", fn := fun _ => fun
  | [d] => { results := [.lit (.bool false)], args := [d] }
  | _ => none }
def FnExactTurnOkWrongFalsely : Prop := fnExactTurnOkRow.holds Try.pinned (OpenSpec.ofChange fnExactTurnOkWrong)

/-- 'laws.FnExactTranscript': WHATEVER THE INPUT: true; the input reads as it did. -/
def fnExactTranscriptSpec : ChangeSpec := { name := "fnExactTranscript", fn := fun _ => fun
  | [d] => { results := [.lit (.bool true)], args := [d] }
  | _ => none }
def fnExactTranscriptRow : OpenClaim := { program := "ytlgcekphoamcnaa", sum := "4248e76db4d58fc3470cc8c022a7f2a60c986d6324030633d00036f8a881f325", func := "loop.example/g00193/laws.FnExactTranscript", spec := "fnExactTranscript", apart := false }
def FnExactTranscriptSaid : Prop := fnExactTranscriptRow.holds Try.pinned (OpenSpec.ofChange fnExactTranscriptSpec)

/-- ITS FALSE NEIGHBOUR: 'it returns false'. Refute it at one input. -/
def fnExactTranscriptWrong : ChangeSpec := { name := "fnExactTranscript", fn := fun _ => fun
  | [d] => { results := [.lit (.bool false)], args := [d] }
  | _ => none }
def FnExactTranscriptWrongFalsely : Prop := fnExactTranscriptRow.holds Try.pinned (OpenSpec.ofChange fnExactTranscriptWrong)

/-- 'laws.FnExactSeenOk': WHATEVER THE INPUT: true; the input reads as it did. -/
def fnExactSeenOkSpec : ChangeSpec := { name := "fnExactSeenOk", fn := fun _ => fun
  | [d] => { results := [.lit (.bool true)], args := [d] }
  | _ => none }
def fnExactSeenOkRow : OpenClaim := { program := "ytlgcekphoamcnaa", sum := "4248e76db4d58fc3470cc8c022a7f2a60c986d6324030633d00036f8a881f325", func := "loop.example/g00193/laws.FnExactSeenOk", spec := "fnExactSeenOk", apart := false }
def FnExactSeenOkSaid : Prop := fnExactSeenOkRow.holds Try.pinned (OpenSpec.ofChange fnExactSeenOkSpec)

/-- ITS FALSE NEIGHBOUR: 'it returns false'. Refute it at one input. -/
def fnExactSeenOkWrong : ChangeSpec := { name := "fnExactSeenOk", fn := fun _ => fun
  | [d] => { results := [.lit (.bool false)], args := [d] }
  | _ => none }
def FnExactSeenOkWrongFalsely : Prop := fnExactSeenOkRow.holds Try.pinned (OpenSpec.ofChange fnExactSeenOkWrong)

/-- 'laws.FnExactBeginsWith': WHATEVER THE INPUT: true; the input reads as it did. -/
def fnExactBeginsWithSpec : ChangeSpec := { name := "fnExactBeginsWith", fn := fun _ => fun
  | [d1, d2] => { results := [.lit (.bool true)], args := [d1, d2] }
  | _ => none }
def fnExactBeginsWithRow : OpenClaim := { program := "ytlgcekphoamcnaa", sum := "4248e76db4d58fc3470cc8c022a7f2a60c986d6324030633d00036f8a881f325", func := "loop.example/g00193/laws.FnExactBeginsWith", spec := "fnExactBeginsWith", apart := false }
def FnExactBeginsWithSaid : Prop := fnExactBeginsWithRow.holds Try.pinned (OpenSpec.ofChange fnExactBeginsWithSpec)

/-- ITS FALSE NEIGHBOUR: 'it returns false'. Refute it at one input. -/
def fnExactBeginsWithWrong : ChangeSpec := { name := "fnExactBeginsWith", fn := fun _ => fun
  | [d1, d2] => { results := [.lit (.bool false)], args := [d1, d2] }
  | _ => none }
def FnExactBeginsWithWrongFalsely : Prop := fnExactBeginsWithRow.holds Try.pinned (OpenSpec.ofChange fnExactBeginsWithWrong)

/-- 'laws.FnExactIsFresh': WHATEVER THE INPUT: true; the input reads as it did. -/
def fnExactIsFreshSpec : ChangeSpec := { name := "fnExactIsFresh", fn := fun _ => fun
  | [d1, d2] => { results := [.lit (.bool true)], args := [d1, d2] }
  | _ => none }
def fnExactIsFreshRow : OpenClaim := { program := "ytlgcekphoamcnaa", sum := "4248e76db4d58fc3470cc8c022a7f2a60c986d6324030633d00036f8a881f325", func := "loop.example/g00193/laws.FnExactIsFresh", spec := "fnExactIsFresh", apart := false }
def FnExactIsFreshSaid : Prop := fnExactIsFreshRow.holds Try.pinned (OpenSpec.ofChange fnExactIsFreshSpec)

/-- ITS FALSE NEIGHBOUR: 'it returns false'. Refute it at one input. -/
def fnExactIsFreshWrong : ChangeSpec := { name := "fnExactIsFresh", fn := fun _ => fun
  | [d1, d2] => { results := [.lit (.bool false)], args := [d1, d2] }
  | _ => none }
def FnExactIsFreshWrongFalsely : Prop := fnExactIsFreshRow.holds Try.pinned (OpenSpec.ofChange fnExactIsFreshWrong)

/-- 'laws.FnExactTrieNew': WHATEVER THE INPUT: true; the input reads as it did. -/
def fnExactTrieNewSpec : ChangeSpec := { name := "fnExactTrieNew", fn := fun _ => fun
  | [] => { results := [.lit (.bool true)], args := [] }
  | _ => none }
def fnExactTrieNewRow : OpenClaim := { program := "ytlgcekphoamcnaa", sum := "4248e76db4d58fc3470cc8c022a7f2a60c986d6324030633d00036f8a881f325", func := "loop.example/g00193/laws.FnExactTrieNew", spec := "fnExactTrieNew", apart := false }
def FnExactTrieNewSaid : Prop := fnExactTrieNewRow.holds Try.pinned (OpenSpec.ofChange fnExactTrieNewSpec)

/-- ITS FALSE NEIGHBOUR: 'it returns false'. Refute it at one input. -/
def fnExactTrieNewWrong : ChangeSpec := { name := "fnExactTrieNew", fn := fun _ => fun
  | [] => { results := [.lit (.bool false)], args := [] }
  | _ => none }
def FnExactTrieNewWrongFalsely : Prop := fnExactTrieNewRow.holds Try.pinned (OpenSpec.ofChange fnExactTrieNewWrong)

/-- 'laws.FnTries': WHATEVER THE INPUT: true; the input reads as it did. -/
def fnTriesSpec : ChangeSpec := { name := "fnTries", fn := fun _ => fun
  | [d] => { results := [.lit (.bool true)], args := [d] }
  | _ => none }
def fnTriesRow : OpenClaim := { program := "ytlgcekphoamcnaa", sum := "4248e76db4d58fc3470cc8c022a7f2a60c986d6324030633d00036f8a881f325", func := "loop.example/g00193/laws.FnTries", spec := "fnTries", apart := false }
def FnTriesSaid : Prop := fnTriesRow.holds Try.pinned (OpenSpec.ofChange fnTriesSpec)

/-- ITS FALSE NEIGHBOUR: 'it returns false'. Refute it at one input. -/
def fnTriesWrong : ChangeSpec := { name := "fnTries", fn := fun _ => fun
  | [d] => { results := [.lit (.bool false)], args := [d] }
  | _ => none }
def FnTriesWrongFalsely : Prop := fnTriesRow.holds Try.pinned (OpenSpec.ofChange fnTriesWrong)

/-- 'laws.FnExactPacketOk': WHATEVER THE INPUT: true; the input reads as it did. -/
def fnExactPacketOkSpec : ChangeSpec := { name := "fnExactPacketOk", fn := fun _ => fun
  | [d] => { results := [.lit (.bool true)], args := [d] }
  | _ => none }
def fnExactPacketOkRow : OpenClaim := { program := "ytlgcekphoamcnaa", sum := "4248e76db4d58fc3470cc8c022a7f2a60c986d6324030633d00036f8a881f325", func := "loop.example/g00193/laws.FnExactPacketOk", spec := "fnExactPacketOk", apart := false }
def FnExactPacketOkSaid : Prop := fnExactPacketOkRow.holds Try.pinned (OpenSpec.ofChange fnExactPacketOkSpec)

/-- ITS FALSE NEIGHBOUR: 'it returns false'. Refute it at one input. -/
def fnExactPacketOkWrong : ChangeSpec := { name := "fnExactPacketOk", fn := fun _ => fun
  | [d] => { results := [.lit (.bool false)], args := [d] }
  | _ => none }
def FnExactPacketOkWrongFalsely : Prop := fnExactPacketOkRow.holds Try.pinned (OpenSpec.ofChange fnExactPacketOkWrong)

/-- 'laws.FnExactSlotOk': WHATEVER THE INPUT: true; the input reads as it did. -/
def fnExactSlotOkSpec : ChangeSpec := { name := "fnExactSlotOk", fn := fun _ => fun
  | [d] => { results := [.lit (.bool true)], args := [d] }
  | _ => none }
def fnExactSlotOkRow : OpenClaim := { program := "ytlgcekphoamcnaa", sum := "4248e76db4d58fc3470cc8c022a7f2a60c986d6324030633d00036f8a881f325", func := "loop.example/g00193/laws.FnExactSlotOk", spec := "fnExactSlotOk", apart := false }
def FnExactSlotOkSaid : Prop := fnExactSlotOkRow.holds Try.pinned (OpenSpec.ofChange fnExactSlotOkSpec)

/-- ITS FALSE NEIGHBOUR: 'it returns false'. Refute it at one input. -/
def fnExactSlotOkWrong : ChangeSpec := { name := "fnExactSlotOk", fn := fun _ => fun
  | [d] => { results := [.lit (.bool false)], args := [d] }
  | _ => none }
def FnExactSlotOkWrongFalsely : Prop := fnExactSlotOkRow.holds Try.pinned (OpenSpec.ofChange fnExactSlotOkWrong)

/-- 'laws.FnExactSpent': WHATEVER THE INPUT: true; the input reads as it did. -/
def fnExactSpentSpec : ChangeSpec := { name := "fnExactSpent", fn := fun _ => fun
  | [d] => { results := [.lit (.bool true)], args := [d] }
  | _ => none }
def fnExactSpentRow : OpenClaim := { program := "ytlgcekphoamcnaa", sum := "4248e76db4d58fc3470cc8c022a7f2a60c986d6324030633d00036f8a881f325", func := "loop.example/g00193/laws.FnExactSpent", spec := "fnExactSpent", apart := false }
def FnExactSpentSaid : Prop := fnExactSpentRow.holds Try.pinned (OpenSpec.ofChange fnExactSpentSpec)

/-- ITS FALSE NEIGHBOUR: 'it returns false'. Refute it at one input. -/
def fnExactSpentWrong : ChangeSpec := { name := "fnExactSpent", fn := fun _ => fun
  | [d] => { results := [.lit (.bool false)], args := [d] }
  | _ => none }
def FnExactSpentWrongFalsely : Prop := fnExactSpentRow.holds Try.pinned (OpenSpec.ofChange fnExactSpentWrong)

/-- 'laws.FnExactOptionsOk': WHATEVER THE INPUT: true; the input reads as it did. -/
def fnExactOptionsOkSpec : ChangeSpec := { name := "fnExactOptionsOk", fn := fun _ => fun
  | [d] => { results := [.lit (.bool true)], args := [d] }
  | _ => none }
def fnExactOptionsOkRow : OpenClaim := { program := "ytlgcekphoamcnaa", sum := "4248e76db4d58fc3470cc8c022a7f2a60c986d6324030633d00036f8a881f325", func := "loop.example/g00193/laws.FnExactOptionsOk", spec := "fnExactOptionsOk", apart := false }
def FnExactOptionsOkSaid : Prop := fnExactOptionsOkRow.holds Try.pinned (OpenSpec.ofChange fnExactOptionsOkSpec)

/-- ITS FALSE NEIGHBOUR: 'it returns false'. Refute it at one input. -/
def fnExactOptionsOkWrong : ChangeSpec := { name := "fnExactOptionsOk", fn := fun _ => fun
  | [d] => { results := [.lit (.bool false)], args := [d] }
  | _ => none }
def FnExactOptionsOkWrongFalsely : Prop := fnExactOptionsOkRow.holds Try.pinned (OpenSpec.ofChange fnExactOptionsOkWrong)

/-- 'laws.FnExactTrieOk': WHATEVER THE INPUT: true; the input reads as it did. -/
def fnExactTrieOkSpec : ChangeSpec := { name := "fnExactTrieOk", fn := fun _ => fun
  | [d] => { results := [.lit (.bool true)], args := [d] }
  | _ => none }
def fnExactTrieOkRow : OpenClaim := { program := "ytlgcekphoamcnaa", sum := "4248e76db4d58fc3470cc8c022a7f2a60c986d6324030633d00036f8a881f325", func := "loop.example/g00193/laws.FnExactTrieOk", spec := "fnExactTrieOk", apart := false }
def FnExactTrieOkSaid : Prop := fnExactTrieOkRow.holds Try.pinned (OpenSpec.ofChange fnExactTrieOkSpec)

/-- ITS FALSE NEIGHBOUR: 'it returns false'. Refute it at one input. -/
def fnExactTrieOkWrong : ChangeSpec := { name := "fnExactTrieOk", fn := fun _ => fun
  | [d] => { results := [.lit (.bool false)], args := [d] }
  | _ => none }
def FnExactTrieOkWrongFalsely : Prop := fnExactTrieOkRow.holds Try.pinned (OpenSpec.ofChange fnExactTrieOkWrong)

/- THE SECOND FORM. 'bulk': how many values and letters a reading holds, each counted each time it is reached (what is shared counts as often as it is met; a slice's spare places count too). A statement '..UptoSaid' is the law's where the arguments, and the package variables that the reading takes, are together of bulk at most 1048576: NARROWER than '..Said'. Prove '..Said' where nothing that the law and all that it calls make is longer than what came in: it says more and counts as full. Else prove '..UptoSaid'. A law counts once. -/
mutual
def uptoBulk {H : Type} : DataW H → Nat
  | .lit (.string bytes) => bytes.length + 1
  | .lit _ => 1
  | .nil => 1
  | .ptr d => uptoBulk d + 1
  | .slice elems spare => uptoBulkAll elems + uptoBulkAll spare + 1
  | .agg parts => uptoBulkAll parts + 1
  | .iface _ d => uptoBulk d + 1
  | .map entries => uptoBulkEntries entries + 1
  | .held _ => 1
def uptoBulkAll {H : Type} : List (DataW H) → Nat
  | [] => 0
  | d :: r => uptoBulk d + uptoBulkAll r
def uptoBulkEntries {H : Type} : List (Lit × DataW H) → Nat
  | [] => 0
  | x :: r => uptoBulkEntry x + uptoBulkEntries r
def uptoBulkEntry {H : Type} : Lit × DataW H → Nat
  | (.string bytes, d) => bytes.length + uptoBulk d + 1
  | (_, d) => uptoBulk d + 1
 end
def uptoSmall : (H : Type) → List (DataW H) → Bool := fun _ ds => decide (uptoBulkAll ds ≤ 1048576)
def OpenSpec.upto (s : _root_.Go.ChangeSpec) : _root_.Go.OpenSpec := { _root_.Go.OpenSpec.ofChange s with cond := some uptoSmall }

/-- 'laws.FnExactTurnOk', WHERE WHAT IT READS IS OF BULK AT MOST 1048576: true; the input reads as it did. -/
def fnExactTurnOkUptoRow : OpenClaim := { program := "ytlgcekphoamcnaa", sum := "4248e76db4d58fc3470cc8c022a7f2a60c986d6324030633d00036f8a881f325", func := "loop.example/g00193/laws.FnExactTurnOk", spec := "fnExactTurnOk", apart := false, narrowed := true }
def FnExactTurnOkUptoSaid : Prop := fnExactTurnOkUptoRow.holds Try.pinned (OpenSpec.upto fnExactTurnOkSpec)

/-- 'laws.FnExactTranscript', WHERE WHAT IT READS IS OF BULK AT MOST 1048576: true; the input reads as it did. -/
def fnExactTranscriptUptoRow : OpenClaim := { program := "ytlgcekphoamcnaa", sum := "4248e76db4d58fc3470cc8c022a7f2a60c986d6324030633d00036f8a881f325", func := "loop.example/g00193/laws.FnExactTranscript", spec := "fnExactTranscript", apart := false, narrowed := true }
def FnExactTranscriptUptoSaid : Prop := fnExactTranscriptUptoRow.holds Try.pinned (OpenSpec.upto fnExactTranscriptSpec)

/-- 'laws.FnExactSeenOk', WHERE WHAT IT READS IS OF BULK AT MOST 1048576: true; the input reads as it did. -/
def fnExactSeenOkUptoRow : OpenClaim := { program := "ytlgcekphoamcnaa", sum := "4248e76db4d58fc3470cc8c022a7f2a60c986d6324030633d00036f8a881f325", func := "loop.example/g00193/laws.FnExactSeenOk", spec := "fnExactSeenOk", apart := false, narrowed := true }
def FnExactSeenOkUptoSaid : Prop := fnExactSeenOkUptoRow.holds Try.pinned (OpenSpec.upto fnExactSeenOkSpec)

/-- 'laws.FnExactBeginsWith', WHERE WHAT IT READS IS OF BULK AT MOST 1048576: true; the input reads as it did. -/
def fnExactBeginsWithUptoRow : OpenClaim := { program := "ytlgcekphoamcnaa", sum := "4248e76db4d58fc3470cc8c022a7f2a60c986d6324030633d00036f8a881f325", func := "loop.example/g00193/laws.FnExactBeginsWith", spec := "fnExactBeginsWith", apart := false, narrowed := true }
def FnExactBeginsWithUptoSaid : Prop := fnExactBeginsWithUptoRow.holds Try.pinned (OpenSpec.upto fnExactBeginsWithSpec)

/-- 'laws.FnExactIsFresh', WHERE WHAT IT READS IS OF BULK AT MOST 1048576: true; the input reads as it did. -/
def fnExactIsFreshUptoRow : OpenClaim := { program := "ytlgcekphoamcnaa", sum := "4248e76db4d58fc3470cc8c022a7f2a60c986d6324030633d00036f8a881f325", func := "loop.example/g00193/laws.FnExactIsFresh", spec := "fnExactIsFresh", apart := false, narrowed := true }
def FnExactIsFreshUptoSaid : Prop := fnExactIsFreshUptoRow.holds Try.pinned (OpenSpec.upto fnExactIsFreshSpec)

/-- 'laws.FnExactTrieNew', WHERE WHAT IT READS IS OF BULK AT MOST 1048576: true; the input reads as it did. -/
def fnExactTrieNewUptoRow : OpenClaim := { program := "ytlgcekphoamcnaa", sum := "4248e76db4d58fc3470cc8c022a7f2a60c986d6324030633d00036f8a881f325", func := "loop.example/g00193/laws.FnExactTrieNew", spec := "fnExactTrieNew", apart := false, narrowed := true }
def FnExactTrieNewUptoSaid : Prop := fnExactTrieNewUptoRow.holds Try.pinned (OpenSpec.upto fnExactTrieNewSpec)

/-- 'laws.FnTries', WHERE WHAT IT READS IS OF BULK AT MOST 1048576: true; the input reads as it did. -/
def fnTriesUptoRow : OpenClaim := { program := "ytlgcekphoamcnaa", sum := "4248e76db4d58fc3470cc8c022a7f2a60c986d6324030633d00036f8a881f325", func := "loop.example/g00193/laws.FnTries", spec := "fnTries", apart := false, narrowed := true }
def FnTriesUptoSaid : Prop := fnTriesUptoRow.holds Try.pinned (OpenSpec.upto fnTriesSpec)

/-- 'laws.FnExactPacketOk', WHERE WHAT IT READS IS OF BULK AT MOST 1048576: true; the input reads as it did. -/
def fnExactPacketOkUptoRow : OpenClaim := { program := "ytlgcekphoamcnaa", sum := "4248e76db4d58fc3470cc8c022a7f2a60c986d6324030633d00036f8a881f325", func := "loop.example/g00193/laws.FnExactPacketOk", spec := "fnExactPacketOk", apart := false, narrowed := true }
def FnExactPacketOkUptoSaid : Prop := fnExactPacketOkUptoRow.holds Try.pinned (OpenSpec.upto fnExactPacketOkSpec)

/-- 'laws.FnExactSlotOk', WHERE WHAT IT READS IS OF BULK AT MOST 1048576: true; the input reads as it did. -/
def fnExactSlotOkUptoRow : OpenClaim := { program := "ytlgcekphoamcnaa", sum := "4248e76db4d58fc3470cc8c022a7f2a60c986d6324030633d00036f8a881f325", func := "loop.example/g00193/laws.FnExactSlotOk", spec := "fnExactSlotOk", apart := false, narrowed := true }
def FnExactSlotOkUptoSaid : Prop := fnExactSlotOkUptoRow.holds Try.pinned (OpenSpec.upto fnExactSlotOkSpec)

/-- 'laws.FnExactSpent', WHERE WHAT IT READS IS OF BULK AT MOST 1048576: true; the input reads as it did. -/
def fnExactSpentUptoRow : OpenClaim := { program := "ytlgcekphoamcnaa", sum := "4248e76db4d58fc3470cc8c022a7f2a60c986d6324030633d00036f8a881f325", func := "loop.example/g00193/laws.FnExactSpent", spec := "fnExactSpent", apart := false, narrowed := true }
def FnExactSpentUptoSaid : Prop := fnExactSpentUptoRow.holds Try.pinned (OpenSpec.upto fnExactSpentSpec)

/-- 'laws.FnExactOptionsOk', WHERE WHAT IT READS IS OF BULK AT MOST 1048576: true; the input reads as it did. -/
def fnExactOptionsOkUptoRow : OpenClaim := { program := "ytlgcekphoamcnaa", sum := "4248e76db4d58fc3470cc8c022a7f2a60c986d6324030633d00036f8a881f325", func := "loop.example/g00193/laws.FnExactOptionsOk", spec := "fnExactOptionsOk", apart := false, narrowed := true }
def FnExactOptionsOkUptoSaid : Prop := fnExactOptionsOkUptoRow.holds Try.pinned (OpenSpec.upto fnExactOptionsOkSpec)

/-- 'laws.FnExactTrieOk', WHERE WHAT IT READS IS OF BULK AT MOST 1048576: true; the input reads as it did. -/
def fnExactTrieOkUptoRow : OpenClaim := { program := "ytlgcekphoamcnaa", sum := "4248e76db4d58fc3470cc8c022a7f2a60c986d6324030633d00036f8a881f325", func := "loop.example/g00193/laws.FnExactTrieOk", spec := "fnExactTrieOk", apart := false, narrowed := true }
def FnExactTrieOkUptoSaid : Prop := fnExactTrieOkUptoRow.holds Try.pinned (OpenSpec.upto fnExactTrieOkSpec)

end Rows
end Go.Proofs.Ytlgcekphoamcnaa
