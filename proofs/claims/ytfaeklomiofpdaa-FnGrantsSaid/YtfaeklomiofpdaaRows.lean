/-
  No cell of these rows narrows 'for every input' (looked for: loops, veiled, ifaces, maps, wideKeys, modest, calm, conditions, laid).
  DERIVED. THE GIVEN ROWS OF THIS SEAT. 9 by the template 'for every input the law returns true; each argument reads behind the call as it read before'; 0 by the template 'total and deterministic' (their statements: YtfaeklomiofpdaaTotals.lean).
  GIVEN WITH THE SEED: the statements are not yours to turn. If you find one false, say at which input.
  Laid BY PROGRAM, IN A SANDBOX (cutbox-rows.mjs): the forced cells as the released guide's own fill.sh prints them over the translation 1a6e09a900f9d5a0… (all of the seat's roots in one cut). By AI agents, Wed Nov 11 2026. No macro, syntax, notation, axiom, sorry.
-/
import Derived.Test.YtfaeklomiofpdaaChecked
import GoSem.Claim
import GoSem.ClaimJoined
import GoSem.ClaimMapViews
import Derived.JoinedTies
import Derived.KernelRfl
namespace Go.Proofs.Ytfaeklomiofpdaa
/- THE CELL 'sum', in the pinned program and in every row, IS THE sha256 OF THE DUMP (.gsa) THAT YtfaeklomiofpdaaProg.lean LOADS. Nothing in Lean hashes anything: it is a label: what it is worth is what the hold of that sum in a sandbox is worth. -/
noncomputable def Try.pinned : Pinned := { name := "ytfaeklomiofpdaa", sum := "1a6e09a900f9d5a07b708b911590aa87ef4960748e874446ef45d8a4d15f7ed1", checked := Try.checked }
namespace Rows
def none {H : Type} : Left H := { results := [], args := [] }

/-- 'laws.FnRoutes': WHATEVER THE INPUT: true; the input reads as it did. -/
def fnRoutesSpec : ChangeSpec := { name := "fnRoutes", fn := fun _ => fun
  | [d] => { results := [.lit (.bool true)], args := [d] }
  | _ => none }
def fnRoutesRow : OpenClaim := { program := "ytfaeklomiofpdaa", sum := "1a6e09a900f9d5a07b708b911590aa87ef4960748e874446ef45d8a4d15f7ed1", func := "loop.example/g00193/laws.FnRoutes", spec := "fnRoutes", inPlace := ["slices.overlaps[loop.example/g00193/impl.Route]"], unfollowed := true, recurses := true, apart := false }
def FnRoutesSaid : Prop := fnRoutesRow.holds Try.pinned (OpenSpec.ofChange fnRoutesSpec)

/-- ITS FALSE NEIGHBOUR: 'it returns false'. Refute it at one input. -/
def fnRoutesWrong : ChangeSpec := { name := "fnRoutes", fn := fun _ => fun
  | [d] => { results := [.lit (.bool false)], args := [d] }
  | _ => none }
def FnRoutesWrongFalsely : Prop := fnRoutesRow.holds Try.pinned (OpenSpec.ofChange fnRoutesWrong)

/-- 'laws.FnExactExpire': WHATEVER THE INPUT: true; the input reads as it did. -/
def fnExactExpireSpec : ChangeSpec := { name := "fnExactExpire", fn := fun _ => fun
  | [d1, d2] => { results := [.lit (.bool true)], args := [d1, d2] }
  | _ => none }
def fnExactExpireRow : OpenClaim := { program := "ytfaeklomiofpdaa", sum := "1a6e09a900f9d5a07b708b911590aa87ef4960748e874446ef45d8a4d15f7ed1", func := "loop.example/g00193/laws.FnExactExpire", spec := "fnExactExpire", apart := false }
def FnExactExpireSaid : Prop := fnExactExpireRow.holds Try.pinned (OpenSpec.ofChange fnExactExpireSpec)

/-- ITS FALSE NEIGHBOUR: 'it returns false'. Refute it at one input. -/
def fnExactExpireWrong : ChangeSpec := { name := "fnExactExpire", fn := fun _ => fun
  | [d1, d2] => { results := [.lit (.bool false)], args := [d1, d2] }
  | _ => none }
def FnExactExpireWrongFalsely : Prop := fnExactExpireRow.holds Try.pinned (OpenSpec.ofChange fnExactExpireWrong)

/-- 'laws.FnExpires': WHATEVER THE INPUT: true; the input reads as it did. -/
def fnExpiresSpec : ChangeSpec := { name := "fnExpires", fn := fun _ => fun
  | [d] => { results := [.lit (.bool true)], args := [d] }
  | _ => none }
def fnExpiresRow : OpenClaim := { program := "ytfaeklomiofpdaa", sum := "1a6e09a900f9d5a07b708b911590aa87ef4960748e874446ef45d8a4d15f7ed1", func := "loop.example/g00193/laws.FnExpires", spec := "fnExpires", unfollowed := true, recurses := true, apart := false }
def FnExpiresSaid : Prop := fnExpiresRow.holds Try.pinned (OpenSpec.ofChange fnExpiresSpec)

/-- ITS FALSE NEIGHBOUR: 'it returns false'. Refute it at one input. -/
def fnExpiresWrong : ChangeSpec := { name := "fnExpires", fn := fun _ => fun
  | [d] => { results := [.lit (.bool false)], args := [d] }
  | _ => none }
def FnExpiresWrongFalsely : Prop := fnExpiresRow.holds Try.pinned (OpenSpec.ofChange fnExpiresWrong)

/-- 'laws.FnExactRelease': WHATEVER THE INPUT: true; the input reads as it did. -/
def fnExactReleaseSpec : ChangeSpec := { name := "fnExactRelease", fn := fun _ => fun
  | [d1, d2] => { results := [.lit (.bool true)], args := [d1, d2] }
  | _ => none }
def fnExactReleaseRow : OpenClaim := { program := "ytfaeklomiofpdaa", sum := "1a6e09a900f9d5a07b708b911590aa87ef4960748e874446ef45d8a4d15f7ed1", func := "loop.example/g00193/laws.FnExactRelease", spec := "fnExactRelease", unfollowed := true, recurses := true, apart := false }
def FnExactReleaseSaid : Prop := fnExactReleaseRow.holds Try.pinned (OpenSpec.ofChange fnExactReleaseSpec)

/-- ITS FALSE NEIGHBOUR: 'it returns false'. Refute it at one input. -/
def fnExactReleaseWrong : ChangeSpec := { name := "fnExactRelease", fn := fun _ => fun
  | [d1, d2] => { results := [.lit (.bool false)], args := [d1, d2] }
  | _ => none }
def FnExactReleaseWrongFalsely : Prop := fnExactReleaseRow.holds Try.pinned (OpenSpec.ofChange fnExactReleaseWrong)

/-- 'laws.FnGrants': WHATEVER THE INPUT: true; the input reads as it did. -/
def fnGrantsSpec : ChangeSpec := { name := "fnGrants", fn := fun _ => fun
  | [d] => { results := [.lit (.bool true)], args := [d] }
  | _ => none }
def fnGrantsRow : OpenClaim := { program := "ytfaeklomiofpdaa", sum := "1a6e09a900f9d5a07b708b911590aa87ef4960748e874446ef45d8a4d15f7ed1", func := "loop.example/g00193/laws.FnGrants", spec := "fnGrants", inPlace := ["slices.overlaps[loop.example/g00193/impl.Lease]"], unfollowed := true, recurses := true, apart := false }
def FnGrantsSaid : Prop := fnGrantsRow.holds Try.pinned (OpenSpec.ofChange fnGrantsSpec)

/-- ITS FALSE NEIGHBOUR: 'it returns false'. Refute it at one input. -/
def fnGrantsWrong : ChangeSpec := { name := "fnGrants", fn := fun _ => fun
  | [d] => { results := [.lit (.bool false)], args := [d] }
  | _ => none }
def FnGrantsWrongFalsely : Prop := fnGrantsRow.holds Try.pinned (OpenSpec.ofChange fnGrantsWrong)

/-- 'laws.FnExactGrant': WHATEVER THE INPUT: true; the input reads as it did. -/
def fnExactGrantSpec : ChangeSpec := { name := "fnExactGrant", fn := fun _ => fun
  | [d1, d2, d3] => { results := [.lit (.bool true)], args := [d1, d2, d3] }
  | _ => none }
def fnExactGrantRow : OpenClaim := { program := "ytfaeklomiofpdaa", sum := "1a6e09a900f9d5a07b708b911590aa87ef4960748e874446ef45d8a4d15f7ed1", func := "loop.example/g00193/laws.FnExactGrant", spec := "fnExactGrant", inPlace := ["slices.overlaps[loop.example/g00193/impl.Lease]"], unfollowed := true, recurses := true, apart := false }
def FnExactGrantSaid : Prop := fnExactGrantRow.holds Try.pinned (OpenSpec.ofChange fnExactGrantSpec)

/-- ITS FALSE NEIGHBOUR: 'it returns false'. Refute it at one input. -/
def fnExactGrantWrong : ChangeSpec := { name := "fnExactGrant", fn := fun _ => fun
  | [d1, d2, d3] => { results := [.lit (.bool false)], args := [d1, d2, d3] }
  | _ => none }
def FnExactGrantWrongFalsely : Prop := fnExactGrantRow.holds Try.pinned (OpenSpec.ofChange fnExactGrantWrong)

/-- 'laws.FnExactSlotsOk': WHATEVER THE INPUT: true; the input reads as it did. -/
def fnExactSlotsOkSpec : ChangeSpec := { name := "fnExactSlotsOk", fn := fun _ => fun
  | [d] => { results := [.lit (.bool true)], args := [d] }
  | _ => none }
def fnExactSlotsOkRow : OpenClaim := { program := "ytfaeklomiofpdaa", sum := "1a6e09a900f9d5a07b708b911590aa87ef4960748e874446ef45d8a4d15f7ed1", func := "loop.example/g00193/laws.FnExactSlotsOk", spec := "fnExactSlotsOk", apart := false }
def FnExactSlotsOkSaid : Prop := fnExactSlotsOkRow.holds Try.pinned (OpenSpec.ofChange fnExactSlotsOkSpec)

/-- ITS FALSE NEIGHBOUR: 'it returns false'. Refute it at one input. -/
def fnExactSlotsOkWrong : ChangeSpec := { name := "fnExactSlotsOk", fn := fun _ => fun
  | [d] => { results := [.lit (.bool false)], args := [d] }
  | _ => none }
def FnExactSlotsOkWrongFalsely : Prop := fnExactSlotsOkRow.holds Try.pinned (OpenSpec.ofChange fnExactSlotsOkWrong)

/-- 'laws.FnExactTidySlots': WHATEVER THE INPUT: true; the input reads as it did. -/
def fnExactTidySlotsSpec : ChangeSpec := { name := "fnExactTidySlots", fn := fun _ => fun
  | [d1, d2] => { results := [.lit (.bool true)], args := [d1, d2] }
  | _ => none }
def fnExactTidySlotsRow : OpenClaim := { program := "ytfaeklomiofpdaa", sum := "1a6e09a900f9d5a07b708b911590aa87ef4960748e874446ef45d8a4d15f7ed1", func := "loop.example/g00193/laws.FnExactTidySlots", spec := "fnExactTidySlots", apart := false }
def FnExactTidySlotsSaid : Prop := fnExactTidySlotsRow.holds Try.pinned (OpenSpec.ofChange fnExactTidySlotsSpec)

/-- ITS FALSE NEIGHBOUR: 'it returns false'. Refute it at one input. -/
def fnExactTidySlotsWrong : ChangeSpec := { name := "fnExactTidySlots", fn := fun _ => fun
  | [d1, d2] => { results := [.lit (.bool false)], args := [d1, d2] }
  | _ => none }
def FnExactTidySlotsWrongFalsely : Prop := fnExactTidySlotsRow.holds Try.pinned (OpenSpec.ofChange fnExactTidySlotsWrong)

/-- 'laws.FnExactAgree': WHATEVER THE INPUT: true; the input reads as it did. -/
def fnExactAgreeSpec : ChangeSpec := { name := "fnExactAgree", fn := fun _ => fun
  | [d1, d2] => { results := [.lit (.bool true)], args := [d1, d2] }
  | _ => none }
def fnExactAgreeRow : OpenClaim := { program := "ytfaeklomiofpdaa", sum := "1a6e09a900f9d5a07b708b911590aa87ef4960748e874446ef45d8a4d15f7ed1", func := "loop.example/g00193/laws.FnExactAgree", spec := "fnExactAgree", apart := false }
def FnExactAgreeSaid : Prop := fnExactAgreeRow.holds Try.pinned (OpenSpec.ofChange fnExactAgreeSpec)

/-- ITS FALSE NEIGHBOUR: 'it returns false'. Refute it at one input. -/
def fnExactAgreeWrong : ChangeSpec := { name := "fnExactAgree", fn := fun _ => fun
  | [d1, d2] => { results := [.lit (.bool false)], args := [d1, d2] }
  | _ => none }
def FnExactAgreeWrongFalsely : Prop := fnExactAgreeRow.holds Try.pinned (OpenSpec.ofChange fnExactAgreeWrong)

/- THE SECOND FORM. 'bulk': how many values and letters a reading holds, each counted each time it is reached (what is shared counts as often as it is met; a slice's spare places count too). A statement '..UptoSaid' is the law's where the arguments, and the package variables that the reading takes, are together of bulk at most 1048576: NARROWER than '..Said'. Prove '..Said' where nothing that the law and all that it calls make is longer than what came in: it says more and counts as full. Else prove '..UptoSaid'. A law counts once. -/
mutual
def uptoBulk {H : Type} : DataW H → Nat
  | .lit (.string bytes) => bytes.length + 1
  | .lit _ => 1
  | .nil => 1
  | .ptr d => uptoBulk d + 1
  | .slice elems spare => uptoBulkAll elems + uptoBulkAll spare + 1
  | .agg parts => uptoBulkAll parts + 1
  | .iface _ d => uptoBulk d + 1
  | .map entries => uptoBulkEntries entries + 1
  | .held _ => 1
def uptoBulkAll {H : Type} : List (DataW H) → Nat
  | [] => 0
  | d :: r => uptoBulk d + uptoBulkAll r
def uptoBulkEntries {H : Type} : List (Lit × DataW H) → Nat
  | [] => 0
  | x :: r => uptoBulkEntry x + uptoBulkEntries r
def uptoBulkEntry {H : Type} : Lit × DataW H → Nat
  | (.string bytes, d) => bytes.length + uptoBulk d + 1
  | (_, d) => uptoBulk d + 1
 end
def uptoSmall : (H : Type) → List (DataW H) → Bool := fun _ ds => decide (uptoBulkAll ds ≤ 1048576)
def OpenSpec.upto (s : _root_.Go.ChangeSpec) : _root_.Go.OpenSpec := { _root_.Go.OpenSpec.ofChange s with cond := some uptoSmall }

/-- 'laws.FnRoutes', WHERE WHAT IT READS IS OF BULK AT MOST 1048576: true; the input reads as it did. -/
def fnRoutesUptoRow : OpenClaim := { program := "ytfaeklomiofpdaa", sum := "1a6e09a900f9d5a07b708b911590aa87ef4960748e874446ef45d8a4d15f7ed1", func := "loop.example/g00193/laws.FnRoutes", spec := "fnRoutes", inPlace := ["slices.overlaps[loop.example/g00193/impl.Route]"], unfollowed := true, recurses := true, apart := false, narrowed := true }
def FnRoutesUptoSaid : Prop := fnRoutesUptoRow.holds Try.pinned (OpenSpec.upto fnRoutesSpec)

/-- 'laws.FnExactExpire', WHERE WHAT IT READS IS OF BULK AT MOST 1048576: true; the input reads as it did. -/
def fnExactExpireUptoRow : OpenClaim := { program := "ytfaeklomiofpdaa", sum := "1a6e09a900f9d5a07b708b911590aa87ef4960748e874446ef45d8a4d15f7ed1", func := "loop.example/g00193/laws.FnExactExpire", spec := "fnExactExpire", apart := false, narrowed := true }
def FnExactExpireUptoSaid : Prop := fnExactExpireUptoRow.holds Try.pinned (OpenSpec.upto fnExactExpireSpec)

/-- 'laws.FnExpires', WHERE WHAT IT READS IS OF BULK AT MOST 1048576: true; the input reads as it did. -/
def fnExpiresUptoRow : OpenClaim := { program := "ytfaeklomiofpdaa", sum := "1a6e09a900f9d5a07b708b911590aa87ef4960748e874446ef45d8a4d15f7ed1", func := "loop.example/g00193/laws.FnExpires", spec := "fnExpires", unfollowed := true, recurses := true, apart := false, narrowed := true }
def FnExpiresUptoSaid : Prop := fnExpiresUptoRow.holds Try.pinned (OpenSpec.upto fnExpiresSpec)

/-- 'laws.FnExactRelease', WHERE WHAT IT READS IS OF BULK AT MOST 1048576: true; the input reads as it did. -/
def fnExactReleaseUptoRow : OpenClaim := { program := "ytfaeklomiofpdaa", sum := "1a6e09a900f9d5a07b708b911590aa87ef4960748e874446ef45d8a4d15f7ed1", func := "loop.example/g00193/laws.FnExactRelease", spec := "fnExactRelease", unfollowed := true, recurses := true, apart := false, narrowed := true }
def FnExactReleaseUptoSaid : Prop := fnExactReleaseUptoRow.holds Try.pinned (OpenSpec.upto fnExactReleaseSpec)

/-- 'laws.FnGrants', WHERE WHAT IT READS IS OF BULK AT MOST 1048576: true; the input reads as it did. -/
def fnGrantsUptoRow : OpenClaim := { program := "ytfaeklomiofpdaa", sum := "1a6e09a900f9d5a07b708b911590aa87ef4960748e874446ef45d8a4d15f7ed1", func := "loop.example/g00193/laws.FnGrants", spec := "fnGrants", inPlace := ["slices.overlaps[loop.example/g00193/impl.Lease]"], unfollowed := true, recurses := true, apart := false, narrowed := true }
def FnGrantsUptoSaid : Prop := fnGrantsUptoRow.holds Try.pinned (OpenSpec.upto fnGrantsSpec)

/-- 'laws.FnExactGrant', WHERE WHAT IT READS IS OF BULK AT MOST 1048576: true; the input reads as it did. -/
def fnExactGrantUptoRow : OpenClaim := { program := "ytfaeklomiofpdaa", sum := "1a6e09a900f9d5a07b708b911590aa87ef4960748e874446ef45d8a4d15f7ed1", func := "loop.example/g00193/laws.FnExactGrant", spec := "fnExactGrant", inPlace := ["slices.overlaps[loop.example/g00193/impl.Lease]"], unfollowed := true, recurses := true, apart := false, narrowed := true }
def FnExactGrantUptoSaid : Prop := fnExactGrantUptoRow.holds Try.pinned (OpenSpec.upto fnExactGrantSpec)

/-- 'laws.FnExactSlotsOk', WHERE WHAT IT READS IS OF BULK AT MOST 1048576: true; the input reads as it did. -/
def fnExactSlotsOkUptoRow : OpenClaim := { program := "ytfaeklomiofpdaa", sum := "1a6e09a900f9d5a07b708b911590aa87ef4960748e874446ef45d8a4d15f7ed1", func := "loop.example/g00193/laws.FnExactSlotsOk", spec := "fnExactSlotsOk", apart := false, narrowed := true }
def FnExactSlotsOkUptoSaid : Prop := fnExactSlotsOkUptoRow.holds Try.pinned (OpenSpec.upto fnExactSlotsOkSpec)

/-- 'laws.FnExactTidySlots', WHERE WHAT IT READS IS OF BULK AT MOST 1048576: true; the input reads as it did. -/
def fnExactTidySlotsUptoRow : OpenClaim := { program := "ytfaeklomiofpdaa", sum := "1a6e09a900f9d5a07b708b911590aa87ef4960748e874446ef45d8a4d15f7ed1", func := "loop.example/g00193/laws.FnExactTidySlots", spec := "fnExactTidySlots", apart := false, narrowed := true }
def FnExactTidySlotsUptoSaid : Prop := fnExactTidySlotsUptoRow.holds Try.pinned (OpenSpec.upto fnExactTidySlotsSpec)

/-- 'laws.FnExactAgree', WHERE WHAT IT READS IS OF BULK AT MOST 1048576: true; the input reads as it did. -/
def fnExactAgreeUptoRow : OpenClaim := { program := "ytfaeklomiofpdaa", sum := "1a6e09a900f9d5a07b708b911590aa87ef4960748e874446ef45d8a4d15f7ed1", func := "loop.example/g00193/laws.FnExactAgree", spec := "fnExactAgree", apart := false, narrowed := true }
def FnExactAgreeUptoSaid : Prop := fnExactAgreeUptoRow.holds Try.pinned (OpenSpec.upto fnExactAgreeSpec)

end Rows
end Go.Proofs.Ytfaeklomiofpdaa
