/-
  DERIVED. GIVEN WITH THE SEED: THE CARDS: each row of YtpheniajdbbphaaDoorRows.lean that lists a variable, with what it lists TIED to the program's text (the seventh form; the later family's looks); each row that meets fmt, with fmt's text TOLD by the authors' own Lean function (tested against real Go, not proved from fmt's source: count such statements apart). THE CARD IS WHAT COUNTS. Prove the row's statement (the work); the ties are given (YtpheniajdbbphaaDoorTie.lean); close each card by the builder's one call (the guide's Derived/Test/ToyasCard.lean, 'card_holds'). Laid BY PROGRAM, IN A SANDBOX (cutbox-door.mjs). By AI agents, Wed Nov 11 2026. No macro, syntax, notation, axiom, sorry.
-/
import Derived.Test.YtpheniajdbbphaaDoorRows
import GoSem.ClaimSeven
namespace Go.Proofs.YtpheniajdbbphaaDoor
namespace Rows

/-- THE TIED CARD OF 'laws.FnAddrs'. -/
def fnAddrsCard : Claim7 := { stood := { row := fnAddrsRow, standIns := [], harness := (true, "cc20385739e8c6922829f945489e780580f58114a1eaef0be631c54ed61d2468"), looks := true }, kinds := [], alts := [], laidByText := true, laidKinds := [.data, .data, .data, .data, .sentinel, .sentinel, .pinned], laidTests := true, laidLooks := .later }
def FnAddrsCardSaid : Prop := Claim7.holds Tryd.pinned (.plain (OpenSpec.ofChange fnAddrsSpec)) fnAddrsCard

/-- THE TIED CARD OF 'laws.FnExactReadPrefix'. -/
def fnExactReadPrefixCard : Claim7 := { stood := { row := fnExactReadPrefixRow, standIns := [], harness := (true, "cc20385739e8c6922829f945489e780580f58114a1eaef0be631c54ed61d2468"), looks := true }, kinds := [], alts := [], laidByText := true, laidKinds := [.data, .data, .data, .data, .sentinel, .sentinel, .pinned], laidTests := true, laidLooks := .later }
def FnExactReadPrefixCardSaid : Prop := Claim7.holds Tryd.pinned (.plain (OpenSpec.ofChange fnExactReadPrefixSpec)) fnExactReadPrefixCard

/-- THE TIED CARD OF 'laws.FnAddrReads'. -/
def fnAddrReadsCard : Claim7 := { stood := { row := fnAddrReadsRow, standIns := [], harness := (true, "cc20385739e8c6922829f945489e780580f58114a1eaef0be631c54ed61d2468"), looks := true }, kinds := [], alts := [], laidByText := true, laidKinds := [.data, .data, .data, .data, .sentinel, .sentinel, .pinned], laidTests := true, laidLooks := .later }
def FnAddrReadsCardSaid : Prop := Claim7.holds Tryd.pinned (.plain (OpenSpec.ofChange fnAddrReadsSpec)) fnAddrReadsCard

/-- THE SECOND FORM's CARD OF 'laws.FnAddrs'. -/
def fnAddrsUptoCard : Claim7 := { stood := { row := fnAddrsUptoRow, standIns := [], harness := (true, "cc20385739e8c6922829f945489e780580f58114a1eaef0be631c54ed61d2468"), looks := true }, kinds := [], alts := [], laidByText := true, laidKinds := [.data, .data, .data, .data, .sentinel, .sentinel, .pinned], laidTests := true, laidLooks := .later }
def FnAddrsUptoCardSaid : Prop := Claim7.holds Tryd.pinned (.plain (OpenSpec.upto fnAddrsSpec)) fnAddrsUptoCard

/-- THE SECOND FORM's CARD OF 'laws.FnExactReadPrefix'. -/
def fnExactReadPrefixUptoCard : Claim7 := { stood := { row := fnExactReadPrefixUptoRow, standIns := [], harness := (true, "cc20385739e8c6922829f945489e780580f58114a1eaef0be631c54ed61d2468"), looks := true }, kinds := [], alts := [], laidByText := true, laidKinds := [.data, .data, .data, .data, .sentinel, .sentinel, .pinned], laidTests := true, laidLooks := .later }
def FnExactReadPrefixUptoCardSaid : Prop := Claim7.holds Tryd.pinned (.plain (OpenSpec.upto fnExactReadPrefixSpec)) fnExactReadPrefixUptoCard

/-- THE SECOND FORM's CARD OF 'laws.FnAddrReads'. -/
def fnAddrReadsUptoCard : Claim7 := { stood := { row := fnAddrReadsUptoRow, standIns := [], harness := (true, "cc20385739e8c6922829f945489e780580f58114a1eaef0be631c54ed61d2468"), looks := true }, kinds := [], alts := [], laidByText := true, laidKinds := [.data, .data, .data, .data, .sentinel, .sentinel, .pinned], laidTests := true, laidLooks := .later }
def FnAddrReadsUptoCardSaid : Prop := Claim7.holds Tryd.pinned (.plain (OpenSpec.upto fnAddrReadsSpec)) fnAddrReadsUptoCard
end Rows
end Go.Proofs.YtpheniajdbbphaaDoor
