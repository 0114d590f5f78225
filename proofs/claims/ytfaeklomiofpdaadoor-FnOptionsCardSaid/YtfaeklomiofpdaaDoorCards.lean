/-
  DERIVED. GIVEN WITH THE SEED: THE CARDS: each row of YtfaeklomiofpdaaDoorRows.lean that lists a variable, with what it lists TIED to the program's text (the seventh form; the later family's looks); each row that meets fmt, with fmt's text TOLD by the authors' own Lean function (tested against real Go, not proved from fmt's source: count such statements apart). THE CARD IS WHAT COUNTS. Prove the row's statement (the work); the ties are given (YtfaeklomiofpdaaDoorTie.lean); close each card by the builder's one call (the guide's Derived/Test/ToyasCard.lean, 'card_holds'). Laid BY PROGRAM, IN A SANDBOX (cutbox-door.mjs). By AI agents, Wed Nov 11 2026. No macro, syntax, notation, axiom, sorry.
-/
import Derived.Test.YtfaeklomiofpdaaDoorRows
import GoSem.ClaimSeven
namespace Go.Proofs.YtfaeklomiofpdaaDoor
namespace Rows

/-- THE TIED CARD OF 'laws.FnExactOptionText'. -/
def fnExactOptionTextCard : Claim7 := { stood := { row := fnExactOptionTextRow, standIns := [], harness := (true, "c2142df6b7c167e01fc4f89602e7cbeb7cf97271e7afb840eaec1147b9dc60f5"), looks := true }, kinds := [], alts := [], laidByText := true, laidKinds := [.data, .data, .data], laidTests := true, laidLooks := .later }
def FnExactOptionTextCardSaid : Prop := Claim7.holds Tryd.pinned (.plain (OpenSpec.ofChange fnExactOptionTextSpec)) fnExactOptionTextCard

/-- THE TIED CARD OF 'laws.FnExactReadOption'. -/
def fnExactReadOptionCard : Claim7 := { stood := { row := fnExactReadOptionRow, standIns := [], harness := (true, "c2142df6b7c167e01fc4f89602e7cbeb7cf97271e7afb840eaec1147b9dc60f5"), looks := true }, kinds := [], alts := [], laidByText := true, laidKinds := [.data, .data, .data, .data, .sentinel, .sentinel, .pinned], laidTests := true, laidLooks := .later }
def FnExactReadOptionCardSaid : Prop := Claim7.holds Tryd.pinned (.plain (OpenSpec.ofChange fnExactReadOptionSpec)) fnExactReadOptionCard

/-- THE TIED CARD OF 'laws.FnOptions'. -/
def fnOptionsCard : Claim7 := { stood := { row := fnOptionsRow, standIns := [], harness := (true, "c2142df6b7c167e01fc4f89602e7cbeb7cf97271e7afb840eaec1147b9dc60f5"), looks := true }, kinds := [], alts := [], laidByText := true, laidKinds := [.data, .data, .data, .data, .sentinel, .sentinel, .pinned], laidTests := true, laidLooks := .later }
def FnOptionsCardSaid : Prop := Claim7.holds Tryd.pinned (.plain (OpenSpec.ofChange fnOptionsSpec)) fnOptionsCard

/-- THE SECOND FORM's CARD OF 'laws.FnExactOptionText'. -/
def fnExactOptionTextUptoCard : Claim7 := { stood := { row := fnExactOptionTextUptoRow, standIns := [], harness := (true, "c2142df6b7c167e01fc4f89602e7cbeb7cf97271e7afb840eaec1147b9dc60f5"), looks := true }, kinds := [], alts := [], laidByText := true, laidKinds := [.data, .data, .data], laidTests := true, laidLooks := .later }
def FnExactOptionTextUptoCardSaid : Prop := Claim7.holds Tryd.pinned (.plain (OpenSpec.upto fnExactOptionTextSpec)) fnExactOptionTextUptoCard

/-- THE SECOND FORM's CARD OF 'laws.FnExactReadOption'. -/
def fnExactReadOptionUptoCard : Claim7 := { stood := { row := fnExactReadOptionUptoRow, standIns := [], harness := (true, "c2142df6b7c167e01fc4f89602e7cbeb7cf97271e7afb840eaec1147b9dc60f5"), looks := true }, kinds := [], alts := [], laidByText := true, laidKinds := [.data, .data, .data, .data, .sentinel, .sentinel, .pinned], laidTests := true, laidLooks := .later }
def FnExactReadOptionUptoCardSaid : Prop := Claim7.holds Tryd.pinned (.plain (OpenSpec.upto fnExactReadOptionSpec)) fnExactReadOptionUptoCard

/-- THE SECOND FORM's CARD OF 'laws.FnOptions'. -/
def fnOptionsUptoCard : Claim7 := { stood := { row := fnOptionsUptoRow, standIns := [], harness := (true, "c2142df6b7c167e01fc4f89602e7cbeb7cf97271e7afb840eaec1147b9dc60f5"), looks := true }, kinds := [], alts := [], laidByText := true, laidKinds := [.data, .data, .data, .data, .sentinel, .sentinel, .pinned], laidTests := true, laidLooks := .later }
def FnOptionsUptoCardSaid : Prop := Claim7.holds Tryd.pinned (.plain (OpenSpec.upto fnOptionsSpec)) fnOptionsUptoCard
end Rows
end Go.Proofs.YtfaeklomiofpdaaDoor
