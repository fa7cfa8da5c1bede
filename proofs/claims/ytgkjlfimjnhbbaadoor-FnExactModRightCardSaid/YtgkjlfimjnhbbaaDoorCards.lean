/-
  DERIVED. GIVEN WITH THE SEED: THE CARDS: each row of YtgkjlfimjnhbbaaDoorRows.lean that lists a variable, with what it lists TIED to the program's text (the seventh form; the later family's looks); each row that meets fmt, with fmt's text TOLD by the authors' own Lean function (tested against real Go, not proved from fmt's source: count such statements apart). THE CARD IS WHAT COUNTS. Prove the row's statement (the work); the ties are given (YtgkjlfimjnhbbaaDoorTie.lean); close each card by the builder's one call (the guide's Derived/Test/ToyasCard.lean, 'card_holds'). Laid BY PROGRAM, IN A SANDBOX (cutbox-door.mjs). By AI agents, Wed Nov 11 2026. No macro, syntax, notation, axiom, sorry.
-/
import Derived.Test.YtgkjlfimjnhbbaaDoorRows
import GoSem.ClaimSeven
namespace Go.Proofs.YtgkjlfimjnhbbaaDoor
namespace Rows

/-- THE TIED CARD OF 'laws.FnExactModRight'. -/
def fnExactModRightCard : Claim7 := { stood := { row := fnExactModRightRow, standIns := [], harness := (true, "08f1e2cecfb041e393f06255787066c649890eb4cf1a6a2113839823e691d85f"), looks := false }, kinds := [], alts := [], laidByText := true, laidKinds := [.data, .pinned], laidTests := true, laidLooks := .later }
def FnExactModRightCardSaid : Prop := Claim7.holds Tryd.pinned (.plain (OpenSpec.ofChange fnExactModRightSpec)) fnExactModRightCard

/-- THE TIED CARD OF 'laws.FnExactSchemaRight'. -/
def fnExactSchemaRightCard : Claim7 := { stood := { row := fnExactSchemaRightRow, standIns := [], harness := (true, "08f1e2cecfb041e393f06255787066c649890eb4cf1a6a2113839823e691d85f"), looks := false }, kinds := [], alts := [], laidByText := true, laidKinds := [.data, .pinned], laidTests := true, laidLooks := .later }
def FnExactSchemaRightCardSaid : Prop := Claim7.holds Tryd.pinned (.plain (OpenSpec.ofChange fnExactSchemaRightSpec)) fnExactSchemaRightCard

/-- THE TIED CARD OF 'laws.FnExactChangesRight'. -/
def fnExactChangesRightCard : Claim7 := { stood := { row := fnExactChangesRightRow, standIns := [], harness := (true, "08f1e2cecfb041e393f06255787066c649890eb4cf1a6a2113839823e691d85f"), looks := false }, kinds := [], alts := [], laidByText := true, laidKinds := [.data, .pinned], laidTests := true, laidLooks := .later }
def FnExactChangesRightCardSaid : Prop := Claim7.holds Tryd.pinned (.plain (OpenSpec.ofChange fnExactChangesRightSpec)) fnExactChangesRightCard

/-- THE TIED CARD OF 'laws.FnExactKnown'. -/
def fnExactKnownCard : Claim7 := { stood := { row := fnExactKnownRow, standIns := [], harness := (true, "08f1e2cecfb041e393f06255787066c649890eb4cf1a6a2113839823e691d85f"), looks := false }, kinds := [], alts := [], laidByText := true, laidKinds := [.data, .pinned], laidTests := true, laidLooks := .later }
def FnExactKnownCardSaid : Prop := Claim7.holds Tryd.pinned (.plain (OpenSpec.ofChange fnExactKnownSpec)) fnExactKnownCard

/-- THE TIED CARD OF 'laws.FnExactFilterAttrs'. -/
def fnExactFilterAttrsCard : Claim7 := { stood := { row := fnExactFilterAttrsRow, standIns := [], harness := (true, "08f1e2cecfb041e393f06255787066c649890eb4cf1a6a2113839823e691d85f"), looks := false }, kinds := [], alts := [], laidByText := true, laidKinds := [.data, .pinned], laidTests := true, laidLooks := .later }
def FnExactFilterAttrsCardSaid : Prop := Claim7.holds Tryd.pinned (.plain (OpenSpec.ofChange fnExactFilterAttrsSpec)) fnExactFilterAttrsCard

/-- THE TIED CARD OF 'laws.FnExactClassOf'. -/
def fnExactClassOfCard : Claim7 := { stood := { row := fnExactClassOfRow, standIns := [], harness := (true, "08f1e2cecfb041e393f06255787066c649890eb4cf1a6a2113839823e691d85f"), looks := false }, kinds := [], alts := [], laidByText := true, laidKinds := [.data, .pinned], laidTests := true, laidLooks := .later }
def FnExactClassOfCardSaid : Prop := Claim7.holds Tryd.pinned (.plain (OpenSpec.ofChange fnExactClassOfSpec)) fnExactClassOfCard

/-- THE SECOND FORM's CARD OF 'laws.FnExactModRight'. -/
def fnExactModRightUptoCard : Claim7 := { stood := { row := fnExactModRightUptoRow, standIns := [], harness := (true, "08f1e2cecfb041e393f06255787066c649890eb4cf1a6a2113839823e691d85f"), looks := false }, kinds := [], alts := [], laidByText := true, laidKinds := [.data, .pinned], laidTests := true, laidLooks := .later }
def FnExactModRightUptoCardSaid : Prop := Claim7.holds Tryd.pinned (.plain (OpenSpec.upto fnExactModRightSpec)) fnExactModRightUptoCard

/-- THE SECOND FORM's CARD OF 'laws.FnExactSchemaRight'. -/
def fnExactSchemaRightUptoCard : Claim7 := { stood := { row := fnExactSchemaRightUptoRow, standIns := [], harness := (true, "08f1e2cecfb041e393f06255787066c649890eb4cf1a6a2113839823e691d85f"), looks := false }, kinds := [], alts := [], laidByText := true, laidKinds := [.data, .pinned], laidTests := true, laidLooks := .later }
def FnExactSchemaRightUptoCardSaid : Prop := Claim7.holds Tryd.pinned (.plain (OpenSpec.upto fnExactSchemaRightSpec)) fnExactSchemaRightUptoCard

/-- THE SECOND FORM's CARD OF 'laws.FnExactChangesRight'. -/
def fnExactChangesRightUptoCard : Claim7 := { stood := { row := fnExactChangesRightUptoRow, standIns := [], harness := (true, "08f1e2cecfb041e393f06255787066c649890eb4cf1a6a2113839823e691d85f"), looks := false }, kinds := [], alts := [], laidByText := true, laidKinds := [.data, .pinned], laidTests := true, laidLooks := .later }
def FnExactChangesRightUptoCardSaid : Prop := Claim7.holds Tryd.pinned (.plain (OpenSpec.upto fnExactChangesRightSpec)) fnExactChangesRightUptoCard

/-- THE SECOND FORM's CARD OF 'laws.FnExactKnown'. -/
def fnExactKnownUptoCard : Claim7 := { stood := { row := fnExactKnownUptoRow, standIns := [], harness := (true, "08f1e2cecfb041e393f06255787066c649890eb4cf1a6a2113839823e691d85f"), looks := false }, kinds := [], alts := [], laidByText := true, laidKinds := [.data, .pinned], laidTests := true, laidLooks := .later }
def FnExactKnownUptoCardSaid : Prop := Claim7.holds Tryd.pinned (.plain (OpenSpec.upto fnExactKnownSpec)) fnExactKnownUptoCard

/-- THE SECOND FORM's CARD OF 'laws.FnExactFilterAttrs'. -/
def fnExactFilterAttrsUptoCard : Claim7 := { stood := { row := fnExactFilterAttrsUptoRow, standIns := [], harness := (true, "08f1e2cecfb041e393f06255787066c649890eb4cf1a6a2113839823e691d85f"), looks := false }, kinds := [], alts := [], laidByText := true, laidKinds := [.data, .pinned], laidTests := true, laidLooks := .later }
def FnExactFilterAttrsUptoCardSaid : Prop := Claim7.holds Tryd.pinned (.plain (OpenSpec.upto fnExactFilterAttrsSpec)) fnExactFilterAttrsUptoCard

/-- THE SECOND FORM's CARD OF 'laws.FnExactClassOf'. -/
def fnExactClassOfUptoCard : Claim7 := { stood := { row := fnExactClassOfUptoRow, standIns := [], harness := (true, "08f1e2cecfb041e393f06255787066c649890eb4cf1a6a2113839823e691d85f"), looks := false }, kinds := [], alts := [], laidByText := true, laidKinds := [.data, .pinned], laidTests := true, laidLooks := .later }
def FnExactClassOfUptoCardSaid : Prop := Claim7.holds Tryd.pinned (.plain (OpenSpec.upto fnExactClassOfSpec)) fnExactClassOfUptoCard
end Rows
end Go.Proofs.YtgkjlfimjnhbbaaDoor
