/-
  DERIVED. GIVEN WITH THE SEED: THE CARDS: each row of YticbafilcicdjaaDoorRows.lean that lists a variable, with what it lists TIED to the program's text (the seventh form; the later family's looks); each row that meets fmt, with fmt's text TOLD by the authors' own Lean function (tested against real Go, not proved from fmt's source: count such statements apart). THE CARD IS WHAT COUNTS. Prove the row's statement (the work); the ties are given (YticbafilcicdjaaDoorTie.lean); close each card by the builder's one call (the guide's Derived/Test/ToyasCard.lean, 'card_holds'). Laid BY PROGRAM, IN A SANDBOX (cutbox-door.mjs). By AI agents, Wed Nov 11 2026. No macro, syntax, notation, axiom, sorry.
-/
import Derived.Test.YticbafilcicdjaaDoorRows
import GoSem.ClaimSeven
namespace Go.Proofs.YticbafilcicdjaaDoor
namespace Rows

/-- THE TIED CARD OF 'laws.FnExactNameRight'. -/
def fnExactNameRightCard : Claim7 := { stood := { row := fnExactNameRightRow, standIns := [], harness := (true, "fd6841432d882973c639a79c169d2718c61dccdf77add0f5fb67309164b80ffb"), looks := false }, kinds := [], alts := [], laidByText := true, laidKinds := [.data, .pinned], laidTests := true, laidLooks := .later }
def FnExactNameRightCardSaid : Prop := Claim7.holds Tryd.pinned (.plain (OpenSpec.ofChange fnExactNameRightSpec)) fnExactNameRightCard

/-- THE TIED CARD OF 'laws.FnExactDnRight'. -/
def fnExactDnRightCard : Claim7 := { stood := { row := fnExactDnRightRow, standIns := [], harness := (true, "fd6841432d882973c639a79c169d2718c61dccdf77add0f5fb67309164b80ffb"), looks := false }, kinds := [], alts := [], laidByText := true, laidKinds := [.data, .pinned], laidTests := true, laidLooks := .later }
def FnExactDnRightCardSaid : Prop := Claim7.holds Tryd.pinned (.plain (OpenSpec.ofChange fnExactDnRightSpec)) fnExactDnRightCard

/-- THE TIED CARD OF 'laws.FnExactDnKey'. -/
def fnExactDnKeyCard : Claim7 := { stood := { row := fnExactDnKeyRow, standIns := [], harness := (true, "fd6841432d882973c639a79c169d2718c61dccdf77add0f5fb67309164b80ffb"), looks := false }, kinds := [], alts := [], laidByText := true, laidKinds := [.data, .pinned], laidTests := true, laidLooks := .later }
def FnExactDnKeyCardSaid : Prop := Claim7.holds Tryd.pinned (.plain (OpenSpec.ofChange fnExactDnKeySpec)) fnExactDnKeyCard

/-- THE TIED CARD OF 'laws.FnExactDnSame'. -/
def fnExactDnSameCard : Claim7 := { stood := { row := fnExactDnSameRow, standIns := [], harness := (true, "fd6841432d882973c639a79c169d2718c61dccdf77add0f5fb67309164b80ffb"), looks := false }, kinds := [], alts := [], laidByText := true, laidKinds := [.data, .pinned], laidTests := true, laidLooks := .later }
def FnExactDnSameCardSaid : Prop := Claim7.holds Tryd.pinned (.plain (OpenSpec.ofChange fnExactDnSameSpec)) fnExactDnSameCard

/-- THE TIED CARD OF 'laws.FnExactDnUnder'. -/
def fnExactDnUnderCard : Claim7 := { stood := { row := fnExactDnUnderRow, standIns := [], harness := (true, "fd6841432d882973c639a79c169d2718c61dccdf77add0f5fb67309164b80ffb"), looks := false }, kinds := [], alts := [], laidByText := true, laidKinds := [.data, .pinned], laidTests := true, laidLooks := .later }
def FnExactDnUnderCardSaid : Prop := Claim7.holds Tryd.pinned (.plain (OpenSpec.ofChange fnExactDnUnderSpec)) fnExactDnUnderCard

/-- THE TIED CARD OF 'laws.FnExactDnParent'. -/
def fnExactDnParentCard : Claim7 := { stood := { row := fnExactDnParentRow, standIns := [], harness := (true, "fd6841432d882973c639a79c169d2718c61dccdf77add0f5fb67309164b80ffb"), looks := false }, kinds := [], alts := [], laidByText := true, laidKinds := [.data, .pinned], laidTests := true, laidLooks := .later }
def FnExactDnParentCardSaid : Prop := Claim7.holds Tryd.pinned (.plain (OpenSpec.ofChange fnExactDnParentSpec)) fnExactDnParentCard

/-- THE SECOND FORM's CARD OF 'laws.FnExactNameRight'. -/
def fnExactNameRightUptoCard : Claim7 := { stood := { row := fnExactNameRightUptoRow, standIns := [], harness := (true, "fd6841432d882973c639a79c169d2718c61dccdf77add0f5fb67309164b80ffb"), looks := false }, kinds := [], alts := [], laidByText := true, laidKinds := [.data, .pinned], laidTests := true, laidLooks := .later }
def FnExactNameRightUptoCardSaid : Prop := Claim7.holds Tryd.pinned (.plain (OpenSpec.upto fnExactNameRightSpec)) fnExactNameRightUptoCard

/-- THE SECOND FORM's CARD OF 'laws.FnExactDnRight'. -/
def fnExactDnRightUptoCard : Claim7 := { stood := { row := fnExactDnRightUptoRow, standIns := [], harness := (true, "fd6841432d882973c639a79c169d2718c61dccdf77add0f5fb67309164b80ffb"), looks := false }, kinds := [], alts := [], laidByText := true, laidKinds := [.data, .pinned], laidTests := true, laidLooks := .later }
def FnExactDnRightUptoCardSaid : Prop := Claim7.holds Tryd.pinned (.plain (OpenSpec.upto fnExactDnRightSpec)) fnExactDnRightUptoCard

/-- THE SECOND FORM's CARD OF 'laws.FnExactDnKey'. -/
def fnExactDnKeyUptoCard : Claim7 := { stood := { row := fnExactDnKeyUptoRow, standIns := [], harness := (true, "fd6841432d882973c639a79c169d2718c61dccdf77add0f5fb67309164b80ffb"), looks := false }, kinds := [], alts := [], laidByText := true, laidKinds := [.data, .pinned], laidTests := true, laidLooks := .later }
def FnExactDnKeyUptoCardSaid : Prop := Claim7.holds Tryd.pinned (.plain (OpenSpec.upto fnExactDnKeySpec)) fnExactDnKeyUptoCard

/-- THE SECOND FORM's CARD OF 'laws.FnExactDnSame'. -/
def fnExactDnSameUptoCard : Claim7 := { stood := { row := fnExactDnSameUptoRow, standIns := [], harness := (true, "fd6841432d882973c639a79c169d2718c61dccdf77add0f5fb67309164b80ffb"), looks := false }, kinds := [], alts := [], laidByText := true, laidKinds := [.data, .pinned], laidTests := true, laidLooks := .later }
def FnExactDnSameUptoCardSaid : Prop := Claim7.holds Tryd.pinned (.plain (OpenSpec.upto fnExactDnSameSpec)) fnExactDnSameUptoCard

/-- THE SECOND FORM's CARD OF 'laws.FnExactDnUnder'. -/
def fnExactDnUnderUptoCard : Claim7 := { stood := { row := fnExactDnUnderUptoRow, standIns := [], harness := (true, "fd6841432d882973c639a79c169d2718c61dccdf77add0f5fb67309164b80ffb"), looks := false }, kinds := [], alts := [], laidByText := true, laidKinds := [.data, .pinned], laidTests := true, laidLooks := .later }
def FnExactDnUnderUptoCardSaid : Prop := Claim7.holds Tryd.pinned (.plain (OpenSpec.upto fnExactDnUnderSpec)) fnExactDnUnderUptoCard

/-- THE SECOND FORM's CARD OF 'laws.FnExactDnParent'. -/
def fnExactDnParentUptoCard : Claim7 := { stood := { row := fnExactDnParentUptoRow, standIns := [], harness := (true, "fd6841432d882973c639a79c169d2718c61dccdf77add0f5fb67309164b80ffb"), looks := false }, kinds := [], alts := [], laidByText := true, laidKinds := [.data, .pinned], laidTests := true, laidLooks := .later }
def FnExactDnParentUptoCardSaid : Prop := Claim7.holds Tryd.pinned (.plain (OpenSpec.upto fnExactDnParentSpec)) fnExactDnParentUptoCard
end Rows
end Go.Proofs.YticbafilcicdjaaDoor
