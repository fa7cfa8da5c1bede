/-
  DERIVED. GIVEN WITH THE SEED: THE CARDS: each row of YtdlbcamnimdfjaaGreatDoorRows.lean that lists a variable, with what it lists TIED to the program's text (the seventh form; the later family's looks); each row that meets fmt, with fmt's text TOLD by the authors' own Lean function (tested against real Go, not proved from fmt's source: count such statements apart). THE CARD IS WHAT COUNTS. Prove the row's statement (the work); the ties are given (YtdlbcamnimdfjaaGreatDoorTie.lean); close each card by the builder's one call (the guide's Derived/Test/ToyasCard.lean, 'card_holds'). Laid BY PROGRAM, IN A SANDBOX (cutbox-door.mjs). By AI agents, Wed Nov 11 2026. No macro, syntax, notation, axiom, sorry.
-/
import Derived.Test.YtdlbcamnimdfjaaGreatDoorRows
import GoSem.ClaimSeven
namespace Go.Proofs.YtdlbcamnimdfjaaGreatDoor
namespace Rows

/-- THE TIED CARD OF 'laws.FnExactTreeNew'. -/
def fnExactTreeNewCard : Claim7 := { stood := { row := fnExactTreeNewRow, standIns := [], harness := (true, "09a732ab580146a8fa6331c4d20dfd8a7d9fd12008cb96aad19e5448bd1b8d27"), looks := true }, kinds := [], alts := [], laidByText := true, laidKinds := [.data, .pinned], laidTests := true, laidLooks := .later }
def FnExactTreeNewCardSaid : Prop := Claim7.holds Tryz.pinned (.plain (OpenSpec.ofChange fnExactTreeNewSpec)) fnExactTreeNewCard

/-- THE TIED CARD OF 'laws.FnExactFilterRead'. -/
def fnExactFilterReadCard : Claim7 := { stood := { row := fnExactFilterReadRow, standIns := [], harness := (true, "09a732ab580146a8fa6331c4d20dfd8a7d9fd12008cb96aad19e5448bd1b8d27"), looks := true }, kinds := [], alts := [], laidByText := true, laidKinds := [.data, .pinned], laidTests := true, laidLooks := .later }
def FnExactFilterReadCardSaid : Prop := Claim7.holds Tryz.pinned (.plain (OpenSpec.ofChange fnExactFilterReadSpec)) fnExactFilterReadCard

/-- THE SECOND FORM's CARD OF 'laws.FnExactTreeNew'. -/
def fnExactTreeNewUptoCard : Claim7 := { stood := { row := fnExactTreeNewUptoRow, standIns := [], harness := (true, "09a732ab580146a8fa6331c4d20dfd8a7d9fd12008cb96aad19e5448bd1b8d27"), looks := true }, kinds := [], alts := [], laidByText := true, laidKinds := [.data, .pinned], laidTests := true, laidLooks := .later }
def FnExactTreeNewUptoCardSaid : Prop := Claim7.holds Tryz.pinned (.plain (OpenSpec.upto fnExactTreeNewSpec)) fnExactTreeNewUptoCard

/-- THE SECOND FORM's CARD OF 'laws.FnExactFilterRead'. -/
def fnExactFilterReadUptoCard : Claim7 := { stood := { row := fnExactFilterReadUptoRow, standIns := [], harness := (true, "09a732ab580146a8fa6331c4d20dfd8a7d9fd12008cb96aad19e5448bd1b8d27"), looks := true }, kinds := [], alts := [], laidByText := true, laidKinds := [.data, .pinned], laidTests := true, laidLooks := .later }
def FnExactFilterReadUptoCardSaid : Prop := Claim7.holds Tryz.pinned (.plain (OpenSpec.upto fnExactFilterReadSpec)) fnExactFilterReadUptoCard
end Rows
end Go.Proofs.YtdlbcamnimdfjaaGreatDoor
