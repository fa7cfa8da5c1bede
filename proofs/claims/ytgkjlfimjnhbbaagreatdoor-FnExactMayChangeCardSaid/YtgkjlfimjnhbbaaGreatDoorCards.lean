/-
  DERIVED. GIVEN WITH THE SEED: THE CARDS: each row of YtgkjlfimjnhbbaaGreatDoorRows.lean that lists a variable, with what it lists TIED to the program's text (the seventh form; the later family's looks); each row that meets fmt, with fmt's text TOLD by the authors' own Lean function (tested against real Go, not proved from fmt's source: count such statements apart). THE CARD IS WHAT COUNTS. Prove the row's statement (the work); the ties are given (YtgkjlfimjnhbbaaGreatDoorTie.lean); close each card by the builder's one call (the guide's Derived/Test/ToyasCard.lean, 'card_holds'). Laid BY PROGRAM, IN A SANDBOX (cutbox-door.mjs). By AI agents, Wed Nov 11 2026. No macro, syntax, notation, axiom, sorry.
-/
import Derived.Test.YtgkjlfimjnhbbaaGreatDoorRows
import GoSem.ClaimSeven
namespace Go.Proofs.YtgkjlfimjnhbbaaGreatDoor
namespace Rows

/-- THE TIED CARD OF 'laws.FnExactMayChange'. -/
def fnExactMayChangeCard : Claim7 := { stood := { row := fnExactMayChangeRow, standIns := [], harness := (true, "745534ad459e660fd0e0a0650855f272fb8aa22481cc5ec3ad997952bc6554a3"), looks := true }, kinds := [], alts := [], laidByText := true, laidKinds := [.data, .pinned], laidTests := true, laidLooks := .later }
def FnExactMayChangeCardSaid : Prop := Claim7.holds Tryz.pinned (.plain (OpenSpec.ofChange fnExactMayChangeSpec)) fnExactMayChangeCard

/-- THE TIED CARD OF 'laws.FnAcl'. -/
def fnAclCard : Claim7 := { stood := { row := fnAclRow, standIns := [], harness := (true, "745534ad459e660fd0e0a0650855f272fb8aa22481cc5ec3ad997952bc6554a3"), looks := true }, kinds := [], alts := [], laidByText := true, laidKinds := [.data, .pinned], laidTests := true, laidLooks := .later }
def FnAclCardSaid : Prop := Claim7.holds Tryz.pinned (.plain (OpenSpec.ofChange fnAclSpec)) fnAclCard

/-- THE TIED CARD OF 'laws.FnExactFilterText'. -/
def fnExactFilterTextCard : Claim7 := { stood := { row := fnExactFilterTextRow, standIns := [], harness := (true, "745534ad459e660fd0e0a0650855f272fb8aa22481cc5ec3ad997952bc6554a3"), looks := true }, kinds := [], alts := [], laidByText := true, laidKinds := [.data, .pinned], laidTests := true, laidLooks := .later }
def FnExactFilterTextCardSaid : Prop := Claim7.holds Tryz.pinned (.plain (OpenSpec.ofChange fnExactFilterTextSpec)) fnExactFilterTextCard

/-- THE TIED CARD OF 'laws.FnFilter'. -/
def fnFilterCard : Claim7 := { stood := { row := fnFilterRow, standIns := [], harness := (true, "745534ad459e660fd0e0a0650855f272fb8aa22481cc5ec3ad997952bc6554a3"), looks := true }, kinds := [], alts := [], laidByText := true, laidKinds := [.data, .pinned], laidTests := true, laidLooks := .later }
def FnFilterCardSaid : Prop := Claim7.holds Tryz.pinned (.plain (OpenSpec.ofChange fnFilterSpec)) fnFilterCard

/-- THE SECOND FORM's CARD OF 'laws.FnExactMayChange'. -/
def fnExactMayChangeUptoCard : Claim7 := { stood := { row := fnExactMayChangeUptoRow, standIns := [], harness := (true, "745534ad459e660fd0e0a0650855f272fb8aa22481cc5ec3ad997952bc6554a3"), looks := true }, kinds := [], alts := [], laidByText := true, laidKinds := [.data, .pinned], laidTests := true, laidLooks := .later }
def FnExactMayChangeUptoCardSaid : Prop := Claim7.holds Tryz.pinned (.plain (OpenSpec.upto fnExactMayChangeSpec)) fnExactMayChangeUptoCard

/-- THE SECOND FORM's CARD OF 'laws.FnAcl'. -/
def fnAclUptoCard : Claim7 := { stood := { row := fnAclUptoRow, standIns := [], harness := (true, "745534ad459e660fd0e0a0650855f272fb8aa22481cc5ec3ad997952bc6554a3"), looks := true }, kinds := [], alts := [], laidByText := true, laidKinds := [.data, .pinned], laidTests := true, laidLooks := .later }
def FnAclUptoCardSaid : Prop := Claim7.holds Tryz.pinned (.plain (OpenSpec.upto fnAclSpec)) fnAclUptoCard

/-- THE SECOND FORM's CARD OF 'laws.FnExactFilterText'. -/
def fnExactFilterTextUptoCard : Claim7 := { stood := { row := fnExactFilterTextUptoRow, standIns := [], harness := (true, "745534ad459e660fd0e0a0650855f272fb8aa22481cc5ec3ad997952bc6554a3"), looks := true }, kinds := [], alts := [], laidByText := true, laidKinds := [.data, .pinned], laidTests := true, laidLooks := .later }
def FnExactFilterTextUptoCardSaid : Prop := Claim7.holds Tryz.pinned (.plain (OpenSpec.upto fnExactFilterTextSpec)) fnExactFilterTextUptoCard

/-- THE SECOND FORM's CARD OF 'laws.FnFilter'. -/
def fnFilterUptoCard : Claim7 := { stood := { row := fnFilterUptoRow, standIns := [], harness := (true, "745534ad459e660fd0e0a0650855f272fb8aa22481cc5ec3ad997952bc6554a3"), looks := true }, kinds := [], alts := [], laidByText := true, laidKinds := [.data, .pinned], laidTests := true, laidLooks := .later }
def FnFilterUptoCardSaid : Prop := Claim7.holds Tryz.pinned (.plain (OpenSpec.upto fnFilterSpec)) fnFilterUptoCard
end Rows
end Go.Proofs.YtgkjlfimjnhbbaaGreatDoor
