/-
  DERIVED. GIVEN WITH THE SEED: THE CARDS: each row of YtmkeigielncpjaaGreatDoorRows.lean that lists a variable, with what it lists TIED to the program's text (the seventh form; the later family's looks); each row that meets fmt, with fmt's text TOLD by the authors' own Lean function (tested against real Go, not proved from fmt's source: count such statements apart). THE CARD IS WHAT COUNTS. Prove the row's statement (the work); the ties are given (YtmkeigielncpjaaGreatDoorTie.lean); close each card by the builder's one call (the guide's Derived/Test/ToyasCard.lean, 'card_holds'). Laid BY PROGRAM, IN A SANDBOX (cutbox-door.mjs). By AI agents, Wed Nov 11 2026. No macro, syntax, notation, axiom, sorry.
-/
import Derived.Test.YtmkeigielncpjaaGreatDoorRows
import GoSem.ClaimSeven
namespace Go.Proofs.YtmkeigielncpjaaGreatDoor
namespace Rows

/-- THE TIED CARD OF 'laws.FnExactFilterText'. -/
def fnExactFilterTextCard : Claim7 := { stood := { row := fnExactFilterTextRow, standIns := [], harness := (true, "d23b94f23d91b6e162cdcb11e37ae687f83b663801089705ee3c21d4aac9ab2b"), looks := true }, kinds := [], alts := [], laidByText := true, laidKinds := [.data, .pinned], laidTests := true, laidLooks := .later }
def FnExactFilterTextCardSaid : Prop := Claim7.holds Tryz.pinned (.plain (OpenSpec.ofChange fnExactFilterTextSpec)) fnExactFilterTextCard

/-- THE TIED CARD OF 'laws.FnExactFilterRead'. -/
def fnExactFilterReadCard : Claim7 := { stood := { row := fnExactFilterReadRow, standIns := [], harness := (true, "d23b94f23d91b6e162cdcb11e37ae687f83b663801089705ee3c21d4aac9ab2b"), looks := true }, kinds := [], alts := [], laidByText := true, laidKinds := [.data, .pinned], laidTests := true, laidLooks := .later }
def FnExactFilterReadCardSaid : Prop := Claim7.holds Tryz.pinned (.plain (OpenSpec.ofChange fnExactFilterReadSpec)) fnExactFilterReadCard

/-- THE TIED CARD OF 'laws.FnFilter'. -/
def fnFilterCard : Claim7 := { stood := { row := fnFilterRow, standIns := [], harness := (true, "d23b94f23d91b6e162cdcb11e37ae687f83b663801089705ee3c21d4aac9ab2b"), looks := true }, kinds := [], alts := [], laidByText := true, laidKinds := [.data, .pinned], laidTests := true, laidLooks := .later }
def FnFilterCardSaid : Prop := Claim7.holds Tryz.pinned (.plain (OpenSpec.ofChange fnFilterSpec)) fnFilterCard

/-- THE TIED CARD OF 'laws.FnAcl'. -/
def fnAclCard : Claim7 := { stood := { row := fnAclRow, standIns := [], harness := (true, "d23b94f23d91b6e162cdcb11e37ae687f83b663801089705ee3c21d4aac9ab2b"), looks := true }, kinds := [], alts := [], laidByText := true, laidKinds := [.data, .pinned], laidTests := true, laidLooks := .later }
def FnAclCardSaid : Prop := Claim7.holds Tryz.pinned (.plain (OpenSpec.ofChange fnAclSpec)) fnAclCard

/-- THE SECOND FORM's CARD OF 'laws.FnExactFilterText'. -/
def fnExactFilterTextUptoCard : Claim7 := { stood := { row := fnExactFilterTextUptoRow, standIns := [], harness := (true, "d23b94f23d91b6e162cdcb11e37ae687f83b663801089705ee3c21d4aac9ab2b"), looks := true }, kinds := [], alts := [], laidByText := true, laidKinds := [.data, .pinned], laidTests := true, laidLooks := .later }
def FnExactFilterTextUptoCardSaid : Prop := Claim7.holds Tryz.pinned (.plain (OpenSpec.upto fnExactFilterTextSpec)) fnExactFilterTextUptoCard

/-- THE SECOND FORM's CARD OF 'laws.FnExactFilterRead'. -/
def fnExactFilterReadUptoCard : Claim7 := { stood := { row := fnExactFilterReadUptoRow, standIns := [], harness := (true, "d23b94f23d91b6e162cdcb11e37ae687f83b663801089705ee3c21d4aac9ab2b"), looks := true }, kinds := [], alts := [], laidByText := true, laidKinds := [.data, .pinned], laidTests := true, laidLooks := .later }
def FnExactFilterReadUptoCardSaid : Prop := Claim7.holds Tryz.pinned (.plain (OpenSpec.upto fnExactFilterReadSpec)) fnExactFilterReadUptoCard

/-- THE SECOND FORM's CARD OF 'laws.FnFilter'. -/
def fnFilterUptoCard : Claim7 := { stood := { row := fnFilterUptoRow, standIns := [], harness := (true, "d23b94f23d91b6e162cdcb11e37ae687f83b663801089705ee3c21d4aac9ab2b"), looks := true }, kinds := [], alts := [], laidByText := true, laidKinds := [.data, .pinned], laidTests := true, laidLooks := .later }
def FnFilterUptoCardSaid : Prop := Claim7.holds Tryz.pinned (.plain (OpenSpec.upto fnFilterSpec)) fnFilterUptoCard

/-- THE SECOND FORM's CARD OF 'laws.FnAcl'. -/
def fnAclUptoCard : Claim7 := { stood := { row := fnAclUptoRow, standIns := [], harness := (true, "d23b94f23d91b6e162cdcb11e37ae687f83b663801089705ee3c21d4aac9ab2b"), looks := true }, kinds := [], alts := [], laidByText := true, laidKinds := [.data, .pinned], laidTests := true, laidLooks := .later }
def FnAclUptoCardSaid : Prop := Claim7.holds Tryz.pinned (.plain (OpenSpec.upto fnAclSpec)) fnAclUptoCard
end Rows
end Go.Proofs.YtmkeigielncpjaaGreatDoor
