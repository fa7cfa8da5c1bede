/-
  DERIVED. GIVEN WITH THE SEED: THE CARDS: each row of YtdbboelacgehoaaDoorRows.lean that lists a variable, with what it lists TIED to the program's text (the seventh form; the later family's looks); each row that meets fmt, with fmt's text TOLD by the authors' own Lean function (tested against real Go, not proved from fmt's source: count such statements apart). THE CARD IS WHAT COUNTS. Prove the row's statement (the work); the ties are given (YtdbboelacgehoaaDoorTie.lean); close each card by the builder's one call (the guide's Derived/Test/ToyasCard.lean, 'card_holds'). Laid BY PROGRAM, IN A SANDBOX (cutbox-door.mjs). By AI agents, Wed Nov 11 2026. No macro, syntax, notation, axiom, sorry.
-/
import Derived.Test.YtdbboelacgehoaaDoorRows
import GoSem.ClaimSeven
namespace Go.Proofs.YtdbboelacgehoaaDoor
namespace Rows

/-- THE TIED CARD OF 'laws.FnExactFilterRight'. -/
def fnExactFilterRightCard : Claim7 := { stood := { row := fnExactFilterRightRow, standIns := [], harness := (true, "ebdfad55bdde4ae5c87402fbae6c2b39d23ee58f62db381d241586b7601b7ffb"), looks := false }, kinds := [], alts := [], laidByText := true, laidKinds := [.data, .pinned], laidTests := true, laidLooks := .later }
def FnExactFilterRightCardSaid : Prop := Claim7.holds Tryd.pinned (.plain (OpenSpec.ofChange fnExactFilterRightSpec)) fnExactFilterRightCard

/-- THE TIED CARD OF 'laws.FnExactDnText'. -/
def fnExactDnTextCard : Claim7 := { stood := { row := fnExactDnTextRow, standIns := [], harness := (true, "ebdfad55bdde4ae5c87402fbae6c2b39d23ee58f62db381d241586b7601b7ffb"), looks := false }, kinds := [], alts := [], laidByText := true, laidKinds := [.data, .pinned], laidTests := true, laidLooks := .later }
def FnExactDnTextCardSaid : Prop := Claim7.holds Tryd.pinned (.plain (OpenSpec.ofChange fnExactDnTextSpec)) fnExactDnTextCard

/-- THE TIED CARD OF 'laws.FnUnder'. -/
def fnUnderCard : Claim7 := { stood := { row := fnUnderRow, standIns := [], harness := (true, "ebdfad55bdde4ae5c87402fbae6c2b39d23ee58f62db381d241586b7601b7ffb"), looks := false }, kinds := [], alts := [], laidByText := true, laidKinds := [.data, .pinned], laidTests := true, laidLooks := .later }
def FnUnderCardSaid : Prop := Claim7.holds Tryd.pinned (.plain (OpenSpec.ofChange fnUnderSpec)) fnUnderCard

/-- THE TIED CARD OF 'laws.FnJoin'. -/
def fnJoinCard : Claim7 := { stood := { row := fnJoinRow, standIns := [], harness := (true, "ebdfad55bdde4ae5c87402fbae6c2b39d23ee58f62db381d241586b7601b7ffb"), looks := false }, kinds := [], alts := [], laidByText := true, laidKinds := [.data, .pinned], laidTests := true, laidLooks := .later }
def FnJoinCardSaid : Prop := Claim7.holds Tryd.pinned (.plain (OpenSpec.ofChange fnJoinSpec)) fnJoinCard

/-- THE TIED CARD OF 'laws.FnExactDnJoin'. -/
def fnExactDnJoinCard : Claim7 := { stood := { row := fnExactDnJoinRow, standIns := [], harness := (true, "ebdfad55bdde4ae5c87402fbae6c2b39d23ee58f62db381d241586b7601b7ffb"), looks := false }, kinds := [], alts := [], laidByText := true, laidKinds := [.data, .pinned], laidTests := true, laidLooks := .later }
def FnExactDnJoinCardSaid : Prop := Claim7.holds Tryd.pinned (.plain (OpenSpec.ofChange fnExactDnJoinSpec)) fnExactDnJoinCard

/-- THE TIED CARD OF 'laws.FnExactAclRight'. -/
def fnExactAclRightCard : Claim7 := { stood := { row := fnExactAclRightRow, standIns := [], harness := (true, "ebdfad55bdde4ae5c87402fbae6c2b39d23ee58f62db381d241586b7601b7ffb"), looks := false }, kinds := [], alts := [], laidByText := true, laidKinds := [.data, .pinned], laidTests := true, laidLooks := .later }
def FnExactAclRightCardSaid : Prop := Claim7.holds Tryd.pinned (.plain (OpenSpec.ofChange fnExactAclRightSpec)) fnExactAclRightCard

/-- THE TIED CARD OF 'laws.FnExactEntryRight'. -/
def fnExactEntryRightCard : Claim7 := { stood := { row := fnExactEntryRightRow, standIns := [], harness := (true, "ebdfad55bdde4ae5c87402fbae6c2b39d23ee58f62db381d241586b7601b7ffb"), looks := false }, kinds := [], alts := [], laidByText := true, laidKinds := [.data, .pinned], laidTests := true, laidLooks := .later }
def FnExactEntryRightCardSaid : Prop := Claim7.holds Tryd.pinned (.plain (OpenSpec.ofChange fnExactEntryRightSpec)) fnExactEntryRightCard

/-- THE TIED CARD OF 'laws.FnExactDnRead'. -/
def fnExactDnReadCard : Claim7 := { stood := { row := fnExactDnReadRow, standIns := [], harness := (true, "ebdfad55bdde4ae5c87402fbae6c2b39d23ee58f62db381d241586b7601b7ffb"), looks := false }, kinds := [], alts := [], laidByText := true, laidKinds := [.data, .pinned], laidTests := true, laidLooks := .later }
def FnExactDnReadCardSaid : Prop := Claim7.holds Tryd.pinned (.plain (OpenSpec.ofChange fnExactDnReadSpec)) fnExactDnReadCard

/-- THE TIED CARD OF 'laws.FnDn'. -/
def fnDnCard : Claim7 := { stood := { row := fnDnRow, standIns := [], harness := (true, "ebdfad55bdde4ae5c87402fbae6c2b39d23ee58f62db381d241586b7601b7ffb"), looks := false }, kinds := [], alts := [], laidByText := true, laidKinds := [.data, .pinned], laidTests := true, laidLooks := .later }
def FnDnCardSaid : Prop := Claim7.holds Tryd.pinned (.plain (OpenSpec.ofChange fnDnSpec)) fnDnCard

/-- THE TIED CARD OF 'laws.FnExactEntrySame'. -/
def fnExactEntrySameCard : Claim7 := { stood := { row := fnExactEntrySameRow, standIns := [], harness := (true, "ebdfad55bdde4ae5c87402fbae6c2b39d23ee58f62db381d241586b7601b7ffb"), looks := false }, kinds := [], alts := [], laidByText := true, laidKinds := [.data, .pinned], laidTests := true, laidLooks := .later }
def FnExactEntrySameCardSaid : Prop := Claim7.holds Tryd.pinned (.plain (OpenSpec.ofChange fnExactEntrySameSpec)) fnExactEntrySameCard

/-- THE TIED CARD OF 'laws.FnExactAllowed'. -/
def fnExactAllowedCard : Claim7 := { stood := { row := fnExactAllowedRow, standIns := [], harness := (true, "ebdfad55bdde4ae5c87402fbae6c2b39d23ee58f62db381d241586b7601b7ffb"), looks := false }, kinds := [], alts := [], laidByText := true, laidKinds := [.data, .pinned], laidTests := true, laidLooks := .later }
def FnExactAllowedCardSaid : Prop := Claim7.holds Tryd.pinned (.plain (OpenSpec.ofChange fnExactAllowedSpec)) fnExactAllowedCard

/-- THE TIED CARD OF 'laws.FnExactEntryBytes'. -/
def fnExactEntryBytesCard : Claim7 := { stood := { row := fnExactEntryBytesRow, standIns := [], harness := (true, "ebdfad55bdde4ae5c87402fbae6c2b39d23ee58f62db381d241586b7601b7ffb"), looks := false }, kinds := [], alts := [], laidByText := true, laidKinds := [.data, .pinned], laidTests := true, laidLooks := .later }
def FnExactEntryBytesCardSaid : Prop := Claim7.holds Tryd.pinned (.plain (OpenSpec.ofChange fnExactEntryBytesSpec)) fnExactEntryBytesCard

/-- THE SECOND FORM's CARD OF 'laws.FnExactFilterRight'. -/
def fnExactFilterRightUptoCard : Claim7 := { stood := { row := fnExactFilterRightUptoRow, standIns := [], harness := (true, "ebdfad55bdde4ae5c87402fbae6c2b39d23ee58f62db381d241586b7601b7ffb"), looks := false }, kinds := [], alts := [], laidByText := true, laidKinds := [.data, .pinned], laidTests := true, laidLooks := .later }
def FnExactFilterRightUptoCardSaid : Prop := Claim7.holds Tryd.pinned (.plain (OpenSpec.upto fnExactFilterRightSpec)) fnExactFilterRightUptoCard

/-- THE SECOND FORM's CARD OF 'laws.FnExactDnText'. -/
def fnExactDnTextUptoCard : Claim7 := { stood := { row := fnExactDnTextUptoRow, standIns := [], harness := (true, "ebdfad55bdde4ae5c87402fbae6c2b39d23ee58f62db381d241586b7601b7ffb"), looks := false }, kinds := [], alts := [], laidByText := true, laidKinds := [.data, .pinned], laidTests := true, laidLooks := .later }
def FnExactDnTextUptoCardSaid : Prop := Claim7.holds Tryd.pinned (.plain (OpenSpec.upto fnExactDnTextSpec)) fnExactDnTextUptoCard

/-- THE SECOND FORM's CARD OF 'laws.FnUnder'. -/
def fnUnderUptoCard : Claim7 := { stood := { row := fnUnderUptoRow, standIns := [], harness := (true, "ebdfad55bdde4ae5c87402fbae6c2b39d23ee58f62db381d241586b7601b7ffb"), looks := false }, kinds := [], alts := [], laidByText := true, laidKinds := [.data, .pinned], laidTests := true, laidLooks := .later }
def FnUnderUptoCardSaid : Prop := Claim7.holds Tryd.pinned (.plain (OpenSpec.upto fnUnderSpec)) fnUnderUptoCard

/-- THE SECOND FORM's CARD OF 'laws.FnJoin'. -/
def fnJoinUptoCard : Claim7 := { stood := { row := fnJoinUptoRow, standIns := [], harness := (true, "ebdfad55bdde4ae5c87402fbae6c2b39d23ee58f62db381d241586b7601b7ffb"), looks := false }, kinds := [], alts := [], laidByText := true, laidKinds := [.data, .pinned], laidTests := true, laidLooks := .later }
def FnJoinUptoCardSaid : Prop := Claim7.holds Tryd.pinned (.plain (OpenSpec.upto fnJoinSpec)) fnJoinUptoCard

/-- THE SECOND FORM's CARD OF 'laws.FnExactDnJoin'. -/
def fnExactDnJoinUptoCard : Claim7 := { stood := { row := fnExactDnJoinUptoRow, standIns := [], harness := (true, "ebdfad55bdde4ae5c87402fbae6c2b39d23ee58f62db381d241586b7601b7ffb"), looks := false }, kinds := [], alts := [], laidByText := true, laidKinds := [.data, .pinned], laidTests := true, laidLooks := .later }
def FnExactDnJoinUptoCardSaid : Prop := Claim7.holds Tryd.pinned (.plain (OpenSpec.upto fnExactDnJoinSpec)) fnExactDnJoinUptoCard

/-- THE SECOND FORM's CARD OF 'laws.FnExactAclRight'. -/
def fnExactAclRightUptoCard : Claim7 := { stood := { row := fnExactAclRightUptoRow, standIns := [], harness := (true, "ebdfad55bdde4ae5c87402fbae6c2b39d23ee58f62db381d241586b7601b7ffb"), looks := false }, kinds := [], alts := [], laidByText := true, laidKinds := [.data, .pinned], laidTests := true, laidLooks := .later }
def FnExactAclRightUptoCardSaid : Prop := Claim7.holds Tryd.pinned (.plain (OpenSpec.upto fnExactAclRightSpec)) fnExactAclRightUptoCard

/-- THE SECOND FORM's CARD OF 'laws.FnExactEntryRight'. -/
def fnExactEntryRightUptoCard : Claim7 := { stood := { row := fnExactEntryRightUptoRow, standIns := [], harness := (true, "ebdfad55bdde4ae5c87402fbae6c2b39d23ee58f62db381d241586b7601b7ffb"), looks := false }, kinds := [], alts := [], laidByText := true, laidKinds := [.data, .pinned], laidTests := true, laidLooks := .later }
def FnExactEntryRightUptoCardSaid : Prop := Claim7.holds Tryd.pinned (.plain (OpenSpec.upto fnExactEntryRightSpec)) fnExactEntryRightUptoCard

/-- THE SECOND FORM's CARD OF 'laws.FnExactDnRead'. -/
def fnExactDnReadUptoCard : Claim7 := { stood := { row := fnExactDnReadUptoRow, standIns := [], harness := (true, "ebdfad55bdde4ae5c87402fbae6c2b39d23ee58f62db381d241586b7601b7ffb"), looks := false }, kinds := [], alts := [], laidByText := true, laidKinds := [.data, .pinned], laidTests := true, laidLooks := .later }
def FnExactDnReadUptoCardSaid : Prop := Claim7.holds Tryd.pinned (.plain (OpenSpec.upto fnExactDnReadSpec)) fnExactDnReadUptoCard

/-- THE SECOND FORM's CARD OF 'laws.FnDn'. -/
def fnDnUptoCard : Claim7 := { stood := { row := fnDnUptoRow, standIns := [], harness := (true, "ebdfad55bdde4ae5c87402fbae6c2b39d23ee58f62db381d241586b7601b7ffb"), looks := false }, kinds := [], alts := [], laidByText := true, laidKinds := [.data, .pinned], laidTests := true, laidLooks := .later }
def FnDnUptoCardSaid : Prop := Claim7.holds Tryd.pinned (.plain (OpenSpec.upto fnDnSpec)) fnDnUptoCard

/-- THE SECOND FORM's CARD OF 'laws.FnExactEntrySame'. -/
def fnExactEntrySameUptoCard : Claim7 := { stood := { row := fnExactEntrySameUptoRow, standIns := [], harness := (true, "ebdfad55bdde4ae5c87402fbae6c2b39d23ee58f62db381d241586b7601b7ffb"), looks := false }, kinds := [], alts := [], laidByText := true, laidKinds := [.data, .pinned], laidTests := true, laidLooks := .later }
def FnExactEntrySameUptoCardSaid : Prop := Claim7.holds Tryd.pinned (.plain (OpenSpec.upto fnExactEntrySameSpec)) fnExactEntrySameUptoCard

/-- THE SECOND FORM's CARD OF 'laws.FnExactAllowed'. -/
def fnExactAllowedUptoCard : Claim7 := { stood := { row := fnExactAllowedUptoRow, standIns := [], harness := (true, "ebdfad55bdde4ae5c87402fbae6c2b39d23ee58f62db381d241586b7601b7ffb"), looks := false }, kinds := [], alts := [], laidByText := true, laidKinds := [.data, .pinned], laidTests := true, laidLooks := .later }
def FnExactAllowedUptoCardSaid : Prop := Claim7.holds Tryd.pinned (.plain (OpenSpec.upto fnExactAllowedSpec)) fnExactAllowedUptoCard

/-- THE SECOND FORM's CARD OF 'laws.FnExactEntryBytes'. -/
def fnExactEntryBytesUptoCard : Claim7 := { stood := { row := fnExactEntryBytesUptoRow, standIns := [], harness := (true, "ebdfad55bdde4ae5c87402fbae6c2b39d23ee58f62db381d241586b7601b7ffb"), looks := false }, kinds := [], alts := [], laidByText := true, laidKinds := [.data, .pinned], laidTests := true, laidLooks := .later }
def FnExactEntryBytesUptoCardSaid : Prop := Claim7.holds Tryd.pinned (.plain (OpenSpec.upto fnExactEntryBytesSpec)) fnExactEntryBytesUptoCard
end Rows
end Go.Proofs.YtdbboelacgehoaaDoor
