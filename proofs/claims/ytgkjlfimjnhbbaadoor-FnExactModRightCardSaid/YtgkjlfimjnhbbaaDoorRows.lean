/-
  NARROWER THAN 'FOR EVERY INPUT', by the rows' own cells (each row's printed sentence says how): FnExactModRight: laid · FnExactSchemaRight: laid · FnExactChangesRight: laid · FnExactKnown: laid · FnExactFilterAttrs: laid · FnExactClassOf: laid.
  DERIVED. THE GIVEN ROWS OF THIS SEAT. 6 by the template 'for every input the law returns true; each argument reads behind the call as it read before'; 0 by the template 'total and deterministic' (their statements: YtgkjlfimjnhbbaaDoorTotals.lean).
  GIVEN WITH THE SEED: the statements are not yours to turn. If you find one false, say at which input.
  Laid BY PROGRAM, IN A SANDBOX (cutbox-rows.mjs): the forced cells as the released guide's own fill.sh prints them over the translation f6bb8f6c54764d85… (all of the seat's roots in one cut). By AI agents, Wed Nov 11 2026. No macro, syntax, notation, axiom, sorry.
-/
import Derived.Test.YtgkjlfimjnhbbaaDoorChecked
import GoSem.PinnedTables
import GoSem.Claim
import GoSem.ClaimJoined
import GoSem.ClaimMapViews
import Derived.JoinedTies
import Derived.KernelRfl
namespace Go.Proofs.YtgkjlfimjnhbbaaDoor
/- THE CELL 'sum', in the pinned program and in every row, IS THE sha256 OF THE DUMP (.gsa) THAT YtgkjlfimjnhbbaaDoorProg.lean LOADS. Nothing in Lean hashes anything: it is a label: what it is worth is what the hold of that sum in a sandbox is worth. -/
noncomputable def Tryd.pinned : Pinned := { name := "ytgkjlfimjnhbbaadoor", sum := "f6bb8f6c54764d85399b5da083ca031838d576368f1e791c1769281aff61aa72", checked := Tryd.checked }
namespace Rows
def none {H : Type} : Left H := { results := [], args := [] }

/- WHAT THE LISTED PACKAGE-LEVEL VARIABLES READ AS WHEN THE CALL BEGINS. Each datum BY PROGRAM (the guide's laid-datum.mjs) off the statement by which the dump's own 'gosem.cut.vars' lays the variable. In a bare row this is a premise. The card (YtgkjlfimjnhbbaaDoorCards.lean) ties it to the program's text. -/
def laid_unicode_utf8_acceptRanges {H : Type} : DataW H := .agg [.agg [.lit (.int .u8 128), .lit (.int .u8 191)], .agg [.lit (.int .u8 160), .lit (.int .u8 191)], .agg [.lit (.int .u8 128), .lit (.int .u8 159)], .agg [.lit (.int .u8 144), .lit (.int .u8 191)], .agg [.lit (.int .u8 128), .lit (.int .u8 143)], .agg [.lit (.int .u8 0), .lit (.int .u8 0)], .agg [.lit (.int .u8 0), .lit (.int .u8 0)], .agg [.lit (.int .u8 0), .lit (.int .u8 0)], .agg [.lit (.int .u8 0), .lit (.int .u8 0)], .agg [.lit (.int .u8 0), .lit (.int .u8 0)], .agg [.lit (.int .u8 0), .lit (.int .u8 0)], .agg [.lit (.int .u8 0), .lit (.int .u8 0)], .agg [.lit (.int .u8 0), .lit (.int .u8 0)], .agg [.lit (.int .u8 0), .lit (.int .u8 0)], .agg [.lit (.int .u8 0), .lit (.int .u8 0)], .agg [.lit (.int .u8 0), .lit (.int .u8 0)]]
/-- One of Go's own tables, pinned by name: the form's constant. -/
def laid_unicode_utf8_first : DataW Unit := Go.Pinned.utf8First

/-- 'laws.FnExactModRight': WHATEVER THE INPUT: true; the input reads as it did. -/
def fnExactModRightSpec : ChangeSpec := { name := "fnExactModRight", fn := fun _ => fun
  | [d] => { results := [.lit (.bool true)], args := [d] }
  | _ => none }
def fnExactModRightRow : OpenClaim := { program := "ytgkjlfimjnhbbaadoor", sum := "f6bb8f6c54764d85399b5da083ca031838d576368f1e791c1769281aff61aa72", func := "loop.example/g00402/laws.FnExactModRight", spec := "fnExactModRight", inPlace := ["internal/bytealg.abigen_runtime_cmpstring", "internal/bytealg.IndexByteString", "internal/bytealg.IndexString"], unfollowed := true, recurses := true, named := ["unicode/utf8.first", "unicode/utf8.acceptRanges", "internal/bytealg.MaxLen"], apart := false, laid := [("unicode/utf8.acceptRanges", laid_unicode_utf8_acceptRanges), ("unicode/utf8.first", laid_unicode_utf8_first)] }
def FnExactModRightSaid : Prop := fnExactModRightRow.holds Tryd.pinned (OpenSpec.ofChange fnExactModRightSpec)

/-- ITS FALSE NEIGHBOUR: 'it returns false'. Refute it at one input. -/
def fnExactModRightWrong : ChangeSpec := { name := "fnExactModRight", fn := fun _ => fun
  | [d] => { results := [.lit (.bool false)], args := [d] }
  | _ => none }
def FnExactModRightWrongFalsely : Prop := fnExactModRightRow.holds Tryd.pinned (OpenSpec.ofChange fnExactModRightWrong)

/-- 'laws.FnExactSchemaRight': WHATEVER THE INPUT: true; the input reads as it did. -/
def fnExactSchemaRightSpec : ChangeSpec := { name := "fnExactSchemaRight", fn := fun _ => fun
  | [d] => { results := [.lit (.bool true)], args := [d] }
  | _ => none }
def fnExactSchemaRightRow : OpenClaim := { program := "ytgkjlfimjnhbbaadoor", sum := "f6bb8f6c54764d85399b5da083ca031838d576368f1e791c1769281aff61aa72", func := "loop.example/g00402/laws.FnExactSchemaRight", spec := "fnExactSchemaRight", inPlace := ["internal/bytealg.IndexByteString", "internal/bytealg.IndexString"], unfollowed := true, recurses := true, named := ["unicode/utf8.first", "unicode/utf8.acceptRanges", "internal/bytealg.MaxLen"], apart := false, laid := [("unicode/utf8.acceptRanges", laid_unicode_utf8_acceptRanges), ("unicode/utf8.first", laid_unicode_utf8_first)] }
def FnExactSchemaRightSaid : Prop := fnExactSchemaRightRow.holds Tryd.pinned (OpenSpec.ofChange fnExactSchemaRightSpec)

/-- ITS FALSE NEIGHBOUR: 'it returns false'. Refute it at one input. -/
def fnExactSchemaRightWrong : ChangeSpec := { name := "fnExactSchemaRight", fn := fun _ => fun
  | [d] => { results := [.lit (.bool false)], args := [d] }
  | _ => none }
def FnExactSchemaRightWrongFalsely : Prop := fnExactSchemaRightRow.holds Tryd.pinned (OpenSpec.ofChange fnExactSchemaRightWrong)

/-- 'laws.FnExactChangesRight': WHATEVER THE INPUT: true; the input reads as it did. -/
def fnExactChangesRightSpec : ChangeSpec := { name := "fnExactChangesRight", fn := fun _ => fun
  | [d] => { results := [.lit (.bool true)], args := [d] }
  | _ => none }
def fnExactChangesRightRow : OpenClaim := { program := "ytgkjlfimjnhbbaadoor", sum := "f6bb8f6c54764d85399b5da083ca031838d576368f1e791c1769281aff61aa72", func := "loop.example/g00402/laws.FnExactChangesRight", spec := "fnExactChangesRight", inPlace := ["internal/bytealg.IndexByteString", "internal/bytealg.IndexString", "internal/bytealg.abigen_runtime_cmpstring"], unfollowed := true, recurses := true, named := ["unicode/utf8.first", "unicode/utf8.acceptRanges", "internal/bytealg.MaxLen"], apart := false, laid := [("unicode/utf8.acceptRanges", laid_unicode_utf8_acceptRanges), ("unicode/utf8.first", laid_unicode_utf8_first)] }
def FnExactChangesRightSaid : Prop := fnExactChangesRightRow.holds Tryd.pinned (OpenSpec.ofChange fnExactChangesRightSpec)

/-- ITS FALSE NEIGHBOUR: 'it returns false'. Refute it at one input. -/
def fnExactChangesRightWrong : ChangeSpec := { name := "fnExactChangesRight", fn := fun _ => fun
  | [d] => { results := [.lit (.bool false)], args := [d] }
  | _ => none }
def FnExactChangesRightWrongFalsely : Prop := fnExactChangesRightRow.holds Tryd.pinned (OpenSpec.ofChange fnExactChangesRightWrong)

/-- 'laws.FnExactKnown': WHATEVER THE INPUT: true; the input reads as it did. -/
def fnExactKnownSpec : ChangeSpec := { name := "fnExactKnown", fn := fun _ => fun
  | [d] => { results := [.lit (.bool true)], args := [d] }
  | _ => none }
def fnExactKnownRow : OpenClaim := { program := "ytgkjlfimjnhbbaadoor", sum := "f6bb8f6c54764d85399b5da083ca031838d576368f1e791c1769281aff61aa72", func := "loop.example/g00402/laws.FnExactKnown", spec := "fnExactKnown", inPlace := ["internal/bytealg.IndexByteString", "internal/bytealg.IndexString"], unfollowed := true, recurses := true, named := ["unicode/utf8.first", "unicode/utf8.acceptRanges", "internal/bytealg.MaxLen"], apart := false, laid := [("unicode/utf8.acceptRanges", laid_unicode_utf8_acceptRanges), ("unicode/utf8.first", laid_unicode_utf8_first)] }
def FnExactKnownSaid : Prop := fnExactKnownRow.holds Tryd.pinned (OpenSpec.ofChange fnExactKnownSpec)

/-- ITS FALSE NEIGHBOUR: 'it returns false'. Refute it at one input. -/
def fnExactKnownWrong : ChangeSpec := { name := "fnExactKnown", fn := fun _ => fun
  | [d] => { results := [.lit (.bool false)], args := [d] }
  | _ => none }
def FnExactKnownWrongFalsely : Prop := fnExactKnownRow.holds Tryd.pinned (OpenSpec.ofChange fnExactKnownWrong)

/-- 'laws.FnExactFilterAttrs': WHATEVER THE INPUT: true; the input reads as it did. -/
def fnExactFilterAttrsSpec : ChangeSpec := { name := "fnExactFilterAttrs", fn := fun _ => fun
  | [d] => { results := [.lit (.bool true)], args := [d] }
  | _ => none }
def fnExactFilterAttrsRow : OpenClaim := { program := "ytgkjlfimjnhbbaadoor", sum := "f6bb8f6c54764d85399b5da083ca031838d576368f1e791c1769281aff61aa72", func := "loop.example/g00402/laws.FnExactFilterAttrs", spec := "fnExactFilterAttrs", inPlace := ["internal/bytealg.IndexByteString", "internal/bytealg.IndexString"], recurses := true, named := ["unicode/utf8.first", "unicode/utf8.acceptRanges", "internal/bytealg.MaxLen"], apart := false, laid := [("unicode/utf8.acceptRanges", laid_unicode_utf8_acceptRanges), ("unicode/utf8.first", laid_unicode_utf8_first)] }
def FnExactFilterAttrsSaid : Prop := fnExactFilterAttrsRow.holds Tryd.pinned (OpenSpec.ofChange fnExactFilterAttrsSpec)

/-- ITS FALSE NEIGHBOUR: 'it returns false'. Refute it at one input. -/
def fnExactFilterAttrsWrong : ChangeSpec := { name := "fnExactFilterAttrs", fn := fun _ => fun
  | [d] => { results := [.lit (.bool false)], args := [d] }
  | _ => none }
def FnExactFilterAttrsWrongFalsely : Prop := fnExactFilterAttrsRow.holds Tryd.pinned (OpenSpec.ofChange fnExactFilterAttrsWrong)

/-- 'laws.FnExactClassOf': WHATEVER THE INPUT: true; the input reads as it did. -/
def fnExactClassOfSpec : ChangeSpec := { name := "fnExactClassOf", fn := fun _ => fun
  | [d1, d2] => { results := [.lit (.bool true)], args := [d1, d2] }
  | _ => none }
def fnExactClassOfRow : OpenClaim := { program := "ytgkjlfimjnhbbaadoor", sum := "f6bb8f6c54764d85399b5da083ca031838d576368f1e791c1769281aff61aa72", func := "loop.example/g00402/laws.FnExactClassOf", spec := "fnExactClassOf", inPlace := ["internal/bytealg.IndexByteString", "internal/bytealg.IndexString"], unfollowed := true, recurses := true, named := ["unicode/utf8.first", "unicode/utf8.acceptRanges", "internal/bytealg.MaxLen"], apart := false, laid := [("unicode/utf8.acceptRanges", laid_unicode_utf8_acceptRanges), ("unicode/utf8.first", laid_unicode_utf8_first)] }
def FnExactClassOfSaid : Prop := fnExactClassOfRow.holds Tryd.pinned (OpenSpec.ofChange fnExactClassOfSpec)

/-- ITS FALSE NEIGHBOUR: 'it returns false'. Refute it at one input. -/
def fnExactClassOfWrong : ChangeSpec := { name := "fnExactClassOf", fn := fun _ => fun
  | [d1, d2] => { results := [.lit (.bool false)], args := [d1, d2] }
  | _ => none }
def FnExactClassOfWrongFalsely : Prop := fnExactClassOfRow.holds Tryd.pinned (OpenSpec.ofChange fnExactClassOfWrong)

/- THE SECOND FORM. 'bulk': how many values and letters a reading holds, each counted each time it is reached (what is shared counts as often as it is met; a slice's spare places count too). A statement '..UptoSaid' is the law's where the arguments, and the package variables that the reading takes, are together of bulk at most 1048576: NARROWER than '..Said'. Prove '..Said' where nothing that the law and all that it calls make is longer than what came in: it says more and counts as full. Else prove '..UptoSaid'. A law counts once. -/
mutual
def uptoBulk {H : Type} : DataW H → Nat
  | .lit (.string bytes) => bytes.length + 1
  | .lit _ => 1
  | .nil => 1
  | .ptr d => uptoBulk d + 1
  | .slice elems spare => uptoBulkAll elems + uptoBulkAll spare + 1
  | .agg parts => uptoBulkAll parts + 1
  | .iface _ d => uptoBulk d + 1
  | .map entries => uptoBulkEntries entries + 1
  | .held _ => 1
def uptoBulkAll {H : Type} : List (DataW H) → Nat
  | [] => 0
  | d :: r => uptoBulk d + uptoBulkAll r
def uptoBulkEntries {H : Type} : List (Lit × DataW H) → Nat
  | [] => 0
  | x :: r => uptoBulkEntry x + uptoBulkEntries r
def uptoBulkEntry {H : Type} : Lit × DataW H → Nat
  | (.string bytes, d) => bytes.length + uptoBulk d + 1
  | (_, d) => uptoBulk d + 1
 end
def uptoSmall : (H : Type) → List (DataW H) → Bool := fun _ ds => decide (uptoBulkAll ds ≤ 1048576)
def OpenSpec.upto (s : _root_.Go.ChangeSpec) : _root_.Go.OpenSpec := { _root_.Go.OpenSpec.ofChange s with cond := some uptoSmall }

/-- 'laws.FnExactModRight', WHERE WHAT IT READS IS OF BULK AT MOST 1048576: true; the input reads as it did. -/
def fnExactModRightUptoRow : OpenClaim := { program := "ytgkjlfimjnhbbaadoor", sum := "f6bb8f6c54764d85399b5da083ca031838d576368f1e791c1769281aff61aa72", func := "loop.example/g00402/laws.FnExactModRight", spec := "fnExactModRight", inPlace := ["internal/bytealg.abigen_runtime_cmpstring", "internal/bytealg.IndexByteString", "internal/bytealg.IndexString"], unfollowed := true, recurses := true, named := ["unicode/utf8.first", "unicode/utf8.acceptRanges", "internal/bytealg.MaxLen"], apart := false, laid := [("unicode/utf8.acceptRanges", laid_unicode_utf8_acceptRanges), ("unicode/utf8.first", laid_unicode_utf8_first)], narrowed := true }
def FnExactModRightUptoSaid : Prop := fnExactModRightUptoRow.holds Tryd.pinned (OpenSpec.upto fnExactModRightSpec)

/-- 'laws.FnExactSchemaRight', WHERE WHAT IT READS IS OF BULK AT MOST 1048576: true; the input reads as it did. -/
def fnExactSchemaRightUptoRow : OpenClaim := { program := "ytgkjlfimjnhbbaadoor", sum := "f6bb8f6c54764d85399b5da083ca031838d576368f1e791c1769281aff61aa72", func := "loop.example/g00402/laws.FnExactSchemaRight", spec := "fnExactSchemaRight", inPlace := ["internal/bytealg.IndexByteString", "internal/bytealg.IndexString"], unfollowed := true, recurses := true, named := ["unicode/utf8.first", "unicode/utf8.acceptRanges", "internal/bytealg.MaxLen"], apart := false, laid := [("unicode/utf8.acceptRanges", laid_unicode_utf8_acceptRanges), ("unicode/utf8.first", laid_unicode_utf8_first)], narrowed := true }
def FnExactSchemaRightUptoSaid : Prop := fnExactSchemaRightUptoRow.holds Tryd.pinned (OpenSpec.upto fnExactSchemaRightSpec)

/-- 'laws.FnExactChangesRight', WHERE WHAT IT READS IS OF BULK AT MOST 1048576: true; the input reads as it did. -/
def fnExactChangesRightUptoRow : OpenClaim := { program := "ytgkjlfimjnhbbaadoor", sum := "f6bb8f6c54764d85399b5da083ca031838d576368f1e791c1769281aff61aa72", func := "loop.example/g00402/laws.FnExactChangesRight", spec := "fnExactChangesRight", inPlace := ["internal/bytealg.IndexByteString", "internal/bytealg.IndexString", "internal/bytealg.abigen_runtime_cmpstring"], unfollowed := true, recurses := true, named := ["unicode/utf8.first", "unicode/utf8.acceptRanges", "internal/bytealg.MaxLen"], apart := false, laid := [("unicode/utf8.acceptRanges", laid_unicode_utf8_acceptRanges), ("unicode/utf8.first", laid_unicode_utf8_first)], narrowed := true }
def FnExactChangesRightUptoSaid : Prop := fnExactChangesRightUptoRow.holds Tryd.pinned (OpenSpec.upto fnExactChangesRightSpec)

/-- 'laws.FnExactKnown', WHERE WHAT IT READS IS OF BULK AT MOST 1048576: true; the input reads as it did. -/
def fnExactKnownUptoRow : OpenClaim := { program := "ytgkjlfimjnhbbaadoor", sum := "f6bb8f6c54764d85399b5da083ca031838d576368f1e791c1769281aff61aa72", func := "loop.example/g00402/laws.FnExactKnown", spec := "fnExactKnown", inPlace := ["internal/bytealg.IndexByteString", "internal/bytealg.IndexString"], unfollowed := true, recurses := true, named := ["unicode/utf8.first", "unicode/utf8.acceptRanges", "internal/bytealg.MaxLen"], apart := false, laid := [("unicode/utf8.acceptRanges", laid_unicode_utf8_acceptRanges), ("unicode/utf8.first", laid_unicode_utf8_first)], narrowed := true }
def FnExactKnownUptoSaid : Prop := fnExactKnownUptoRow.holds Tryd.pinned (OpenSpec.upto fnExactKnownSpec)

/-- 'laws.FnExactFilterAttrs', WHERE WHAT IT READS IS OF BULK AT MOST 1048576: true; the input reads as it did. -/
def fnExactFilterAttrsUptoRow : OpenClaim := { program := "ytgkjlfimjnhbbaadoor", sum := "f6bb8f6c54764d85399b5da083ca031838d576368f1e791c1769281aff61aa72", func := "loop.example/g00402/laws.FnExactFilterAttrs", spec := "fnExactFilterAttrs", inPlace := ["internal/bytealg.IndexByteString", "internal/bytealg.IndexString"], recurses := true, named := ["unicode/utf8.first", "unicode/utf8.acceptRanges", "internal/bytealg.MaxLen"], apart := false, laid := [("unicode/utf8.acceptRanges", laid_unicode_utf8_acceptRanges), ("unicode/utf8.first", laid_unicode_utf8_first)], narrowed := true }
def FnExactFilterAttrsUptoSaid : Prop := fnExactFilterAttrsUptoRow.holds Tryd.pinned (OpenSpec.upto fnExactFilterAttrsSpec)

/-- 'laws.FnExactClassOf', WHERE WHAT IT READS IS OF BULK AT MOST 1048576: true; the input reads as it did. -/
def fnExactClassOfUptoRow : OpenClaim := { program := "ytgkjlfimjnhbbaadoor", sum := "f6bb8f6c54764d85399b5da083ca031838d576368f1e791c1769281aff61aa72", func := "loop.example/g00402/laws.FnExactClassOf", spec := "fnExactClassOf", inPlace := ["internal/bytealg.IndexByteString", "internal/bytealg.IndexString"], unfollowed := true, recurses := true, named := ["unicode/utf8.first", "unicode/utf8.acceptRanges", "internal/bytealg.MaxLen"], apart := false, laid := [("unicode/utf8.acceptRanges", laid_unicode_utf8_acceptRanges), ("unicode/utf8.first", laid_unicode_utf8_first)], narrowed := true }
def FnExactClassOfUptoSaid : Prop := fnExactClassOfUptoRow.holds Tryd.pinned (OpenSpec.upto fnExactClassOfSpec)

end Rows
end Go.Proofs.YtgkjlfimjnhbbaaDoor
