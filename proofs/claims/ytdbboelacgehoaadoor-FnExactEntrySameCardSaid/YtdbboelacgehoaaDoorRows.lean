/-
  NARROWER THAN 'FOR EVERY INPUT', by the rows' own cells (each row's printed sentence says how): FnExactFilterRight: laid · FnExactDnText: laid · FnUnder: laid · FnJoin: laid · FnExactDnJoin: laid · FnExactAclRight: laid · FnExactEntryRight: laid · FnExactDnRead: laid · FnDn: laid · FnExactEntrySame: laid · FnExactAllowed: laid · FnExactEntryBytes: laid.
  DERIVED. THE GIVEN ROWS OF THIS SEAT. 12 by the template 'for every input the law returns true; each argument reads behind the call as it read before'; 0 by the template 'total and deterministic' (their statements: YtdbboelacgehoaaDoorTotals.lean).
  GIVEN WITH THE SEED: the statements are not yours to turn. If you find one false, say at which input.
  Laid BY PROGRAM, IN A SANDBOX (cutbox-rows.mjs): the forced cells as the released guide's own fill.sh prints them over the translation 0f08c11e2fe23b62… (all of the seat's roots in one cut). By AI agents, Wed Nov 11 2026. No macro, syntax, notation, axiom, sorry.
-/
import Derived.Test.YtdbboelacgehoaaDoorChecked
import GoSem.PinnedTables
import GoSem.Claim
import GoSem.ClaimJoined
import GoSem.ClaimMapViews
import Derived.JoinedTies
import Derived.KernelRfl
namespace Go.Proofs.YtdbboelacgehoaaDoor
/- THE CELL 'sum', in the pinned program and in every row, IS THE sha256 OF THE DUMP (.gsa) THAT YtdbboelacgehoaaDoorProg.lean LOADS. Nothing in Lean hashes anything: it is a label: what it is worth is what the hold of that sum in a sandbox is worth. -/
noncomputable def Tryd.pinned : Pinned := { name := "ytdbboelacgehoaadoor", sum := "0f08c11e2fe23b628e33747481202f275436a90c5daca2181198a3e04a9c1f15", checked := Tryd.checked }
namespace Rows
def none {H : Type} : Left H := { results := [], args := [] }

/- WHAT THE LISTED PACKAGE-LEVEL VARIABLES READ AS WHEN THE CALL BEGINS. Each datum BY PROGRAM (the guide's laid-datum.mjs) off the statement by which the dump's own 'gosem.cut.vars' lays the variable. In a bare row this is a premise. The card (YtdbboelacgehoaaDoorCards.lean) ties it to the program's text. -/
def laid_unicode_utf8_acceptRanges {H : Type} : DataW H := .agg [.agg [.lit (.int .u8 128), .lit (.int .u8 191)], .agg [.lit (.int .u8 160), .lit (.int .u8 191)], .agg [.lit (.int .u8 128), .lit (.int .u8 159)], .agg [.lit (.int .u8 144), .lit (.int .u8 191)], .agg [.lit (.int .u8 128), .lit (.int .u8 143)], .agg [.lit (.int .u8 0), .lit (.int .u8 0)], .agg [.lit (.int .u8 0), .lit (.int .u8 0)], .agg [.lit (.int .u8 0), .lit (.int .u8 0)], .agg [.lit (.int .u8 0), .lit (.int .u8 0)], .agg [.lit (.int .u8 0), .lit (.int .u8 0)], .agg [.lit (.int .u8 0), .lit (.int .u8 0)], .agg [.lit (.int .u8 0), .lit (.int .u8 0)], .agg [.lit (.int .u8 0), .lit (.int .u8 0)], .agg [.lit (.int .u8 0), .lit (.int .u8 0)], .agg [.lit (.int .u8 0), .lit (.int .u8 0)], .agg [.lit (.int .u8 0), .lit (.int .u8 0)]]
/-- One of Go's own tables, pinned by name: the form's constant. -/
def laid_unicode_utf8_first : DataW Unit := Go.Pinned.utf8First

/-- 'laws.FnExactFilterRight': WHATEVER THE INPUT: true; the input reads as it did. -/
def fnExactFilterRightSpec : ChangeSpec := { name := "fnExactFilterRight", fn := fun _ => fun
  | [d] => { results := [.lit (.bool true)], args := [d] }
  | _ => none }
def fnExactFilterRightRow : OpenClaim := { program := "ytdbboelacgehoaadoor", sum := "0f08c11e2fe23b628e33747481202f275436a90c5daca2181198a3e04a9c1f15", func := "loop.example/g00402/laws.FnExactFilterRight", spec := "fnExactFilterRight", inPlace := ["internal/bytealg.IndexByteString", "internal/bytealg.IndexString"], recurses := true, named := ["unicode/utf8.first", "unicode/utf8.acceptRanges", "internal/bytealg.MaxLen"], apart := false, laid := [("unicode/utf8.acceptRanges", laid_unicode_utf8_acceptRanges), ("unicode/utf8.first", laid_unicode_utf8_first)] }
def FnExactFilterRightSaid : Prop := fnExactFilterRightRow.holds Tryd.pinned (OpenSpec.ofChange fnExactFilterRightSpec)

/-- ITS FALSE NEIGHBOUR: 'it returns false'. Refute it at one input. -/
def fnExactFilterRightWrong : ChangeSpec := { name := "fnExactFilterRight", fn := fun _ => fun
  | [d] => { results := [.lit (.bool false)], args := [d] }
  | _ => none }
def FnExactFilterRightWrongFalsely : Prop := fnExactFilterRightRow.holds Tryd.pinned (OpenSpec.ofChange fnExactFilterRightWrong)

/-- 'laws.FnExactDnText': WHATEVER THE INPUT: true; the input reads as it did. -/
def fnExactDnTextSpec : ChangeSpec := { name := "fnExactDnText", fn := fun _ => fun
  | [d] => { results := [.lit (.bool true)], args := [d] }
  | _ => none }
def fnExactDnTextRow : OpenClaim := { program := "ytdbboelacgehoaadoor", sum := "0f08c11e2fe23b628e33747481202f275436a90c5daca2181198a3e04a9c1f15", func := "loop.example/g00402/laws.FnExactDnText", spec := "fnExactDnText", inPlace := ["internal/bytealg.IndexByteString", "internal/bytealg.IndexString"], unfollowed := true, recurses := true, named := ["unicode/utf8.first", "unicode/utf8.acceptRanges", "internal/bytealg.MaxLen"], apart := false, laid := [("unicode/utf8.acceptRanges", laid_unicode_utf8_acceptRanges), ("unicode/utf8.first", laid_unicode_utf8_first)] }
def FnExactDnTextSaid : Prop := fnExactDnTextRow.holds Tryd.pinned (OpenSpec.ofChange fnExactDnTextSpec)

/-- ITS FALSE NEIGHBOUR: 'it returns false'. Refute it at one input. -/
def fnExactDnTextWrong : ChangeSpec := { name := "fnExactDnText", fn := fun _ => fun
  | [d] => { results := [.lit (.bool false)], args := [d] }
  | _ => none }
def FnExactDnTextWrongFalsely : Prop := fnExactDnTextRow.holds Tryd.pinned (OpenSpec.ofChange fnExactDnTextWrong)

/-- 'laws.FnUnder': WHATEVER THE INPUT: true; the input reads as it did. -/
def fnUnderSpec : ChangeSpec := { name := "fnUnder", fn := fun _ => fun
  | [d1, d2] => { results := [.lit (.bool true)], args := [d1, d2] }
  | _ => none }
def fnUnderRow : OpenClaim := { program := "ytdbboelacgehoaadoor", sum := "0f08c11e2fe23b628e33747481202f275436a90c5daca2181198a3e04a9c1f15", func := "loop.example/g00402/laws.FnUnder", spec := "fnUnder", inPlace := ["internal/bytealg.IndexByteString", "internal/bytealg.IndexString"], unfollowed := true, recurses := true, named := ["unicode/utf8.first", "unicode/utf8.acceptRanges", "internal/bytealg.MaxLen"], apart := false, laid := [("unicode/utf8.acceptRanges", laid_unicode_utf8_acceptRanges), ("unicode/utf8.first", laid_unicode_utf8_first)] }
def FnUnderSaid : Prop := fnUnderRow.holds Tryd.pinned (OpenSpec.ofChange fnUnderSpec)

/-- ITS FALSE NEIGHBOUR: 'it returns false'. Refute it at one input. -/
def fnUnderWrong : ChangeSpec := { name := "fnUnder", fn := fun _ => fun
  | [d1, d2] => { results := [.lit (.bool false)], args := [d1, d2] }
  | _ => none }
def FnUnderWrongFalsely : Prop := fnUnderRow.holds Tryd.pinned (OpenSpec.ofChange fnUnderWrong)

/-- 'laws.FnJoin': WHATEVER THE INPUT: true; the input reads as it did. -/
def fnJoinSpec : ChangeSpec := { name := "fnJoin", fn := fun _ => fun
  | [d1, d2] => { results := [.lit (.bool true)], args := [d1, d2] }
  | _ => none }
def fnJoinRow : OpenClaim := { program := "ytdbboelacgehoaadoor", sum := "0f08c11e2fe23b628e33747481202f275436a90c5daca2181198a3e04a9c1f15", func := "loop.example/g00402/laws.FnJoin", spec := "fnJoin", inPlace := ["internal/bytealg.IndexByteString", "internal/bytealg.IndexString"], unfollowed := true, recurses := true, named := ["unicode/utf8.first", "unicode/utf8.acceptRanges", "internal/bytealg.MaxLen"], apart := false, laid := [("unicode/utf8.acceptRanges", laid_unicode_utf8_acceptRanges), ("unicode/utf8.first", laid_unicode_utf8_first)] }
def FnJoinSaid : Prop := fnJoinRow.holds Tryd.pinned (OpenSpec.ofChange fnJoinSpec)

/-- ITS FALSE NEIGHBOUR: 'it returns false'. Refute it at one input. -/
def fnJoinWrong : ChangeSpec := { name := "fnJoin", fn := fun _ => fun
  | [d1, d2] => { results := [.lit (.bool false)], args := [d1, d2] }
  | _ => none }
def FnJoinWrongFalsely : Prop := fnJoinRow.holds Tryd.pinned (OpenSpec.ofChange fnJoinWrong)

/-- 'laws.FnExactDnJoin': WHATEVER THE INPUT: true; the input reads as it did. -/
def fnExactDnJoinSpec : ChangeSpec := { name := "fnExactDnJoin", fn := fun _ => fun
  | [d1, d2] => { results := [.lit (.bool true)], args := [d1, d2] }
  | _ => none }
def fnExactDnJoinRow : OpenClaim := { program := "ytdbboelacgehoaadoor", sum := "0f08c11e2fe23b628e33747481202f275436a90c5daca2181198a3e04a9c1f15", func := "loop.example/g00402/laws.FnExactDnJoin", spec := "fnExactDnJoin", inPlace := ["internal/bytealg.IndexByteString", "internal/bytealg.IndexString"], unfollowed := true, recurses := true, named := ["unicode/utf8.first", "unicode/utf8.acceptRanges", "internal/bytealg.MaxLen"], apart := false, laid := [("unicode/utf8.acceptRanges", laid_unicode_utf8_acceptRanges), ("unicode/utf8.first", laid_unicode_utf8_first)] }
def FnExactDnJoinSaid : Prop := fnExactDnJoinRow.holds Tryd.pinned (OpenSpec.ofChange fnExactDnJoinSpec)

/-- ITS FALSE NEIGHBOUR: 'it returns false'. Refute it at one input. -/
def fnExactDnJoinWrong : ChangeSpec := { name := "fnExactDnJoin", fn := fun _ => fun
  | [d1, d2] => { results := [.lit (.bool false)], args := [d1, d2] }
  | _ => none }
def FnExactDnJoinWrongFalsely : Prop := fnExactDnJoinRow.holds Tryd.pinned (OpenSpec.ofChange fnExactDnJoinWrong)

/-- 'laws.FnExactAclRight': WHATEVER THE INPUT: true; the input reads as it did. -/
def fnExactAclRightSpec : ChangeSpec := { name := "fnExactAclRight", fn := fun _ => fun
  | [d] => { results := [.lit (.bool true)], args := [d] }
  | _ => none }
def fnExactAclRightRow : OpenClaim := { program := "ytdbboelacgehoaadoor", sum := "0f08c11e2fe23b628e33747481202f275436a90c5daca2181198a3e04a9c1f15", func := "loop.example/g00402/laws.FnExactAclRight", spec := "fnExactAclRight", inPlace := ["internal/bytealg.IndexByteString", "internal/bytealg.IndexString"], unfollowed := true, recurses := true, named := ["unicode/utf8.first", "unicode/utf8.acceptRanges", "internal/bytealg.MaxLen"], apart := false, laid := [("unicode/utf8.acceptRanges", laid_unicode_utf8_acceptRanges), ("unicode/utf8.first", laid_unicode_utf8_first)] }
def FnExactAclRightSaid : Prop := fnExactAclRightRow.holds Tryd.pinned (OpenSpec.ofChange fnExactAclRightSpec)

/-- ITS FALSE NEIGHBOUR: 'it returns false'. Refute it at one input. -/
def fnExactAclRightWrong : ChangeSpec := { name := "fnExactAclRight", fn := fun _ => fun
  | [d] => { results := [.lit (.bool false)], args := [d] }
  | _ => none }
def FnExactAclRightWrongFalsely : Prop := fnExactAclRightRow.holds Tryd.pinned (OpenSpec.ofChange fnExactAclRightWrong)

/-- 'laws.FnExactEntryRight': WHATEVER THE INPUT: true; the input reads as it did. -/
def fnExactEntryRightSpec : ChangeSpec := { name := "fnExactEntryRight", fn := fun _ => fun
  | [d] => { results := [.lit (.bool true)], args := [d] }
  | _ => none }
def fnExactEntryRightRow : OpenClaim := { program := "ytdbboelacgehoaadoor", sum := "0f08c11e2fe23b628e33747481202f275436a90c5daca2181198a3e04a9c1f15", func := "loop.example/g00402/laws.FnExactEntryRight", spec := "fnExactEntryRight", inPlace := ["internal/bytealg.IndexByteString", "internal/bytealg.IndexString", "internal/bytealg.abigen_runtime_cmpstring"], unfollowed := true, recurses := true, named := ["unicode/utf8.first", "unicode/utf8.acceptRanges", "internal/bytealg.MaxLen"], apart := false, laid := [("unicode/utf8.acceptRanges", laid_unicode_utf8_acceptRanges), ("unicode/utf8.first", laid_unicode_utf8_first)] }
def FnExactEntryRightSaid : Prop := fnExactEntryRightRow.holds Tryd.pinned (OpenSpec.ofChange fnExactEntryRightSpec)

/-- ITS FALSE NEIGHBOUR: 'it returns false'. Refute it at one input. -/
def fnExactEntryRightWrong : ChangeSpec := { name := "fnExactEntryRight", fn := fun _ => fun
  | [d] => { results := [.lit (.bool false)], args := [d] }
  | _ => none }
def FnExactEntryRightWrongFalsely : Prop := fnExactEntryRightRow.holds Tryd.pinned (OpenSpec.ofChange fnExactEntryRightWrong)

/-- 'laws.FnExactDnRead': WHATEVER THE INPUT: true; the input reads as it did. -/
def fnExactDnReadSpec : ChangeSpec := { name := "fnExactDnRead", fn := fun _ => fun
  | [d] => { results := [.lit (.bool true)], args := [d] }
  | _ => none }
def fnExactDnReadRow : OpenClaim := { program := "ytdbboelacgehoaadoor", sum := "0f08c11e2fe23b628e33747481202f275436a90c5daca2181198a3e04a9c1f15", func := "loop.example/g00402/laws.FnExactDnRead", spec := "fnExactDnRead", inPlace := ["internal/bytealg.IndexByteString", "internal/bytealg.IndexString"], unfollowed := true, recurses := true, named := ["unicode/utf8.first", "unicode/utf8.acceptRanges", "internal/bytealg.MaxLen"], apart := false, laid := [("unicode/utf8.acceptRanges", laid_unicode_utf8_acceptRanges), ("unicode/utf8.first", laid_unicode_utf8_first)] }
def FnExactDnReadSaid : Prop := fnExactDnReadRow.holds Tryd.pinned (OpenSpec.ofChange fnExactDnReadSpec)

/-- ITS FALSE NEIGHBOUR: 'it returns false'. Refute it at one input. -/
def fnExactDnReadWrong : ChangeSpec := { name := "fnExactDnRead", fn := fun _ => fun
  | [d] => { results := [.lit (.bool false)], args := [d] }
  | _ => none }
def FnExactDnReadWrongFalsely : Prop := fnExactDnReadRow.holds Tryd.pinned (OpenSpec.ofChange fnExactDnReadWrong)

/-- 'laws.FnDn': WHATEVER THE INPUT: true; the input reads as it did. -/
def fnDnSpec : ChangeSpec := { name := "fnDn", fn := fun _ => fun
  | [d1, d2] => { results := [.lit (.bool true)], args := [d1, d2] }
  | _ => none }
def fnDnRow : OpenClaim := { program := "ytdbboelacgehoaadoor", sum := "0f08c11e2fe23b628e33747481202f275436a90c5daca2181198a3e04a9c1f15", func := "loop.example/g00402/laws.FnDn", spec := "fnDn", inPlace := ["internal/bytealg.IndexByteString", "internal/bytealg.IndexString"], unfollowed := true, recurses := true, named := ["unicode/utf8.first", "unicode/utf8.acceptRanges", "internal/bytealg.MaxLen"], apart := false, laid := [("unicode/utf8.acceptRanges", laid_unicode_utf8_acceptRanges), ("unicode/utf8.first", laid_unicode_utf8_first)] }
def FnDnSaid : Prop := fnDnRow.holds Tryd.pinned (OpenSpec.ofChange fnDnSpec)

/-- ITS FALSE NEIGHBOUR: 'it returns false'. Refute it at one input. -/
def fnDnWrong : ChangeSpec := { name := "fnDn", fn := fun _ => fun
  | [d1, d2] => { results := [.lit (.bool false)], args := [d1, d2] }
  | _ => none }
def FnDnWrongFalsely : Prop := fnDnRow.holds Tryd.pinned (OpenSpec.ofChange fnDnWrong)

/-- 'laws.FnExactEntrySame': WHATEVER THE INPUT: true; the input reads as it did. -/
def fnExactEntrySameSpec : ChangeSpec := { name := "fnExactEntrySame", fn := fun _ => fun
  | [d1, d2] => { results := [.lit (.bool true)], args := [d1, d2] }
  | _ => none }
def fnExactEntrySameRow : OpenClaim := { program := "ytdbboelacgehoaadoor", sum := "0f08c11e2fe23b628e33747481202f275436a90c5daca2181198a3e04a9c1f15", func := "loop.example/g00402/laws.FnExactEntrySame", spec := "fnExactEntrySame", inPlace := ["internal/bytealg.IndexByteString", "internal/bytealg.IndexString", "internal/bytealg.abigen_runtime_cmpstring"], unfollowed := true, recurses := true, named := ["unicode/utf8.first", "unicode/utf8.acceptRanges", "internal/bytealg.MaxLen"], apart := false, laid := [("unicode/utf8.acceptRanges", laid_unicode_utf8_acceptRanges), ("unicode/utf8.first", laid_unicode_utf8_first)] }
def FnExactEntrySameSaid : Prop := fnExactEntrySameRow.holds Tryd.pinned (OpenSpec.ofChange fnExactEntrySameSpec)

/-- ITS FALSE NEIGHBOUR: 'it returns false'. Refute it at one input. -/
def fnExactEntrySameWrong : ChangeSpec := { name := "fnExactEntrySame", fn := fun _ => fun
  | [d1, d2] => { results := [.lit (.bool false)], args := [d1, d2] }
  | _ => none }
def FnExactEntrySameWrongFalsely : Prop := fnExactEntrySameRow.holds Tryd.pinned (OpenSpec.ofChange fnExactEntrySameWrong)

/-- 'laws.FnExactAllowed': WHATEVER THE INPUT: true; the input reads as it did. -/
def fnExactAllowedSpec : ChangeSpec := { name := "fnExactAllowed", fn := fun _ => fun
  | [d1, d2, d3, d4, d5] => { results := [.lit (.bool true)], args := [d1, d2, d3, d4, d5] }
  | _ => none }
def fnExactAllowedRow : OpenClaim := { program := "ytdbboelacgehoaadoor", sum := "0f08c11e2fe23b628e33747481202f275436a90c5daca2181198a3e04a9c1f15", func := "loop.example/g00402/laws.FnExactAllowed", spec := "fnExactAllowed", inPlace := ["internal/bytealg.IndexByteString", "internal/bytealg.IndexString"], unfollowed := true, recurses := true, named := ["unicode/utf8.first", "unicode/utf8.acceptRanges", "internal/bytealg.MaxLen"], apart := false, laid := [("unicode/utf8.acceptRanges", laid_unicode_utf8_acceptRanges), ("unicode/utf8.first", laid_unicode_utf8_first)] }
def FnExactAllowedSaid : Prop := fnExactAllowedRow.holds Tryd.pinned (OpenSpec.ofChange fnExactAllowedSpec)

/-- ITS FALSE NEIGHBOUR: 'it returns false'. Refute it at one input. -/
def fnExactAllowedWrong : ChangeSpec := { name := "fnExactAllowed", fn := fun _ => fun
  | [d1, d2, d3, d4, d5] => { results := [.lit (.bool false)], args := [d1, d2, d3, d4, d5] }
  | _ => none }
def FnExactAllowedWrongFalsely : Prop := fnExactAllowedRow.holds Tryd.pinned (OpenSpec.ofChange fnExactAllowedWrong)

/-- 'laws.FnExactEntryBytes': WHATEVER THE INPUT: true; the input reads as it did. -/
def fnExactEntryBytesSpec : ChangeSpec := { name := "fnExactEntryBytes", fn := fun _ => fun
  | [d] => { results := [.lit (.bool true)], args := [d] }
  | _ => none }
def fnExactEntryBytesRow : OpenClaim := { program := "ytdbboelacgehoaadoor", sum := "0f08c11e2fe23b628e33747481202f275436a90c5daca2181198a3e04a9c1f15", func := "loop.example/g00402/laws.FnExactEntryBytes", spec := "fnExactEntryBytes", inPlace := ["internal/bytealg.IndexByteString", "internal/bytealg.IndexString", "internal/bytealg.abigen_runtime_cmpstring"], unfollowed := true, recurses := true, named := ["unicode/utf8.first", "unicode/utf8.acceptRanges", "internal/bytealg.MaxLen"], apart := false, laid := [("unicode/utf8.acceptRanges", laid_unicode_utf8_acceptRanges), ("unicode/utf8.first", laid_unicode_utf8_first)] }
def FnExactEntryBytesSaid : Prop := fnExactEntryBytesRow.holds Tryd.pinned (OpenSpec.ofChange fnExactEntryBytesSpec)

/-- ITS FALSE NEIGHBOUR: 'it returns false'. Refute it at one input. -/
def fnExactEntryBytesWrong : ChangeSpec := { name := "fnExactEntryBytes", fn := fun _ => fun
  | [d] => { results := [.lit (.bool false)], args := [d] }
  | _ => none }
def FnExactEntryBytesWrongFalsely : Prop := fnExactEntryBytesRow.holds Tryd.pinned (OpenSpec.ofChange fnExactEntryBytesWrong)

/- THE SECOND FORM. 'bulk': how many values and letters a reading holds, each counted each time it is reached (what is shared counts as often as it is met; a slice's spare places count too). A statement '..UptoSaid' is the law's where the arguments, and the package variables that the reading takes, are together of bulk at most 1048576: NARROWER than '..Said'. Prove '..Said' where nothing that the law and all that it calls make is longer than what came in: it says more and counts as full. Else prove '..UptoSaid'. A law counts once. -/
mutual
def uptoBulk {H : Type} : DataW H → Nat
  | .lit (.string bytes) => bytes.length + 1
  | .lit _ => 1
  | .nil => 1
  | .ptr d => uptoBulk d + 1
  | .slice elems spare => uptoBulkAll elems + uptoBulkAll spare + 1
  | .agg parts => uptoBulkAll parts + 1
  | .iface _ d => uptoBulk d + 1
  | .map entries => uptoBulkEntries entries + 1
  | .held _ => 1
def uptoBulkAll {H : Type} : List (DataW H) → Nat
  | [] => 0
  | d :: r => uptoBulk d + uptoBulkAll r
def uptoBulkEntries {H : Type} : List (Lit × DataW H) → Nat
  | [] => 0
  | x :: r => uptoBulkEntry x + uptoBulkEntries r
def uptoBulkEntry {H : Type} : Lit × DataW H → Nat
  | (.string bytes, d) => bytes.length + uptoBulk d + 1
  | (_, d) => uptoBulk d + 1
 end
def uptoSmall : (H : Type) → List (DataW H) → Bool := fun _ ds => decide (uptoBulkAll ds ≤ 1048576)
def OpenSpec.upto (s : _root_.Go.ChangeSpec) : _root_.Go.OpenSpec := { _root_.Go.OpenSpec.ofChange s with cond := some uptoSmall }

/-- 'laws.FnExactFilterRight', WHERE WHAT IT READS IS OF BULK AT MOST 1048576: true; the input reads as it did. -/
def fnExactFilterRightUptoRow : OpenClaim := { program := "ytdbboelacgehoaadoor", sum := "0f08c11e2fe23b628e33747481202f275436a90c5daca2181198a3e04a9c1f15", func := "loop.example/g00402/laws.FnExactFilterRight", spec := "fnExactFilterRight", inPlace := ["internal/bytealg.IndexByteString", "internal/bytealg.IndexString"], recurses := true, named := ["unicode/utf8.first", "unicode/utf8.acceptRanges", "internal/bytealg.MaxLen"], apart := false, laid := [("unicode/utf8.acceptRanges", laid_unicode_utf8_acceptRanges), ("unicode/utf8.first", laid_unicode_utf8_first)], narrowed := true }
def FnExactFilterRightUptoSaid : Prop := fnExactFilterRightUptoRow.holds Tryd.pinned (OpenSpec.upto fnExactFilterRightSpec)

/-- 'laws.FnExactDnText', WHERE WHAT IT READS IS OF BULK AT MOST 1048576: true; the input reads as it did. -/
def fnExactDnTextUptoRow : OpenClaim := { program := "ytdbboelacgehoaadoor", sum := "0f08c11e2fe23b628e33747481202f275436a90c5daca2181198a3e04a9c1f15", func := "loop.example/g00402/laws.FnExactDnText", spec := "fnExactDnText", inPlace := ["internal/bytealg.IndexByteString", "internal/bytealg.IndexString"], unfollowed := true, recurses := true, named := ["unicode/utf8.first", "unicode/utf8.acceptRanges", "internal/bytealg.MaxLen"], apart := false, laid := [("unicode/utf8.acceptRanges", laid_unicode_utf8_acceptRanges), ("unicode/utf8.first", laid_unicode_utf8_first)], narrowed := true }
def FnExactDnTextUptoSaid : Prop := fnExactDnTextUptoRow.holds Tryd.pinned (OpenSpec.upto fnExactDnTextSpec)

/-- 'laws.FnUnder', WHERE WHAT IT READS IS OF BULK AT MOST 1048576: true; the input reads as it did. -/
def fnUnderUptoRow : OpenClaim := { program := "ytdbboelacgehoaadoor", sum := "0f08c11e2fe23b628e33747481202f275436a90c5daca2181198a3e04a9c1f15", func := "loop.example/g00402/laws.FnUnder", spec := "fnUnder", inPlace := ["internal/bytealg.IndexByteString", "internal/bytealg.IndexString"], unfollowed := true, recurses := true, named := ["unicode/utf8.first", "unicode/utf8.acceptRanges", "internal/bytealg.MaxLen"], apart := false, laid := [("unicode/utf8.acceptRanges", laid_unicode_utf8_acceptRanges), ("unicode/utf8.first", laid_unicode_utf8_first)], narrowed := true }
def FnUnderUptoSaid : Prop := fnUnderUptoRow.holds Tryd.pinned (OpenSpec.upto fnUnderSpec)

/-- 'laws.FnJoin', WHERE WHAT IT READS IS OF BULK AT MOST 1048576: true; the input reads as it did. -/
def fnJoinUptoRow : OpenClaim := { program := "ytdbboelacgehoaadoor", sum := "0f08c11e2fe23b628e33747481202f275436a90c5daca2181198a3e04a9c1f15", func := "loop.example/g00402/laws.FnJoin", spec := "fnJoin", inPlace := ["internal/bytealg.IndexByteString", "internal/bytealg.IndexString"], unfollowed := true, recurses := true, named := ["unicode/utf8.first", "unicode/utf8.acceptRanges", "internal/bytealg.MaxLen"], apart := false, laid := [("unicode/utf8.acceptRanges", laid_unicode_utf8_acceptRanges), ("unicode/utf8.first", laid_unicode_utf8_first)], narrowed := true }
def FnJoinUptoSaid : Prop := fnJoinUptoRow.holds Tryd.pinned (OpenSpec.upto fnJoinSpec)

/-- 'laws.FnExactDnJoin', WHERE WHAT IT READS IS OF BULK AT MOST 1048576: true; the input reads as it did. -/
def fnExactDnJoinUptoRow : OpenClaim := { program := "ytdbboelacgehoaadoor", sum := "0f08c11e2fe23b628e33747481202f275436a90c5daca2181198a3e04a9c1f15", func := "loop.example/g00402/laws.FnExactDnJoin", spec := "fnExactDnJoin", inPlace := ["internal/bytealg.IndexByteString", "internal/bytealg.IndexString"], unfollowed := true, recurses := true, named := ["unicode/utf8.first", "unicode/utf8.acceptRanges", "internal/bytealg.MaxLen"], apart := false, laid := [("unicode/utf8.acceptRanges", laid_unicode_utf8_acceptRanges), ("unicode/utf8.first", laid_unicode_utf8_first)], narrowed := true }
def FnExactDnJoinUptoSaid : Prop := fnExactDnJoinUptoRow.holds Tryd.pinned (OpenSpec.upto fnExactDnJoinSpec)

/-- 'laws.FnExactAclRight', WHERE WHAT IT READS IS OF BULK AT MOST 1048576: true; the input reads as it did. -/
def fnExactAclRightUptoRow : OpenClaim := { program := "ytdbboelacgehoaadoor", sum := "0f08c11e2fe23b628e33747481202f275436a90c5daca2181198a3e04a9c1f15", func := "loop.example/g00402/laws.FnExactAclRight", spec := "fnExactAclRight", inPlace := ["internal/bytealg.IndexByteString", "internal/bytealg.IndexString"], unfollowed := true, recurses := true, named := ["unicode/utf8.first", "unicode/utf8.acceptRanges", "internal/bytealg.MaxLen"], apart := false, laid := [("unicode/utf8.acceptRanges", laid_unicode_utf8_acceptRanges), ("unicode/utf8.first", laid_unicode_utf8_first)], narrowed := true }
def FnExactAclRightUptoSaid : Prop := fnExactAclRightUptoRow.holds Tryd.pinned (OpenSpec.upto fnExactAclRightSpec)

/-- 'laws.FnExactEntryRight', WHERE WHAT IT READS IS OF BULK AT MOST 1048576: true; the input reads as it did. -/
def fnExactEntryRightUptoRow : OpenClaim := { program := "ytdbboelacgehoaadoor", sum := "0f08c11e2fe23b628e33747481202f275436a90c5daca2181198a3e04a9c1f15", func := "loop.example/g00402/laws.FnExactEntryRight", spec := "fnExactEntryRight", inPlace := ["internal/bytealg.IndexByteString", "internal/bytealg.IndexString", "internal/bytealg.abigen_runtime_cmpstring"], unfollowed := true, recurses := true, named := ["unicode/utf8.first", "unicode/utf8.acceptRanges", "internal/bytealg.MaxLen"], apart := false, laid := [("unicode/utf8.acceptRanges", laid_unicode_utf8_acceptRanges), ("unicode/utf8.first", laid_unicode_utf8_first)], narrowed := true }
def FnExactEntryRightUptoSaid : Prop := fnExactEntryRightUptoRow.holds Tryd.pinned (OpenSpec.upto fnExactEntryRightSpec)

/-- 'laws.FnExactDnRead', WHERE WHAT IT READS IS OF BULK AT MOST 1048576: true; the input reads as it did. -/
def fnExactDnReadUptoRow : OpenClaim := { program := "ytdbboelacgehoaadoor", sum := "0f08c11e2fe23b628e33747481202f275436a90c5daca2181198a3e04a9c1f15", func := "loop.example/g00402/laws.FnExactDnRead", spec := "fnExactDnRead", inPlace := ["internal/bytealg.IndexByteString", "internal/bytealg.IndexString"], unfollowed := true, recurses := true, named := ["unicode/utf8.first", "unicode/utf8.acceptRanges", "internal/bytealg.MaxLen"], apart := false, laid := [("unicode/utf8.acceptRanges", laid_unicode_utf8_acceptRanges), ("unicode/utf8.first", laid_unicode_utf8_first)], narrowed := true }
def FnExactDnReadUptoSaid : Prop := fnExactDnReadUptoRow.holds Tryd.pinned (OpenSpec.upto fnExactDnReadSpec)

/-- 'laws.FnDn', WHERE WHAT IT READS IS OF BULK AT MOST 1048576: true; the input reads as it did. -/
def fnDnUptoRow : OpenClaim := { program := "ytdbboelacgehoaadoor", sum := "0f08c11e2fe23b628e33747481202f275436a90c5daca2181198a3e04a9c1f15", func := "loop.example/g00402/laws.FnDn", spec := "fnDn", inPlace := ["internal/bytealg.IndexByteString", "internal/bytealg.IndexString"], unfollowed := true, recurses := true, named := ["unicode/utf8.first", "unicode/utf8.acceptRanges", "internal/bytealg.MaxLen"], apart := false, laid := [("unicode/utf8.acceptRanges", laid_unicode_utf8_acceptRanges), ("unicode/utf8.first", laid_unicode_utf8_first)], narrowed := true }
def FnDnUptoSaid : Prop := fnDnUptoRow.holds Tryd.pinned (OpenSpec.upto fnDnSpec)

/-- 'laws.FnExactEntrySame', WHERE WHAT IT READS IS OF BULK AT MOST 1048576: true; the input reads as it did. -/
def fnExactEntrySameUptoRow : OpenClaim := { program := "ytdbboelacgehoaadoor", sum := "0f08c11e2fe23b628e33747481202f275436a90c5daca2181198a3e04a9c1f15", func := "loop.example/g00402/laws.FnExactEntrySame", spec := "fnExactEntrySame", inPlace := ["internal/bytealg.IndexByteString", "internal/bytealg.IndexString", "internal/bytealg.abigen_runtime_cmpstring"], unfollowed := true, recurses := true, named := ["unicode/utf8.first", "unicode/utf8.acceptRanges", "internal/bytealg.MaxLen"], apart := false, laid := [("unicode/utf8.acceptRanges", laid_unicode_utf8_acceptRanges), ("unicode/utf8.first", laid_unicode_utf8_first)], narrowed := true }
def FnExactEntrySameUptoSaid : Prop := fnExactEntrySameUptoRow.holds Tryd.pinned (OpenSpec.upto fnExactEntrySameSpec)

/-- 'laws.FnExactAllowed', WHERE WHAT IT READS IS OF BULK AT MOST 1048576: true; the input reads as it did. -/
def fnExactAllowedUptoRow : OpenClaim := { program := "ytdbboelacgehoaadoor", sum := "0f08c11e2fe23b628e33747481202f275436a90c5daca2181198a3e04a9c1f15", func := "loop.example/g00402/laws.FnExactAllowed", spec := "fnExactAllowed", inPlace := ["internal/bytealg.IndexByteString", "internal/bytealg.IndexString"], unfollowed := true, recurses := true, named := ["unicode/utf8.first", "unicode/utf8.acceptRanges", "internal/bytealg.MaxLen"], apart := false, laid := [("unicode/utf8.acceptRanges", laid_unicode_utf8_acceptRanges), ("unicode/utf8.first", laid_unicode_utf8_first)], narrowed := true }
def FnExactAllowedUptoSaid : Prop := fnExactAllowedUptoRow.holds Tryd.pinned (OpenSpec.upto fnExactAllowedSpec)

/-- 'laws.FnExactEntryBytes', WHERE WHAT IT READS IS OF BULK AT MOST 1048576: true; the input reads as it did. -/
def fnExactEntryBytesUptoRow : OpenClaim := { program := "ytdbboelacgehoaadoor", sum := "0f08c11e2fe23b628e33747481202f275436a90c5daca2181198a3e04a9c1f15", func := "loop.example/g00402/laws.FnExactEntryBytes", spec := "fnExactEntryBytes", inPlace := ["internal/bytealg.IndexByteString", "internal/bytealg.IndexString", "internal/bytealg.abigen_runtime_cmpstring"], unfollowed := true, recurses := true, named := ["unicode/utf8.first", "unicode/utf8.acceptRanges", "internal/bytealg.MaxLen"], apart := false, laid := [("unicode/utf8.acceptRanges", laid_unicode_utf8_acceptRanges), ("unicode/utf8.first", laid_unicode_utf8_first)], narrowed := true }
def FnExactEntryBytesUptoSaid : Prop := fnExactEntryBytesUptoRow.holds Tryd.pinned (OpenSpec.upto fnExactEntryBytesSpec)

end Rows
end Go.Proofs.YtdbboelacgehoaaDoor
