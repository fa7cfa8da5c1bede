/-
  NARROWER THAN 'FOR EVERY INPUT', by the rows' own cells (each row's printed sentence says how): FnExactNameRight: laid · FnExactDnRight: laid · FnExactDnKey: laid · FnExactDnSame: laid · FnExactDnUnder: laid · FnExactDnParent: laid.
  DERIVED. THE GIVEN ROWS OF THIS SEAT. 6 by the template 'for every input the law returns true; each argument reads behind the call as it read before'; 0 by the template 'total and deterministic' (their statements: YticbafilcicdjaaDoorTotals.lean).
  GIVEN WITH THE SEED: the statements are not yours to turn. If you find one false, say at which input.
  Laid BY PROGRAM, IN A SANDBOX (cutbox-rows.mjs): the forced cells as the released guide's own fill.sh prints them over the translation 7d9806e5b9702fc5… (all of the seat's roots in one cut). By AI agents, Wed Nov 11 2026. No macro, syntax, notation, axiom, sorry.
-/
import Derived.Test.YticbafilcicdjaaDoorChecked
import GoSem.PinnedTables
import GoSem.Claim
import GoSem.ClaimJoined
import GoSem.ClaimMapViews
import Derived.JoinedTies
import Derived.KernelRfl
namespace Go.Proofs.YticbafilcicdjaaDoor
/- THE CELL 'sum', in the pinned program and in every row, IS THE sha256 OF THE DUMP (.gsa) THAT YticbafilcicdjaaDoorProg.lean LOADS. Nothing in Lean hashes anything: it is a label: what it is worth is what the hold of that sum in a sandbox is worth. -/
noncomputable def Tryd.pinned : Pinned := { name := "yticbafilcicdjaadoor", sum := "7d9806e5b9702fc59b4fc8d33cd356a592b27039f81ab29734836b3a470381f1", checked := Tryd.checked }
namespace Rows
def none {H : Type} : Left H := { results := [], args := [] }

/- WHAT THE LISTED PACKAGE-LEVEL VARIABLES READ AS WHEN THE CALL BEGINS. Each datum BY PROGRAM (the guide's laid-datum.mjs) off the statement by which the dump's own 'gosem.cut.vars' lays the variable. In a bare row this is a premise. The card (YticbafilcicdjaaDoorCards.lean) ties it to the program's text. -/
def laid_unicode_utf8_acceptRanges {H : Type} : DataW H := .agg [.agg [.lit (.int .u8 128), .lit (.int .u8 191)], .agg [.lit (.int .u8 160), .lit (.int .u8 191)], .agg [.lit (.int .u8 128), .lit (.int .u8 159)], .agg [.lit (.int .u8 144), .lit (.int .u8 191)], .agg [.lit (.int .u8 128), .lit (.int .u8 143)], .agg [.lit (.int .u8 0), .lit (.int .u8 0)], .agg [.lit (.int .u8 0), .lit (.int .u8 0)], .agg [.lit (.int .u8 0), .lit (.int .u8 0)], .agg [.lit (.int .u8 0), .lit (.int .u8 0)], .agg [.lit (.int .u8 0), .lit (.int .u8 0)], .agg [.lit (.int .u8 0), .lit (.int .u8 0)], .agg [.lit (.int .u8 0), .lit (.int .u8 0)], .agg [.lit (.int .u8 0), .lit (.int .u8 0)], .agg [.lit (.int .u8 0), .lit (.int .u8 0)], .agg [.lit (.int .u8 0), .lit (.int .u8 0)], .agg [.lit (.int .u8 0), .lit (.int .u8 0)]]
/-- One of Go's own tables, pinned by name: the form's constant. -/
def laid_unicode_utf8_first : DataW Unit := Go.Pinned.utf8First

/-- 'laws.FnExactNameRight': WHATEVER THE INPUT: true; the input reads as it did. -/
def fnExactNameRightSpec : ChangeSpec := { name := "fnExactNameRight", fn := fun _ => fun
  | [d] => { results := [.lit (.bool true)], args := [d] }
  | _ => none }
def fnExactNameRightRow : OpenClaim := { program := "yticbafilcicdjaadoor", sum := "7d9806e5b9702fc59b4fc8d33cd356a592b27039f81ab29734836b3a470381f1", func := "loop.example/g00402/laws.FnExactNameRight", spec := "fnExactNameRight", inPlace := ["internal/bytealg.IndexByteString", "internal/bytealg.IndexString"], named := ["unicode/utf8.first", "unicode/utf8.acceptRanges", "internal/bytealg.MaxLen"], apart := false, laid := [("unicode/utf8.acceptRanges", laid_unicode_utf8_acceptRanges), ("unicode/utf8.first", laid_unicode_utf8_first)] }
def FnExactNameRightSaid : Prop := fnExactNameRightRow.holds Tryd.pinned (OpenSpec.ofChange fnExactNameRightSpec)

/-- ITS FALSE NEIGHBOUR: 'it returns false'. Refute it at one input. -/
def fnExactNameRightWrong : ChangeSpec := { name := "fnExactNameRight", fn := fun _ => fun
  | [d] => { results := [.lit (.bool false)], args := [d] }
  | _ => none }
def FnExactNameRightWrongFalsely : Prop := fnExactNameRightRow.holds Tryd.pinned (OpenSpec.ofChange fnExactNameRightWrong)

/-- 'laws.FnExactDnRight': WHATEVER THE INPUT: true; the input reads as it did. -/
def fnExactDnRightSpec : ChangeSpec := { name := "fnExactDnRight", fn := fun _ => fun
  | [d] => { results := [.lit (.bool true)], args := [d] }
  | _ => none }
def fnExactDnRightRow : OpenClaim := { program := "yticbafilcicdjaadoor", sum := "7d9806e5b9702fc59b4fc8d33cd356a592b27039f81ab29734836b3a470381f1", func := "loop.example/g00402/laws.FnExactDnRight", spec := "fnExactDnRight", inPlace := ["internal/bytealg.IndexByteString", "internal/bytealg.IndexString"], unfollowed := true, recurses := true, named := ["unicode/utf8.first", "unicode/utf8.acceptRanges", "internal/bytealg.MaxLen"], apart := false, laid := [("unicode/utf8.acceptRanges", laid_unicode_utf8_acceptRanges), ("unicode/utf8.first", laid_unicode_utf8_first)] }
def FnExactDnRightSaid : Prop := fnExactDnRightRow.holds Tryd.pinned (OpenSpec.ofChange fnExactDnRightSpec)

/-- ITS FALSE NEIGHBOUR: 'it returns false'. Refute it at one input. -/
def fnExactDnRightWrong : ChangeSpec := { name := "fnExactDnRight", fn := fun _ => fun
  | [d] => { results := [.lit (.bool false)], args := [d] }
  | _ => none }
def FnExactDnRightWrongFalsely : Prop := fnExactDnRightRow.holds Tryd.pinned (OpenSpec.ofChange fnExactDnRightWrong)

/-- 'laws.FnExactDnKey': WHATEVER THE INPUT: true; the input reads as it did. -/
def fnExactDnKeySpec : ChangeSpec := { name := "fnExactDnKey", fn := fun _ => fun
  | [d] => { results := [.lit (.bool true)], args := [d] }
  | _ => none }
def fnExactDnKeyRow : OpenClaim := { program := "yticbafilcicdjaadoor", sum := "7d9806e5b9702fc59b4fc8d33cd356a592b27039f81ab29734836b3a470381f1", func := "loop.example/g00402/laws.FnExactDnKey", spec := "fnExactDnKey", inPlace := ["internal/bytealg.IndexByteString", "internal/bytealg.IndexString"], unfollowed := true, recurses := true, named := ["unicode/utf8.first", "unicode/utf8.acceptRanges", "internal/bytealg.MaxLen"], apart := false, laid := [("unicode/utf8.acceptRanges", laid_unicode_utf8_acceptRanges), ("unicode/utf8.first", laid_unicode_utf8_first)] }
def FnExactDnKeySaid : Prop := fnExactDnKeyRow.holds Tryd.pinned (OpenSpec.ofChange fnExactDnKeySpec)

/-- ITS FALSE NEIGHBOUR: 'it returns false'. Refute it at one input. -/
def fnExactDnKeyWrong : ChangeSpec := { name := "fnExactDnKey", fn := fun _ => fun
  | [d] => { results := [.lit (.bool false)], args := [d] }
  | _ => none }
def FnExactDnKeyWrongFalsely : Prop := fnExactDnKeyRow.holds Tryd.pinned (OpenSpec.ofChange fnExactDnKeyWrong)

/-- 'laws.FnExactDnSame': WHATEVER THE INPUT: true; the input reads as it did. -/
def fnExactDnSameSpec : ChangeSpec := { name := "fnExactDnSame", fn := fun _ => fun
  | [d1, d2] => { results := [.lit (.bool true)], args := [d1, d2] }
  | _ => none }
def fnExactDnSameRow : OpenClaim := { program := "yticbafilcicdjaadoor", sum := "7d9806e5b9702fc59b4fc8d33cd356a592b27039f81ab29734836b3a470381f1", func := "loop.example/g00402/laws.FnExactDnSame", spec := "fnExactDnSame", inPlace := ["internal/bytealg.IndexByteString", "internal/bytealg.IndexString"], unfollowed := true, recurses := true, named := ["unicode/utf8.first", "unicode/utf8.acceptRanges", "internal/bytealg.MaxLen"], apart := false, laid := [("unicode/utf8.acceptRanges", laid_unicode_utf8_acceptRanges), ("unicode/utf8.first", laid_unicode_utf8_first)] }
def FnExactDnSameSaid : Prop := fnExactDnSameRow.holds Tryd.pinned (OpenSpec.ofChange fnExactDnSameSpec)

/-- ITS FALSE NEIGHBOUR: 'it returns false'. Refute it at one input. -/
def fnExactDnSameWrong : ChangeSpec := { name := "fnExactDnSame", fn := fun _ => fun
  | [d1, d2] => { results := [.lit (.bool false)], args := [d1, d2] }
  | _ => none }
def FnExactDnSameWrongFalsely : Prop := fnExactDnSameRow.holds Tryd.pinned (OpenSpec.ofChange fnExactDnSameWrong)

/-- 'laws.FnExactDnUnder': WHATEVER THE INPUT: true; the input reads as it did. -/
def fnExactDnUnderSpec : ChangeSpec := { name := "fnExactDnUnder", fn := fun _ => fun
  | [d1, d2] => { results := [.lit (.bool true)], args := [d1, d2] }
  | _ => none }
def fnExactDnUnderRow : OpenClaim := { program := "yticbafilcicdjaadoor", sum := "7d9806e5b9702fc59b4fc8d33cd356a592b27039f81ab29734836b3a470381f1", func := "loop.example/g00402/laws.FnExactDnUnder", spec := "fnExactDnUnder", inPlace := ["internal/bytealg.IndexByteString", "internal/bytealg.IndexString"], unfollowed := true, recurses := true, named := ["unicode/utf8.first", "unicode/utf8.acceptRanges", "internal/bytealg.MaxLen"], apart := false, laid := [("unicode/utf8.acceptRanges", laid_unicode_utf8_acceptRanges), ("unicode/utf8.first", laid_unicode_utf8_first)] }
def FnExactDnUnderSaid : Prop := fnExactDnUnderRow.holds Tryd.pinned (OpenSpec.ofChange fnExactDnUnderSpec)

/-- ITS FALSE NEIGHBOUR: 'it returns false'. Refute it at one input. -/
def fnExactDnUnderWrong : ChangeSpec := { name := "fnExactDnUnder", fn := fun _ => fun
  | [d1, d2] => { results := [.lit (.bool false)], args := [d1, d2] }
  | _ => none }
def FnExactDnUnderWrongFalsely : Prop := fnExactDnUnderRow.holds Tryd.pinned (OpenSpec.ofChange fnExactDnUnderWrong)

/-- 'laws.FnExactDnParent': WHATEVER THE INPUT: true; the input reads as it did. -/
def fnExactDnParentSpec : ChangeSpec := { name := "fnExactDnParent", fn := fun _ => fun
  | [d] => { results := [.lit (.bool true)], args := [d] }
  | _ => none }
def fnExactDnParentRow : OpenClaim := { program := "yticbafilcicdjaadoor", sum := "7d9806e5b9702fc59b4fc8d33cd356a592b27039f81ab29734836b3a470381f1", func := "loop.example/g00402/laws.FnExactDnParent", spec := "fnExactDnParent", inPlace := ["internal/bytealg.IndexByteString", "internal/bytealg.IndexString"], unfollowed := true, recurses := true, named := ["unicode/utf8.first", "unicode/utf8.acceptRanges", "internal/bytealg.MaxLen"], apart := false, laid := [("unicode/utf8.acceptRanges", laid_unicode_utf8_acceptRanges), ("unicode/utf8.first", laid_unicode_utf8_first)] }
def FnExactDnParentSaid : Prop := fnExactDnParentRow.holds Tryd.pinned (OpenSpec.ofChange fnExactDnParentSpec)

/-- ITS FALSE NEIGHBOUR: 'it returns false'. Refute it at one input. -/
def fnExactDnParentWrong : ChangeSpec := { name := "fnExactDnParent", fn := fun _ => fun
  | [d] => { results := [.lit (.bool false)], args := [d] }
  | _ => none }
def FnExactDnParentWrongFalsely : Prop := fnExactDnParentRow.holds Tryd.pinned (OpenSpec.ofChange fnExactDnParentWrong)

/- THE SECOND FORM. 'bulk': how many values and letters a reading holds, each counted each time it is reached (what is shared counts as often as it is met; a slice's spare places count too). A statement '..UptoSaid' is the law's where the arguments, and the package variables that the reading takes, are together of bulk at most 1048576: NARROWER than '..Said'. Prove '..Said' where nothing that the law and all that it calls make is longer than what came in: it says more and counts as full. Else prove '..UptoSaid'. A law counts once. -/
mutual
def uptoBulk {H : Type} : DataW H → Nat
  | .lit (.string bytes) => bytes.length + 1
  | .lit _ => 1
  | .nil => 1
  | .ptr d => uptoBulk d + 1
  | .slice elems spare => uptoBulkAll elems + uptoBulkAll spare + 1
  | .agg parts => uptoBulkAll parts + 1
  | .iface _ d => uptoBulk d + 1
  | .map entries => uptoBulkEntries entries + 1
  | .held _ => 1
def uptoBulkAll {H : Type} : List (DataW H) → Nat
  | [] => 0
  | d :: r => uptoBulk d + uptoBulkAll r
def uptoBulkEntries {H : Type} : List (Lit × DataW H) → Nat
  | [] => 0
  | x :: r => uptoBulkEntry x + uptoBulkEntries r
def uptoBulkEntry {H : Type} : Lit × DataW H → Nat
  | (.string bytes, d) => bytes.length + uptoBulk d + 1
  | (_, d) => uptoBulk d + 1
 end
def uptoSmall : (H : Type) → List (DataW H) → Bool := fun _ ds => decide (uptoBulkAll ds ≤ 1048576)
def OpenSpec.upto (s : _root_.Go.ChangeSpec) : _root_.Go.OpenSpec := { _root_.Go.OpenSpec.ofChange s with cond := some uptoSmall }

/-- 'laws.FnExactNameRight', WHERE WHAT IT READS IS OF BULK AT MOST 1048576: true; the input reads as it did. -/
def fnExactNameRightUptoRow : OpenClaim := { program := "yticbafilcicdjaadoor", sum := "7d9806e5b9702fc59b4fc8d33cd356a592b27039f81ab29734836b3a470381f1", func := "loop.example/g00402/laws.FnExactNameRight", spec := "fnExactNameRight", inPlace := ["internal/bytealg.IndexByteString", "internal/bytealg.IndexString"], named := ["unicode/utf8.first", "unicode/utf8.acceptRanges", "internal/bytealg.MaxLen"], apart := false, laid := [("unicode/utf8.acceptRanges", laid_unicode_utf8_acceptRanges), ("unicode/utf8.first", laid_unicode_utf8_first)], narrowed := true }
def FnExactNameRightUptoSaid : Prop := fnExactNameRightUptoRow.holds Tryd.pinned (OpenSpec.upto fnExactNameRightSpec)

/-- 'laws.FnExactDnRight', WHERE WHAT IT READS IS OF BULK AT MOST 1048576: true; the input reads as it did. -/
def fnExactDnRightUptoRow : OpenClaim := { program := "yticbafilcicdjaadoor", sum := "7d9806e5b9702fc59b4fc8d33cd356a592b27039f81ab29734836b3a470381f1", func := "loop.example/g00402/laws.FnExactDnRight", spec := "fnExactDnRight", inPlace := ["internal/bytealg.IndexByteString", "internal/bytealg.IndexString"], unfollowed := true, recurses := true, named := ["unicode/utf8.first", "unicode/utf8.acceptRanges", "internal/bytealg.MaxLen"], apart := false, laid := [("unicode/utf8.acceptRanges", laid_unicode_utf8_acceptRanges), ("unicode/utf8.first", laid_unicode_utf8_first)], narrowed := true }
def FnExactDnRightUptoSaid : Prop := fnExactDnRightUptoRow.holds Tryd.pinned (OpenSpec.upto fnExactDnRightSpec)

/-- 'laws.FnExactDnKey', WHERE WHAT IT READS IS OF BULK AT MOST 1048576: true; the input reads as it did. -/
def fnExactDnKeyUptoRow : OpenClaim := { program := "yticbafilcicdjaadoor", sum := "7d9806e5b9702fc59b4fc8d33cd356a592b27039f81ab29734836b3a470381f1", func := "loop.example/g00402/laws.FnExactDnKey", spec := "fnExactDnKey", inPlace := ["internal/bytealg.IndexByteString", "internal/bytealg.IndexString"], unfollowed := true, recurses := true, named := ["unicode/utf8.first", "unicode/utf8.acceptRanges", "internal/bytealg.MaxLen"], apart := false, laid := [("unicode/utf8.acceptRanges", laid_unicode_utf8_acceptRanges), ("unicode/utf8.first", laid_unicode_utf8_first)], narrowed := true }
def FnExactDnKeyUptoSaid : Prop := fnExactDnKeyUptoRow.holds Tryd.pinned (OpenSpec.upto fnExactDnKeySpec)

/-- 'laws.FnExactDnSame', WHERE WHAT IT READS IS OF BULK AT MOST 1048576: true; the input reads as it did. -/
def fnExactDnSameUptoRow : OpenClaim := { program := "yticbafilcicdjaadoor", sum := "7d9806e5b9702fc59b4fc8d33cd356a592b27039f81ab29734836b3a470381f1", func := "loop.example/g00402/laws.FnExactDnSame", spec := "fnExactDnSame", inPlace := ["internal/bytealg.IndexByteString", "internal/bytealg.IndexString"], unfollowed := true, recurses := true, named := ["unicode/utf8.first", "unicode/utf8.acceptRanges", "internal/bytealg.MaxLen"], apart := false, laid := [("unicode/utf8.acceptRanges", laid_unicode_utf8_acceptRanges), ("unicode/utf8.first", laid_unicode_utf8_first)], narrowed := true }
def FnExactDnSameUptoSaid : Prop := fnExactDnSameUptoRow.holds Tryd.pinned (OpenSpec.upto fnExactDnSameSpec)

/-- 'laws.FnExactDnUnder', WHERE WHAT IT READS IS OF BULK AT MOST 1048576: true; the input reads as it did. -/
def fnExactDnUnderUptoRow : OpenClaim := { program := "yticbafilcicdjaadoor", sum := "7d9806e5b9702fc59b4fc8d33cd356a592b27039f81ab29734836b3a470381f1", func := "loop.example/g00402/laws.FnExactDnUnder", spec := "fnExactDnUnder", inPlace := ["internal/bytealg.IndexByteString", "internal/bytealg.IndexString"], unfollowed := true, recurses := true, named := ["unicode/utf8.first", "unicode/utf8.acceptRanges", "internal/bytealg.MaxLen"], apart := false, laid := [("unicode/utf8.acceptRanges", laid_unicode_utf8_acceptRanges), ("unicode/utf8.first", laid_unicode_utf8_first)], narrowed := true }
def FnExactDnUnderUptoSaid : Prop := fnExactDnUnderUptoRow.holds Tryd.pinned (OpenSpec.upto fnExactDnUnderSpec)

/-- 'laws.FnExactDnParent', WHERE WHAT IT READS IS OF BULK AT MOST 1048576: true; the input reads as it did. -/
def fnExactDnParentUptoRow : OpenClaim := { program := "yticbafilcicdjaadoor", sum := "7d9806e5b9702fc59b4fc8d33cd356a592b27039f81ab29734836b3a470381f1", func := "loop.example/g00402/laws.FnExactDnParent", spec := "fnExactDnParent", inPlace := ["internal/bytealg.IndexByteString", "internal/bytealg.IndexString"], unfollowed := true, recurses := true, named := ["unicode/utf8.first", "unicode/utf8.acceptRanges", "internal/bytealg.MaxLen"], apart := false, laid := [("unicode/utf8.acceptRanges", laid_unicode_utf8_acceptRanges), ("unicode/utf8.first", laid_unicode_utf8_first)], narrowed := true }
def FnExactDnParentUptoSaid : Prop := fnExactDnParentUptoRow.holds Tryd.pinned (OpenSpec.upto fnExactDnParentSpec)

end Rows
end Go.Proofs.YticbafilcicdjaaDoor
