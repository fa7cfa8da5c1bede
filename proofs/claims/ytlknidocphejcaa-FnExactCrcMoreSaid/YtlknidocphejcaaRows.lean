/-
  No cell of these rows narrows 'for every input' (looked for: loops, veiled, ifaces, maps, wideKeys, modest, calm, conditions, laid).
  DERIVED. THE GIVEN ROWS OF THIS SEAT. 10 by the template 'for every input the law returns true; each argument reads behind the call as it read before'; 0 by the template 'total and deterministic' (their statements: YtlknidocphejcaaTotals.lean).
  GIVEN WITH THE SEED: the statements are not yours to turn. If you find one false, say at which input.
  Laid BY PROGRAM, IN A SANDBOX (cutbox-rows.mjs): the forced cells as the released guide's own fill.sh prints them over the translation d2feb076fcbda3e8… (all of the seat's roots in one cut). By AI agents, Wed Nov 11 2026. No macro, syntax, notation, axiom, sorry.
-/
import Derived.Test.YtlknidocphejcaaChecked
import GoSem.Claim
import GoSem.ClaimJoined
import GoSem.ClaimMapViews
import Derived.JoinedTies
import Derived.KernelRfl
namespace Go.Proofs.Ytlknidocphejcaa
/- THE CELL 'sum', in the pinned program and in every row, IS THE sha256 OF THE DUMP (.gsa) THAT YtlknidocphejcaaProg.lean LOADS. Nothing in Lean hashes anything: it is a label: what it is worth is what the hold of that sum in a sandbox is worth. -/
noncomputable def Try.pinned : Pinned := { name := "ytlknidocphejcaa", sum := "d2feb076fcbda3e8dc5ecdeca728f67a9d15582a2a65c5e6b4200cb38687c794", checked := Try.checked }
namespace Rows
def none {H : Type} : Left H := { results := [], args := [] }

/-- 'laws.FnExactConstants': WHATEVER THE INPUT: true; the input reads as it did. -/
def fnExactConstantsSpec : ChangeSpec := { name := "fnExactConstants", fn := fun _ => fun
  | [] => { results := [.lit (.bool true)], args := [] }
  | _ => none }
def fnExactConstantsRow : OpenClaim := { program := "ytlknidocphejcaa", sum := "d2feb076fcbda3e8dc5ecdeca728f67a9d15582a2a65c5e6b4200cb38687c794", func := "loop.example/g00402/laws.FnExactConstants", spec := "fnExactConstants", apart := false }
def FnExactConstantsSaid : Prop := fnExactConstantsRow.holds Try.pinned (OpenSpec.ofChange fnExactConstantsSpec)

/-- ITS FALSE NEIGHBOUR: 'it returns false'. Refute it at one input. -/
def fnExactConstantsWrong : ChangeSpec := { name := "fnExactConstants", fn := fun _ => fun
  | [] => { results := [.lit (.bool false)], args := [] }
  | _ => none }
def FnExactConstantsWrongFalsely : Prop := fnExactConstantsRow.holds Try.pinned (OpenSpec.ofChange fnExactConstantsWrong)

/-- 'laws.FnExactNot': WHATEVER THE INPUT: true; the input reads as it did. -/
def fnExactNotSpec : ChangeSpec := { name := "fnExactNot", fn := fun _ => fun
  | [d] => { results := [.lit (.bool true)], args := [d] }
  | _ => none }
def fnExactNotRow : OpenClaim := { program := "ytlknidocphejcaa", sum := "d2feb076fcbda3e8dc5ecdeca728f67a9d15582a2a65c5e6b4200cb38687c794", func := "loop.example/g00402/laws.FnExactNot", spec := "fnExactNot", apart := false }
def FnExactNotSaid : Prop := fnExactNotRow.holds Try.pinned (OpenSpec.ofChange fnExactNotSpec)

/-- ITS FALSE NEIGHBOUR: 'it returns false'. Refute it at one input. -/
def fnExactNotWrong : ChangeSpec := { name := "fnExactNot", fn := fun _ => fun
  | [d] => { results := [.lit (.bool false)], args := [d] }
  | _ => none }
def FnExactNotWrongFalsely : Prop := fnExactNotRow.holds Try.pinned (OpenSpec.ofChange fnExactNotWrong)

/-- 'laws.FnExactPutNum': WHATEVER THE INPUT: true; the input reads as it did. -/
def fnExactPutNumSpec : ChangeSpec := { name := "fnExactPutNum", fn := fun _ => fun
  | [d] => { results := [.lit (.bool true)], args := [d] }
  | _ => none }
def fnExactPutNumRow : OpenClaim := { program := "ytlknidocphejcaa", sum := "d2feb076fcbda3e8dc5ecdeca728f67a9d15582a2a65c5e6b4200cb38687c794", func := "loop.example/g00402/laws.FnExactPutNum", spec := "fnExactPutNum", apart := false }
def FnExactPutNumSaid : Prop := fnExactPutNumRow.holds Try.pinned (OpenSpec.ofChange fnExactPutNumSpec)

/-- ITS FALSE NEIGHBOUR: 'it returns false'. Refute it at one input. -/
def fnExactPutNumWrong : ChangeSpec := { name := "fnExactPutNum", fn := fun _ => fun
  | [d] => { results := [.lit (.bool false)], args := [d] }
  | _ => none }
def FnExactPutNumWrongFalsely : Prop := fnExactPutNumRow.holds Try.pinned (OpenSpec.ofChange fnExactPutNumWrong)

/-- 'laws.FnExactBerPut': WHATEVER THE INPUT: true; the input reads as it did. -/
def fnExactBerPutSpec : ChangeSpec := { name := "fnExactBerPut", fn := fun _ => fun
  | [d1, d2] => { results := [.lit (.bool true)], args := [d1, d2] }
  | _ => none }
def fnExactBerPutRow : OpenClaim := { program := "ytlknidocphejcaa", sum := "d2feb076fcbda3e8dc5ecdeca728f67a9d15582a2a65c5e6b4200cb38687c794", func := "loop.example/g00402/laws.FnExactBerPut", spec := "fnExactBerPut", apart := false }
def FnExactBerPutSaid : Prop := fnExactBerPutRow.holds Try.pinned (OpenSpec.ofChange fnExactBerPutSpec)

/-- ITS FALSE NEIGHBOUR: 'it returns false'. Refute it at one input. -/
def fnExactBerPutWrong : ChangeSpec := { name := "fnExactBerPut", fn := fun _ => fun
  | [d1, d2] => { results := [.lit (.bool false)], args := [d1, d2] }
  | _ => none }
def FnExactBerPutWrongFalsely : Prop := fnExactBerPutRow.holds Try.pinned (OpenSpec.ofChange fnExactBerPutWrong)

/-- 'laws.FnExactPutText': WHATEVER THE INPUT: true; the input reads as it did. -/
def fnExactPutTextSpec : ChangeSpec := { name := "fnExactPutText", fn := fun _ => fun
  | [d] => { results := [.lit (.bool true)], args := [d] }
  | _ => none }
def fnExactPutTextRow : OpenClaim := { program := "ytlknidocphejcaa", sum := "d2feb076fcbda3e8dc5ecdeca728f67a9d15582a2a65c5e6b4200cb38687c794", func := "loop.example/g00402/laws.FnExactPutText", spec := "fnExactPutText", apart := false }
def FnExactPutTextSaid : Prop := fnExactPutTextRow.holds Try.pinned (OpenSpec.ofChange fnExactPutTextSpec)

/-- ITS FALSE NEIGHBOUR: 'it returns false'. Refute it at one input. -/
def fnExactPutTextWrong : ChangeSpec := { name := "fnExactPutText", fn := fun _ => fun
  | [d] => { results := [.lit (.bool false)], args := [d] }
  | _ => none }
def FnExactPutTextWrongFalsely : Prop := fnExactPutTextRow.holds Try.pinned (OpenSpec.ofChange fnExactPutTextWrong)

/-- 'laws.FnExactSeal': WHATEVER THE INPUT: true; the input reads as it did. -/
def fnExactSealSpec : ChangeSpec := { name := "fnExactSeal", fn := fun _ => fun
  | [d] => { results := [.lit (.bool true)], args := [d] }
  | _ => none }
def fnExactSealRow : OpenClaim := { program := "ytlknidocphejcaa", sum := "d2feb076fcbda3e8dc5ecdeca728f67a9d15582a2a65c5e6b4200cb38687c794", func := "loop.example/g00402/laws.FnExactSeal", spec := "fnExactSeal", apart := false }
def FnExactSealSaid : Prop := fnExactSealRow.holds Try.pinned (OpenSpec.ofChange fnExactSealSpec)

/-- ITS FALSE NEIGHBOUR: 'it returns false'. Refute it at one input. -/
def fnExactSealWrong : ChangeSpec := { name := "fnExactSeal", fn := fun _ => fun
  | [d] => { results := [.lit (.bool false)], args := [d] }
  | _ => none }
def FnExactSealWrongFalsely : Prop := fnExactSealRow.holds Try.pinned (OpenSpec.ofChange fnExactSealWrong)

/-- 'laws.FnExactCrc': WHATEVER THE INPUT: true; the input reads as it did. -/
def fnExactCrcSpec : ChangeSpec := { name := "fnExactCrc", fn := fun _ => fun
  | [d] => { results := [.lit (.bool true)], args := [d] }
  | _ => none }
def fnExactCrcRow : OpenClaim := { program := "ytlknidocphejcaa", sum := "d2feb076fcbda3e8dc5ecdeca728f67a9d15582a2a65c5e6b4200cb38687c794", func := "loop.example/g00402/laws.FnExactCrc", spec := "fnExactCrc", apart := false }
def FnExactCrcSaid : Prop := fnExactCrcRow.holds Try.pinned (OpenSpec.ofChange fnExactCrcSpec)

/-- ITS FALSE NEIGHBOUR: 'it returns false'. Refute it at one input. -/
def fnExactCrcWrong : ChangeSpec := { name := "fnExactCrc", fn := fun _ => fun
  | [d] => { results := [.lit (.bool false)], args := [d] }
  | _ => none }
def FnExactCrcWrongFalsely : Prop := fnExactCrcRow.holds Try.pinned (OpenSpec.ofChange fnExactCrcWrong)

/-- 'laws.FnExactCrcMore': WHATEVER THE INPUT: true; the input reads as it did. -/
def fnExactCrcMoreSpec : ChangeSpec := { name := "fnExactCrcMore", fn := fun _ => fun
  | [d1, d2] => { results := [.lit (.bool true)], args := [d1, d2] }
  | _ => none }
def fnExactCrcMoreRow : OpenClaim := { program := "ytlknidocphejcaa", sum := "d2feb076fcbda3e8dc5ecdeca728f67a9d15582a2a65c5e6b4200cb38687c794", func := "loop.example/g00402/laws.FnExactCrcMore", spec := "fnExactCrcMore", apart := false }
def FnExactCrcMoreSaid : Prop := fnExactCrcMoreRow.holds Try.pinned (OpenSpec.ofChange fnExactCrcMoreSpec)

/-- ITS FALSE NEIGHBOUR: 'it returns false'. Refute it at one input. -/
def fnExactCrcMoreWrong : ChangeSpec := { name := "fnExactCrcMore", fn := fun _ => fun
  | [d1, d2] => { results := [.lit (.bool false)], args := [d1, d2] }
  | _ => none }
def FnExactCrcMoreWrongFalsely : Prop := fnExactCrcMoreRow.holds Try.pinned (OpenSpec.ofChange fnExactCrcMoreWrong)

/-- 'laws.FnExactBerInt': WHATEVER THE INPUT: true; the input reads as it did. -/
def fnExactBerIntSpec : ChangeSpec := { name := "fnExactBerInt", fn := fun _ => fun
  | [d1, d2] => { results := [.lit (.bool true)], args := [d1, d2] }
  | _ => none }
def fnExactBerIntRow : OpenClaim := { program := "ytlknidocphejcaa", sum := "d2feb076fcbda3e8dc5ecdeca728f67a9d15582a2a65c5e6b4200cb38687c794", func := "loop.example/g00402/laws.FnExactBerInt", spec := "fnExactBerInt", apart := false }
def FnExactBerIntSaid : Prop := fnExactBerIntRow.holds Try.pinned (OpenSpec.ofChange fnExactBerIntSpec)

/-- ITS FALSE NEIGHBOUR: 'it returns false'. Refute it at one input. -/
def fnExactBerIntWrong : ChangeSpec := { name := "fnExactBerInt", fn := fun _ => fun
  | [d1, d2] => { results := [.lit (.bool false)], args := [d1, d2] }
  | _ => none }
def FnExactBerIntWrongFalsely : Prop := fnExactBerIntRow.holds Try.pinned (OpenSpec.ofChange fnExactBerIntWrong)

/-- 'laws.FnExactNorm': WHATEVER THE INPUT: true; the input reads as it did. -/
def fnExactNormSpec : ChangeSpec := { name := "fnExactNorm", fn := fun _ => fun
  | [d] => { results := [.lit (.bool true)], args := [d] }
  | _ => none }
def fnExactNormRow : OpenClaim := { program := "ytlknidocphejcaa", sum := "d2feb076fcbda3e8dc5ecdeca728f67a9d15582a2a65c5e6b4200cb38687c794", func := "loop.example/g00402/laws.FnExactNorm", spec := "fnExactNorm", apart := false }
def FnExactNormSaid : Prop := fnExactNormRow.holds Try.pinned (OpenSpec.ofChange fnExactNormSpec)

/-- ITS FALSE NEIGHBOUR: 'it returns false'. Refute it at one input. -/
def fnExactNormWrong : ChangeSpec := { name := "fnExactNorm", fn := fun _ => fun
  | [d] => { results := [.lit (.bool false)], args := [d] }
  | _ => none }
def FnExactNormWrongFalsely : Prop := fnExactNormRow.holds Try.pinned (OpenSpec.ofChange fnExactNormWrong)

/- THE SECOND FORM. 'bulk': how many values and letters a reading holds, each counted each time it is reached (what is shared counts as often as it is met; a slice's spare places count too). A statement '..UptoSaid' is the law's where the arguments, and the package variables that the reading takes, are together of bulk at most 1048576: NARROWER than '..Said'. Prove '..Said' where nothing that the law and all that it calls make is longer than what came in: it says more and counts as full. Else prove '..UptoSaid'. A law counts once. -/
mutual
def uptoBulk {H : Type} : DataW H → Nat
  | .lit (.string bytes) => bytes.length + 1
  | .lit _ => 1
  | .nil => 1
  | .ptr d => uptoBulk d + 1
  | .slice elems spare => uptoBulkAll elems + uptoBulkAll spare + 1
  | .agg parts => uptoBulkAll parts + 1
  | .iface _ d => uptoBulk d + 1
  | .map entries => uptoBulkEntries entries + 1
  | .held _ => 1
def uptoBulkAll {H : Type} : List (DataW H) → Nat
  | [] => 0
  | d :: r => uptoBulk d + uptoBulkAll r
def uptoBulkEntries {H : Type} : List (Lit × DataW H) → Nat
  | [] => 0
  | x :: r => uptoBulkEntry x + uptoBulkEntries r
def uptoBulkEntry {H : Type} : Lit × DataW H → Nat
  | (.string bytes, d) => bytes.length + uptoBulk d + 1
  | (_, d) => uptoBulk d + 1
 end
def uptoSmall : (H : Type) → List (DataW H) → Bool := fun _ ds => decide (uptoBulkAll ds ≤ 1048576)
def OpenSpec.upto (s : _root_.Go.ChangeSpec) : _root_.Go.OpenSpec := { _root_.Go.OpenSpec.ofChange s with cond := some uptoSmall }

/-- 'laws.FnExactConstants', WHERE WHAT IT READS IS OF BULK AT MOST 1048576: true; the input reads as it did. -/
def fnExactConstantsUptoRow : OpenClaim := { program := "ytlknidocphejcaa", sum := "d2feb076fcbda3e8dc5ecdeca728f67a9d15582a2a65c5e6b4200cb38687c794", func := "loop.example/g00402/laws.FnExactConstants", spec := "fnExactConstants", apart := false, narrowed := true }
def FnExactConstantsUptoSaid : Prop := fnExactConstantsUptoRow.holds Try.pinned (OpenSpec.upto fnExactConstantsSpec)

/-- 'laws.FnExactNot', WHERE WHAT IT READS IS OF BULK AT MOST 1048576: true; the input reads as it did. -/
def fnExactNotUptoRow : OpenClaim := { program := "ytlknidocphejcaa", sum := "d2feb076fcbda3e8dc5ecdeca728f67a9d15582a2a65c5e6b4200cb38687c794", func := "loop.example/g00402/laws.FnExactNot", spec := "fnExactNot", apart := false, narrowed := true }
def FnExactNotUptoSaid : Prop := fnExactNotUptoRow.holds Try.pinned (OpenSpec.upto fnExactNotSpec)

/-- 'laws.FnExactPutNum', WHERE WHAT IT READS IS OF BULK AT MOST 1048576: true; the input reads as it did. -/
def fnExactPutNumUptoRow : OpenClaim := { program := "ytlknidocphejcaa", sum := "d2feb076fcbda3e8dc5ecdeca728f67a9d15582a2a65c5e6b4200cb38687c794", func := "loop.example/g00402/laws.FnExactPutNum", spec := "fnExactPutNum", apart := false, narrowed := true }
def FnExactPutNumUptoSaid : Prop := fnExactPutNumUptoRow.holds Try.pinned (OpenSpec.upto fnExactPutNumSpec)

/-- 'laws.FnExactBerPut', WHERE WHAT IT READS IS OF BULK AT MOST 1048576: true; the input reads as it did. -/
def fnExactBerPutUptoRow : OpenClaim := { program := "ytlknidocphejcaa", sum := "d2feb076fcbda3e8dc5ecdeca728f67a9d15582a2a65c5e6b4200cb38687c794", func := "loop.example/g00402/laws.FnExactBerPut", spec := "fnExactBerPut", apart := false, narrowed := true }
def FnExactBerPutUptoSaid : Prop := fnExactBerPutUptoRow.holds Try.pinned (OpenSpec.upto fnExactBerPutSpec)

/-- 'laws.FnExactPutText', WHERE WHAT IT READS IS OF BULK AT MOST 1048576: true; the input reads as it did. -/
def fnExactPutTextUptoRow : OpenClaim := { program := "ytlknidocphejcaa", sum := "d2feb076fcbda3e8dc5ecdeca728f67a9d15582a2a65c5e6b4200cb38687c794", func := "loop.example/g00402/laws.FnExactPutText", spec := "fnExactPutText", apart := false, narrowed := true }
def FnExactPutTextUptoSaid : Prop := fnExactPutTextUptoRow.holds Try.pinned (OpenSpec.upto fnExactPutTextSpec)

/-- 'laws.FnExactSeal', WHERE WHAT IT READS IS OF BULK AT MOST 1048576: true; the input reads as it did. -/
def fnExactSealUptoRow : OpenClaim := { program := "ytlknidocphejcaa", sum := "d2feb076fcbda3e8dc5ecdeca728f67a9d15582a2a65c5e6b4200cb38687c794", func := "loop.example/g00402/laws.FnExactSeal", spec := "fnExactSeal", apart := false, narrowed := true }
def FnExactSealUptoSaid : Prop := fnExactSealUptoRow.holds Try.pinned (OpenSpec.upto fnExactSealSpec)

/-- 'laws.FnExactCrc', WHERE WHAT IT READS IS OF BULK AT MOST 1048576: true; the input reads as it did. -/
def fnExactCrcUptoRow : OpenClaim := { program := "ytlknidocphejcaa", sum := "d2feb076fcbda3e8dc5ecdeca728f67a9d15582a2a65c5e6b4200cb38687c794", func := "loop.example/g00402/laws.FnExactCrc", spec := "fnExactCrc", apart := false, narrowed := true }
def FnExactCrcUptoSaid : Prop := fnExactCrcUptoRow.holds Try.pinned (OpenSpec.upto fnExactCrcSpec)

/-- 'laws.FnExactCrcMore', WHERE WHAT IT READS IS OF BULK AT MOST 1048576: true; the input reads as it did. -/
def fnExactCrcMoreUptoRow : OpenClaim := { program := "ytlknidocphejcaa", sum := "d2feb076fcbda3e8dc5ecdeca728f67a9d15582a2a65c5e6b4200cb38687c794", func := "loop.example/g00402/laws.FnExactCrcMore", spec := "fnExactCrcMore", apart := false, narrowed := true }
def FnExactCrcMoreUptoSaid : Prop := fnExactCrcMoreUptoRow.holds Try.pinned (OpenSpec.upto fnExactCrcMoreSpec)

/-- 'laws.FnExactBerInt', WHERE WHAT IT READS IS OF BULK AT MOST 1048576: true; the input reads as it did. -/
def fnExactBerIntUptoRow : OpenClaim := { program := "ytlknidocphejcaa", sum := "d2feb076fcbda3e8dc5ecdeca728f67a9d15582a2a65c5e6b4200cb38687c794", func := "loop.example/g00402/laws.FnExactBerInt", spec := "fnExactBerInt", apart := false, narrowed := true }
def FnExactBerIntUptoSaid : Prop := fnExactBerIntUptoRow.holds Try.pinned (OpenSpec.upto fnExactBerIntSpec)

/-- 'laws.FnExactNorm', WHERE WHAT IT READS IS OF BULK AT MOST 1048576: true; the input reads as it did. -/
def fnExactNormUptoRow : OpenClaim := { program := "ytlknidocphejcaa", sum := "d2feb076fcbda3e8dc5ecdeca728f67a9d15582a2a65c5e6b4200cb38687c794", func := "loop.example/g00402/laws.FnExactNorm", spec := "fnExactNorm", apart := false, narrowed := true }
def FnExactNormUptoSaid : Prop := fnExactNormUptoRow.holds Try.pinned (OpenSpec.upto fnExactNormSpec)

end Rows
end Go.Proofs.Ytlknidocphejcaa
