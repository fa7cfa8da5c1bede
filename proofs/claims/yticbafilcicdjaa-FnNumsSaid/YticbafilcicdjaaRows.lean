/-
  No cell of these rows narrows 'for every input' (looked for: loops, veiled, ifaces, maps, wideKeys, modest, calm, conditions, laid).
  DERIVED. THE GIVEN ROWS OF THIS SEAT. 6 by the template 'for every input the law returns true; each argument reads behind the call as it read before'; 0 by the template 'total and deterministic' (their statements: YticbafilcicdjaaTotals.lean).
  GIVEN WITH THE SEED: the statements are not yours to turn. If you find one false, say at which input.
  Laid BY PROGRAM, IN A SANDBOX (cutbox-rows.mjs): the forced cells as the released guide's own fill.sh prints them over the translation 116ba3b7fb8a1dc4… (all of the seat's roots in one cut). By AI agents, Wed Nov 11 2026. No macro, syntax, notation, axiom, sorry.
-/
import Derived.Test.YticbafilcicdjaaChecked
import GoSem.Claim
import GoSem.ClaimJoined
import GoSem.ClaimMapViews
import Derived.JoinedTies
import Derived.KernelRfl
namespace Go.Proofs.Yticbafilcicdjaa
/- THE CELL 'sum', in the pinned program and in every row, IS THE sha256 OF THE DUMP (.gsa) THAT YticbafilcicdjaaProg.lean LOADS. Nothing in Lean hashes anything: it is a label: what it is worth is what the hold of that sum in a sandbox is worth. -/
noncomputable def Try.pinned : Pinned := { name := "yticbafilcicdjaa", sum := "116ba3b7fb8a1dc46a84f3a0557868de73e5dd5f83bbd34b35e7a96193c4afb4", checked := Try.checked }
namespace Rows
def none {H : Type} : Left H := { results := [], args := [] }

/-- 'laws.FnExactBerIntRead': WHATEVER THE INPUT: true; the input reads as it did. -/
def fnExactBerIntReadSpec : ChangeSpec := { name := "fnExactBerIntRead", fn := fun _ => fun
  | [d] => { results := [.lit (.bool true)], args := [d] }
  | _ => none }
def fnExactBerIntReadRow : OpenClaim := { program := "yticbafilcicdjaa", sum := "116ba3b7fb8a1dc46a84f3a0557868de73e5dd5f83bbd34b35e7a96193c4afb4", func := "loop.example/g00402/laws.FnExactBerIntRead", spec := "fnExactBerIntRead", apart := false }
def FnExactBerIntReadSaid : Prop := fnExactBerIntReadRow.holds Try.pinned (OpenSpec.ofChange fnExactBerIntReadSpec)

/-- ITS FALSE NEIGHBOUR: 'it returns false'. Refute it at one input. -/
def fnExactBerIntReadWrong : ChangeSpec := { name := "fnExactBerIntRead", fn := fun _ => fun
  | [d] => { results := [.lit (.bool false)], args := [d] }
  | _ => none }
def FnExactBerIntReadWrongFalsely : Prop := fnExactBerIntReadRow.holds Try.pinned (OpenSpec.ofChange fnExactBerIntReadWrong)

/-- 'laws.FnExactUnseal': WHATEVER THE INPUT: true; the input reads as it did. -/
def fnExactUnsealSpec : ChangeSpec := { name := "fnExactUnseal", fn := fun _ => fun
  | [d] => { results := [.lit (.bool true)], args := [d] }
  | _ => none }
def fnExactUnsealRow : OpenClaim := { program := "yticbafilcicdjaa", sum := "116ba3b7fb8a1dc46a84f3a0557868de73e5dd5f83bbd34b35e7a96193c4afb4", func := "loop.example/g00402/laws.FnExactUnseal", spec := "fnExactUnseal", apart := false }
def FnExactUnsealSaid : Prop := fnExactUnsealRow.holds Try.pinned (OpenSpec.ofChange fnExactUnsealSpec)

/-- ITS FALSE NEIGHBOUR: 'it returns false'. Refute it at one input. -/
def fnExactUnsealWrong : ChangeSpec := { name := "fnExactUnseal", fn := fun _ => fun
  | [d] => { results := [.lit (.bool false)], args := [d] }
  | _ => none }
def FnExactUnsealWrongFalsely : Prop := fnExactUnsealRow.holds Try.pinned (OpenSpec.ofChange fnExactUnsealWrong)

/-- 'laws.FnNorm': WHATEVER THE INPUT: true; the input reads as it did. -/
def fnNormSpec : ChangeSpec := { name := "fnNorm", fn := fun _ => fun
  | [d] => { results := [.lit (.bool true)], args := [d] }
  | _ => none }
def fnNormRow : OpenClaim := { program := "yticbafilcicdjaa", sum := "116ba3b7fb8a1dc46a84f3a0557868de73e5dd5f83bbd34b35e7a96193c4afb4", func := "loop.example/g00402/laws.FnNorm", spec := "fnNorm", apart := false }
def FnNormSaid : Prop := fnNormRow.holds Try.pinned (OpenSpec.ofChange fnNormSpec)

/-- ITS FALSE NEIGHBOUR: 'it returns false'. Refute it at one input. -/
def fnNormWrong : ChangeSpec := { name := "fnNorm", fn := fun _ => fun
  | [d] => { results := [.lit (.bool false)], args := [d] }
  | _ => none }
def FnNormWrongFalsely : Prop := fnNormRow.holds Try.pinned (OpenSpec.ofChange fnNormWrong)

/-- 'laws.FnExactBerGet': WHATEVER THE INPUT: true; the input reads as it did. -/
def fnExactBerGetSpec : ChangeSpec := { name := "fnExactBerGet", fn := fun _ => fun
  | [d1, d2] => { results := [.lit (.bool true)], args := [d1, d2] }
  | _ => none }
def fnExactBerGetRow : OpenClaim := { program := "yticbafilcicdjaa", sum := "116ba3b7fb8a1dc46a84f3a0557868de73e5dd5f83bbd34b35e7a96193c4afb4", func := "loop.example/g00402/laws.FnExactBerGet", spec := "fnExactBerGet", apart := false }
def FnExactBerGetSaid : Prop := fnExactBerGetRow.holds Try.pinned (OpenSpec.ofChange fnExactBerGetSpec)

/-- ITS FALSE NEIGHBOUR: 'it returns false'. Refute it at one input. -/
def fnExactBerGetWrong : ChangeSpec := { name := "fnExactBerGet", fn := fun _ => fun
  | [d1, d2] => { results := [.lit (.bool false)], args := [d1, d2] }
  | _ => none }
def FnExactBerGetWrongFalsely : Prop := fnExactBerGetRow.holds Try.pinned (OpenSpec.ofChange fnExactBerGetWrong)

/-- 'laws.FnNums': WHATEVER THE INPUT: true; the input reads as it did. -/
def fnNumsSpec : ChangeSpec := { name := "fnNums", fn := fun _ => fun
  | [d1, d2] => { results := [.lit (.bool true)], args := [d1, d2] }
  | _ => none }
def fnNumsRow : OpenClaim := { program := "yticbafilcicdjaa", sum := "116ba3b7fb8a1dc46a84f3a0557868de73e5dd5f83bbd34b35e7a96193c4afb4", func := "loop.example/g00402/laws.FnNums", spec := "fnNums", apart := false }
def FnNumsSaid : Prop := fnNumsRow.holds Try.pinned (OpenSpec.ofChange fnNumsSpec)

/-- ITS FALSE NEIGHBOUR: 'it returns false'. Refute it at one input. -/
def fnNumsWrong : ChangeSpec := { name := "fnNums", fn := fun _ => fun
  | [d1, d2] => { results := [.lit (.bool false)], args := [d1, d2] }
  | _ => none }
def FnNumsWrongFalsely : Prop := fnNumsRow.holds Try.pinned (OpenSpec.ofChange fnNumsWrong)

/-- 'laws.FnSeal': WHATEVER THE INPUT: true; the input reads as it did. -/
def fnSealSpec : ChangeSpec := { name := "fnSeal", fn := fun _ => fun
  | [d1, d2] => { results := [.lit (.bool true)], args := [d1, d2] }
  | _ => none }
def fnSealRow : OpenClaim := { program := "yticbafilcicdjaa", sum := "116ba3b7fb8a1dc46a84f3a0557868de73e5dd5f83bbd34b35e7a96193c4afb4", func := "loop.example/g00402/laws.FnSeal", spec := "fnSeal", apart := false }
def FnSealSaid : Prop := fnSealRow.holds Try.pinned (OpenSpec.ofChange fnSealSpec)

/-- ITS FALSE NEIGHBOUR: 'it returns false'. Refute it at one input. -/
def fnSealWrong : ChangeSpec := { name := "fnSeal", fn := fun _ => fun
  | [d1, d2] => { results := [.lit (.bool false)], args := [d1, d2] }
  | _ => none }
def FnSealWrongFalsely : Prop := fnSealRow.holds Try.pinned (OpenSpec.ofChange fnSealWrong)

/- THE SECOND FORM. 'bulk': how many values and letters a reading holds, each counted each time it is reached (what is shared counts as often as it is met; a slice's spare places count too). A statement '..UptoSaid' is the law's where the arguments, and the package variables that the reading takes, are together of bulk at most 1048576: NARROWER than '..Said'. Prove '..Said' where nothing that the law and all that it calls make is longer than what came in: it says more and counts as full. Else prove '..UptoSaid'. A law counts once. -/
mutual
def uptoBulk {H : Type} : DataW H → Nat
  | .lit (.string bytes) => bytes.length + 1
  | .lit _ => 1
  | .nil => 1
  | .ptr d => uptoBulk d + 1
  | .slice elems spare => uptoBulkAll elems + uptoBulkAll spare + 1
  | .agg parts => uptoBulkAll parts + 1
  | .iface _ d => uptoBulk d + 1
  | .map entries => uptoBulkEntries entries + 1
  | .held _ => 1
def uptoBulkAll {H : Type} : List (DataW H) → Nat
  | [] => 0
  | d :: r => uptoBulk d + uptoBulkAll r
def uptoBulkEntries {H : Type} : List (Lit × DataW H) → Nat
  | [] => 0
  | x :: r => uptoBulkEntry x + uptoBulkEntries r
def uptoBulkEntry {H : Type} : Lit × DataW H → Nat
  | (.string bytes, d) => bytes.length + uptoBulk d + 1
  | (_, d) => uptoBulk d + 1
 end
def uptoSmall : (H : Type) → List (DataW H) → Bool := fun _ ds => decide (uptoBulkAll ds ≤ 1048576)
def OpenSpec.upto (s : _root_.Go.ChangeSpec) : _root_.Go.OpenSpec := { _root_.Go.OpenSpec.ofChange s with cond := some uptoSmall }

/-- 'laws.FnExactBerIntRead', WHERE WHAT IT READS IS OF BULK AT MOST 1048576: true; the input reads as it did. -/
def fnExactBerIntReadUptoRow : OpenClaim := { program := "yticbafilcicdjaa", sum := "116ba3b7fb8a1dc46a84f3a0557868de73e5dd5f83bbd34b35e7a96193c4afb4", func := "loop.example/g00402/laws.FnExactBerIntRead", spec := "fnExactBerIntRead", apart := false, narrowed := true }
def FnExactBerIntReadUptoSaid : Prop := fnExactBerIntReadUptoRow.holds Try.pinned (OpenSpec.upto fnExactBerIntReadSpec)

/-- 'laws.FnExactUnseal', WHERE WHAT IT READS IS OF BULK AT MOST 1048576: true; the input reads as it did. -/
def fnExactUnsealUptoRow : OpenClaim := { program := "yticbafilcicdjaa", sum := "116ba3b7fb8a1dc46a84f3a0557868de73e5dd5f83bbd34b35e7a96193c4afb4", func := "loop.example/g00402/laws.FnExactUnseal", spec := "fnExactUnseal", apart := false, narrowed := true }
def FnExactUnsealUptoSaid : Prop := fnExactUnsealUptoRow.holds Try.pinned (OpenSpec.upto fnExactUnsealSpec)

/-- 'laws.FnNorm', WHERE WHAT IT READS IS OF BULK AT MOST 1048576: true; the input reads as it did. -/
def fnNormUptoRow : OpenClaim := { program := "yticbafilcicdjaa", sum := "116ba3b7fb8a1dc46a84f3a0557868de73e5dd5f83bbd34b35e7a96193c4afb4", func := "loop.example/g00402/laws.FnNorm", spec := "fnNorm", apart := false, narrowed := true }
def FnNormUptoSaid : Prop := fnNormUptoRow.holds Try.pinned (OpenSpec.upto fnNormSpec)

/-- 'laws.FnExactBerGet', WHERE WHAT IT READS IS OF BULK AT MOST 1048576: true; the input reads as it did. -/
def fnExactBerGetUptoRow : OpenClaim := { program := "yticbafilcicdjaa", sum := "116ba3b7fb8a1dc46a84f3a0557868de73e5dd5f83bbd34b35e7a96193c4afb4", func := "loop.example/g00402/laws.FnExactBerGet", spec := "fnExactBerGet", apart := false, narrowed := true }
def FnExactBerGetUptoSaid : Prop := fnExactBerGetUptoRow.holds Try.pinned (OpenSpec.upto fnExactBerGetSpec)

/-- 'laws.FnNums', WHERE WHAT IT READS IS OF BULK AT MOST 1048576: true; the input reads as it did. -/
def fnNumsUptoRow : OpenClaim := { program := "yticbafilcicdjaa", sum := "116ba3b7fb8a1dc46a84f3a0557868de73e5dd5f83bbd34b35e7a96193c4afb4", func := "loop.example/g00402/laws.FnNums", spec := "fnNums", apart := false, narrowed := true }
def FnNumsUptoSaid : Prop := fnNumsUptoRow.holds Try.pinned (OpenSpec.upto fnNumsSpec)

/-- 'laws.FnSeal', WHERE WHAT IT READS IS OF BULK AT MOST 1048576: true; the input reads as it did. -/
def fnSealUptoRow : OpenClaim := { program := "yticbafilcicdjaa", sum := "116ba3b7fb8a1dc46a84f3a0557868de73e5dd5f83bbd34b35e7a96193c4afb4", func := "loop.example/g00402/laws.FnSeal", spec := "fnSeal", apart := false, narrowed := true }
def FnSealUptoSaid : Prop := fnSealUptoRow.holds Try.pinned (OpenSpec.upto fnSealSpec)

end Rows
end Go.Proofs.Yticbafilcicdjaa
