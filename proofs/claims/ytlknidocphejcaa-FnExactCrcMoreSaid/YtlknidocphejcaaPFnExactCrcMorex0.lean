-- Laid by this session's own program out of the translation; Lean checks it.
import Derived.Test.YtlknidocphejcaaProg
import Derived.Below
import Derived.Deep.Draws
import Derived.Deep.AppendLies
import Derived.Maps.AppendAt
import Derived.OwnWalk
import Derived.Laws.BytesArg
import Derived.Laws.MakeOwn
import Derived.Laws.OwnMore
import Derived.Deep.OwnRows
import Derived.Tactics
import Derived.Lib.ConvBytes
import Derived.Laws.Slices
import Derived.WalkKit
import Derived.KernelRfl
import Derived.RowKit3
import Derived.Deep.LoopGhost
import Derived.Deep.QuietTactic
import Derived.BigQuiet
import Derived.WideLaws
import Derived.Deep.DeepCutAuto
import Derived.Deep.CutBlock
import Derived.Deep.RegionHeld3
import Derived.Laws.Rows
import Derived.Lib.AppendStr
import Derived.ArgAppend
import Derived.Laws.IdiomCopy
import Derived.OrdersHeld
import Derived.Laws.BitsLemmas
import Derived.RowKit
import Derived.Test.YtlknidocphejcaaWWords
import Derived.Test.YtlknidocphejcaaWLast
import Derived.Test.YtlknidocphejcaaWTab
import Derived.Test.YtlknidocphejcaaWFour
import Derived.Test.YtlknidocphejcaaWQPut
import Derived.Test.YtlknidocphejcaaWApart
import Derived.Test.YtlknidocphejcaaWArr
import Derived.Test.YtlknidocphejcaaWZeros
import Derived.Test.YtlknidocphejcaaWFoot
import Derived.Test.YtlknidocphejcaaWKept
import Derived.Test.YtlknidocphejcaaWShare
import Derived.Test.YtlknidocphejcaaWN
import Derived.Test.YtlknidocphejcaaWFootNe
import Derived.Test.YtlknidocphejcaaWAt
import Derived.Test.YtlknidocphejcaaWEqStruct
import Derived.Test.YtlknidocphejcaaWRepsOne
import Derived.Test.YtlknidocphejcaaWInv
import Derived.Test.YtlknidocphejcaaWInvWords
import Derived.Test.YtlknidocphejcaaWGuard
import Derived.Test.YtlknidocphejcaaWNEv
import Derived.Test.YtlknidocphejcaaWMore
namespace Go.Proofs.Ytlknidocphejcaa.PFnExactCrcMore
open Go.RowKit Go.Proofs.YtlknidocphejcaaW.PrintWords Go.Proofs.YtlknidocphejcaaW.PrintLast Go.Proofs.YtlknidocphejcaaW.PrintMore
attribute [local go_sem] max2_int min2_int max_two min_two max_three min_three max_four min_four   -- for this text's walks alone
set_option linter.unusedVariables false
set_option linter.unusedSimpArgs false



def errW : Option Int → Value
  | none => .nilIface
  | some c => .iface 0 (.int .i64 c)
theorem errW_none : errW none = .nilIface := rfl
theorem errW_some (c : Int) : errW (some c) = .iface 0 (.int .i64 c) := rfl

theorem info9 : (Try.prog.info? 9).map (fun i => (i.zero, i.size, i.bytes)) = some (some (.string ⟨#[]⟩), 1, 16) := by kernel_rfl
-- the values' own types

end Go.Proofs.Ytlknidocphejcaa.PFnExactCrcMore
