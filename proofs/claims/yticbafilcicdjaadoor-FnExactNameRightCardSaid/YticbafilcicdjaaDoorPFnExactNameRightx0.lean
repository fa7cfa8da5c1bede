-- Laid by this session's own program out of the translation; Lean checks it.
import Derived.Test.YticbafilcicdjaaDoorProg
import Derived.Below
import Derived.Deep.Draws
import Derived.Deep.AppendLies
import Derived.Maps.AppendAt
import Derived.OwnWalk
import Derived.Laws.BytesArg
import Derived.Laws.MakeOwn
import Derived.Laws.OwnMore
import Derived.Deep.OwnRows
import Derived.Tactics
import Derived.Lib.ConvBytes
import Derived.Laws.Slices
import Derived.WalkKit
import Derived.KernelRfl
import Derived.RowKit3
import Derived.Deep.LoopGhost
import Derived.Deep.QuietTactic
import Derived.BigQuiet
import Derived.WideLaws
import Derived.Deep.DeepCutAuto
import Derived.Deep.CutBlock
import Derived.Deep.RegionHeld3
import Derived.Laws.Rows
import Derived.Lib.AppendStr
import Derived.ArgAppend
import Derived.Laws.IdiomCopy
import Derived.OrdersHeld
import Derived.Laws.BitsLemmas
import Derived.RowKit
import Derived.Test.YticbafilcicdjaaDoorWWords
import Derived.Test.YticbafilcicdjaaDoorWLast
import Derived.Test.YticbafilcicdjaaDoorWTab
import Derived.Test.YticbafilcicdjaaDoorWFour
import Derived.Test.YticbafilcicdjaaDoorWQPut
import Derived.Test.YticbafilcicdjaaDoorWApart
import Derived.Test.YticbafilcicdjaaDoorWArr
import Derived.Test.YticbafilcicdjaaDoorWZeros
import Derived.Test.YticbafilcicdjaaDoorWFoot
import Derived.Test.YticbafilcicdjaaDoorWKept
import Derived.Test.YticbafilcicdjaaDoorWShare
import Derived.Test.YticbafilcicdjaaDoorWN
import Derived.Test.YticbafilcicdjaaDoorWFootNe
import Derived.Test.YticbafilcicdjaaDoorWAt
import Derived.Test.YticbafilcicdjaaDoorWEqStruct
import Derived.Test.YticbafilcicdjaaDoorWRepsOne
import Derived.Test.YticbafilcicdjaaDoorWInv
import Derived.Test.YticbafilcicdjaaDoorWInvWords
import Derived.Test.YticbafilcicdjaaDoorWGuard
import Derived.Test.YticbafilcicdjaaDoorWNEv
import Derived.Test.YticbafilcicdjaaDoorWMore
namespace Go.Proofs.YticbafilcicdjaaDoor.PFnExactNameRight
open Go.RowKit Go.Proofs.YticbafilcicdjaaDoorW.PrintWords Go.Proofs.YticbafilcicdjaaDoorW.PrintLast Go.Proofs.YticbafilcicdjaaDoorW.PrintMore
attribute [local go_sem] max2_int min2_int max_two min_two max_three min_three max_four min_four   -- for this text's walks alone
set_option linter.unusedVariables false
set_option linter.unusedSimpArgs false



def errW : Option Int → Value
  | none => .nilIface
  | some c => .iface 0 (.int .i64 c)
theorem errW_none : errW none = .nilIface := rfl
theorem errW_some (c : Int) : errW (some c) = .iface 0 (.int .i64 c) := rfl

-- the values' own types

end Go.Proofs.YticbafilcicdjaaDoor.PFnExactNameRight
