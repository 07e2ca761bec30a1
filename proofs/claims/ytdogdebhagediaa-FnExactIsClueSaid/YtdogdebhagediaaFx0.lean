/- A part of this seat's proof, written by a program of this claim: Go functions as plain Lean functions, each with a proof that a call of the Go function answers as the Lean function says; and the rows of the laws. What is asked stands in each theorem. -/
import Derived.Test.YtdogdebhagediaaProg
import Derived.Below
import Derived.Deep.Draws
import Derived.Deep.AppendLies
import Derived.Maps.AppendAt
import Derived.OwnWalk
import Derived.Laws.BytesArg
import Derived.Laws.MakeOwn
import Derived.Laws.OwnMore
import Derived.Deep.OwnRows
import Derived.Tactics
import Derived.Lib.ConvBytes
import Derived.Laws.Slices
import Derived.WalkKit
import Derived.KernelRfl
import Derived.RowKit3
import Derived.Deep.LoopGhost
import Derived.Deep.QuietTactic
import Derived.BigQuiet
import Derived.WideLaws
import Derived.Deep.DeepCutAuto
import Derived.Deep.CutBlock
import Derived.Deep.RegionHeld3
import Derived.Laws.Rows
import Derived.Lib.AppendStr
import Derived.ArgAppend
import Derived.Laws.IdiomCopy
import Derived.OrdersHeld
import Derived.Laws.BitsLemmas
import Derived.RowKit
import Derived.Shelf.Abstract
import Derived.Test.YtdogdebhagediaaWWords
import Derived.Test.YtdogdebhagediaaWLast
import Derived.Test.YtdogdebhagediaaWTab
import Derived.Test.YtdogdebhagediaaWFour
import Derived.Test.YtdogdebhagediaaWQPut
import Derived.Test.YtdogdebhagediaaWApart
import Derived.Test.YtdogdebhagediaaWArr
import Derived.Test.YtdogdebhagediaaWZeros
import Derived.Test.YtdogdebhagediaaWFoot
import Derived.Test.YtdogdebhagediaaWKept
import Derived.Test.YtdogdebhagediaaWShare
import Derived.Test.YtdogdebhagediaaWN
import Derived.Test.YtdogdebhagediaaWFootNe
import Derived.Test.YtdogdebhagediaaWAt
import Derived.Test.YtdogdebhagediaaWEqStruct
import Derived.Test.YtdogdebhagediaaWRepsOne
import Derived.Test.YtdogdebhagediaaWInv
import Derived.Test.YtdogdebhagediaaWInvWords
import Derived.Test.YtdogdebhagediaaWGuard
import Derived.Test.YtdogdebhagediaaWNEv
import Derived.Test.YtdogdebhagediaaWMore
namespace Go.Proofs.Ytdogdebhagediaa.P
open Go.RowKit Go.Proofs.YtdogdebhagediaaW.PrintWords Go.Proofs.YtdogdebhagediaaW.PrintLast Go.Proofs.YtdogdebhagediaaW.PrintMore
attribute [local go_sem] max2_int min2_int max_two min_two max_three min_three max_four min_four   -- for this text's walks alone
set_option linter.unusedVariables false
set_option linter.unusedSimpArgs false



def errW : Option Int → Value
  | none => .nilIface
  | some c => .iface 0 (.int .i64 c)
theorem errW_none : errW none = .nilIface := rfl
theorem errW_some (c : Int) : errW (some c) = .iface 0 (.int .i64 c) := rfl

theorem info3 : (Try.prog.info? 3).map (fun i => (i.zero, i.size, i.bytes)) = some (some (.int .i64 0), 1, 8) := by kernel_rfl
-- the values' own types

end Go.Proofs.Ytdogdebhagediaa.P
