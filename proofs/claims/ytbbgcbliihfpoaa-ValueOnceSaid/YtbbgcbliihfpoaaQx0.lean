/- Functions of the program as Lean functions, each with its walk: that the Go code comes to just these answers, whatever the memory. Written by a program of this claim (wip/tools). -/
import Derived.Test.YtbbgcbliihfpoaaProg
import Derived.Below
import Derived.Deep.Draws
import Derived.Deep.AppendLies
import Derived.Maps.AppendAt
import Derived.OwnWalk
import Derived.Laws.BytesArg
import Derived.Laws.MakeOwn
import Derived.Laws.OwnMore
import Derived.Deep.OwnRows
import Derived.Tactics
import Derived.Lib.ConvBytes
import Derived.Laws.Slices
import Derived.WalkKit
import Derived.KernelRfl
import Derived.RowKit3
import Derived.Deep.LoopGhost
import Derived.Deep.QuietTactic
import Derived.BigQuiet
import Derived.WideLaws
import Derived.Deep.DeepCutAuto
import Derived.Deep.CutBlock
import Derived.Deep.RegionHeld3
import Derived.Laws.Rows
import Derived.Lib.AppendStr
import Derived.ArgAppend
import Derived.Laws.IdiomCopy
import Derived.OrdersHeld
import Derived.Laws.BitsLemmas
import Derived.RowKit
import Derived.Test.YtbbgcbliihfpoaaLab
import Derived.Test.YtbbgcbliihfpoaaFl
import Derived.LoopN
import Derived.Test.YtbbgcbliihfpoaaWWords
import Derived.Test.YtbbgcbliihfpoaaWLast
import Derived.Test.YtbbgcbliihfpoaaWTab
import Derived.Test.YtbbgcbliihfpoaaWFour
import Derived.Test.YtbbgcbliihfpoaaWQPut
import Derived.Test.YtbbgcbliihfpoaaWApart
import Derived.Test.YtbbgcbliihfpoaaWArr
import Derived.Test.YtbbgcbliihfpoaaWZeros
import Derived.Test.YtbbgcbliihfpoaaWFoot
import Derived.Test.YtbbgcbliihfpoaaWKept
import Derived.Test.YtbbgcbliihfpoaaWShare
import Derived.Test.YtbbgcbliihfpoaaWN
import Derived.Test.YtbbgcbliihfpoaaWFootNe
import Derived.Test.YtbbgcbliihfpoaaWAt
import Derived.Test.YtbbgcbliihfpoaaWEqStruct
import Derived.Test.YtbbgcbliihfpoaaWRepsOne
import Derived.Test.YtbbgcbliihfpoaaWInv
import Derived.Test.YtbbgcbliihfpoaaWInvWords
import Derived.Test.YtbbgcbliihfpoaaWGuard
import Derived.Test.YtbbgcbliihfpoaaWNEv
import Derived.Test.YtbbgcbliihfpoaaWMore
namespace Go.Proofs.Ytbbgcbliihfpoaa.Q
open Go.RowKit Go.Proofs.YtbbgcbliihfpoaaW.PrintWords Go.Proofs.YtbbgcbliihfpoaaW.PrintLast Go.Proofs.YtbbgcbliihfpoaaW.PrintMore
attribute [local go_sem] run_ftoi isSome_setCell run_store_complex run_store_float max2_int min2_int max_two min_two max_three min_three max_four min_four   -- for this text's walks alone
set_option linter.unusedVariables false
set_option linter.unusedSimpArgs false



def errW : Option Int → Value
  | none => .nilIface
  | some c => .iface 0 (.int .i64 c)
theorem errW_none : errW none = .nilIface := rfl
theorem errW_some (c : Int) : errW (some c) = .iface 0 (.int .i64 c) := rfl

theorem info5 : (Try.prog.info? 5).map (fun i => (i.zero, i.size, i.bytes)) = some (some (.int .u8 0), 1, 1) := by kernel_rfl
-- the values' own types

end Go.Proofs.Ytbbgcbliihfpoaa.Q
