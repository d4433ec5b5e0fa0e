/- Functions of the program as Lean functions, each with its walk: that the Go code comes to just these answers, whatever the memory. Written by a program of this claim (wip/tools). -/
import Derived.Test.YtmgljgmieomngaaMc
import Derived.Test.YtmgljgmieomngaaQx0
import Derived.Test.YtmgljgmieomngaaPz12
namespace Go.Proofs.Ytmgljgmieomngaa.Q
open Go.RowKit Go.Proofs.YtmgljgmieomngaaW.PrintWords Go.Proofs.YtmgljgmieomngaaW.PrintLast Go.Proofs.YtmgljgmieomngaaW.PrintMore
attribute [local go_sem] run_ftoi isSome_setCell bytesLess_total run_store_complex run_store_float max2_int min2_int max_two min_two max_three min_three max_four min_four   -- for this text's walks alone
set_option linter.unusedVariables false
set_option linter.unusedSimpArgs false

/-! ### pred_Parse: function 8 -/
/- proved by hand: text <N>Pz12 (its import is added behind the print) -/
def pred_Parse.f (a0 : ByteArray) : Option (List (S54) × Int × Int) := Pz.parseF a0
theorem pred_Parse.calls (a0 : ByteArray) (r1 : List (S54)) (r2 : Int) (r3 : Int) (w : World) (h : pred_Parse.f a0 = some (r1, r2, r3)) :
  Calls Try.prog 8 #[.string a0] w fun e w' => ∃ v0_ : Value, e = .returned (.tuple #[v0_, .int .i64 r2, .int .i64 r3]) ∧ Kd.R k54 54 w' w.heap.size (fun _ => True) v0_ r1 ∧ Below w.heap.size w w' :=
 Pz.parse_ a0 w (r1, r2, r3) h

end Go.Proofs.Ytmgljgmieomngaa.Q
