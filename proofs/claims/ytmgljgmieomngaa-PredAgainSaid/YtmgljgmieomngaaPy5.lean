/- What Parse tells of a text, in plain Lean. -/
import Derived.Test.YtmgljgmieomngaaPy4
import Derived.Test.YtmgljgmieomngaaQx9
namespace Go.Proofs.Ytmgljgmieomngaa.Pz
open Go Go.RowKit Go.Proofs.YtmgljgmieomngaaW.PrintWords Go.Proofs.YtmgljgmieomngaaW.PrintLast Go.Proofs.YtmgljgmieomngaaW.PrintMore Go.Proofs.Ytmgljgmieomngaa.Q
set_option linter.unusedVariables false
/-- a text's terms, or the place of its first fault and the error -/
def parseF (s : ByteArray) : Option (List S54 × Int × Int) :=
  if 300 < s.size then some ([], 0, 6) else
  match nextF s 0 with
  | .bad p e => some ([], p, e)
  | .ok t => (pr s 3000 .sum t).bind fun o => match o with
    | .bad p e => some ([], p, e)
    | .ok (l, t1) => match wantF s 101 t1 with
      | .bad p e => some ([], p, e)
      | .ok _ => (pred_Check.f 3000 l).bind fun c => if c = 6 then some ([], (s.size : Int), 6) else some (l, 0, 0)
end Go.Proofs.Ytmgljgmieomngaa.Pz
