/- What is wrong with a schema is told as the reference does it: for every schema. -/
import Derived.Test.YthcfjkbegadpjaaQx23
import Derived.Test.YthcfjkbegadpjaaNs
import Derived.Test.YthcfjkbegadpjaaNlv
namespace Go.Proofs.Ythcfjkbegadpjaa.Pure
open Go Go.RowKit Go.Proofs.Ythcfjkbegadpjaa.Q Go.Proofs.Ythcfjkbegadpjaa.Oct Go.Proofs.YthcfjkbegadpjaaW.PrintWords Go.Proofs.YthcfjkbegadpjaaW.PrintMore
theorem EventSchemas (l : List S48) : ∃ k, grapevinelaw04_EventSchemas.f k l = some true := by
  refine ⟨100, ?_⟩
  unfold grapevinelaw04_EventSchemas.f
  rw [live04 100 (by decide), CheckSchema_f l 100 (by decide), refCheckSchema_f l 100 (by decide)]
  simp
end Go.Proofs.Ythcfjkbegadpjaa.Pure
