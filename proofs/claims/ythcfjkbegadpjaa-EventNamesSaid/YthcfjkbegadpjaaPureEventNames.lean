/- Which names are right is told as the reference does it: for every text. -/
import Derived.Test.YthcfjkbegadpjaaQx20
import Derived.Test.YthcfjkbegadpjaaNm
import Derived.Test.YthcfjkbegadpjaaNlv
namespace Go.Proofs.Ythcfjkbegadpjaa.Pure
open Go Go.RowKit Go.Proofs.Ythcfjkbegadpjaa.Q Go.Proofs.Ythcfjkbegadpjaa.Oct Go.Proofs.YthcfjkbegadpjaaW.PrintWords Go.Proofs.YthcfjkbegadpjaaW.PrintMore
theorem EventNames : grapevinelaw04_EventNames.Pure := by
  intro s hs
  refine ⟨100, ?_⟩
  unfold grapevinelaw04_EventNames.f
  rw [live04 100 (by decide), Name_f s 100 (by decide), refName_f s 100 (by decide)]
  simp
end Go.Proofs.Ythcfjkbegadpjaa.Pure
