/- What must be whatever is asked of events is so. -/
import Derived.Test.YthcfjkbegadpjaaQx18
namespace Go.Proofs.Ythcfjkbegadpjaa.Oct
open Go Go.RowKit Go.Proofs.YthcfjkbegadpjaaW.PrintWords Go.Proofs.YthcfjkbegadpjaaW.PrintMore Go.Proofs.Ythcfjkbegadpjaa.Q
theorem live04_60 : grapevinelaw04_live.f 60 = some true := by decide +kernel
theorem live04 (k : Nat) (hk : 60 ≤ k) : grapevinelaw04_live.f k = some true := at_rounds (g := fun k => grapevinelaw04_live.f k) grapevinelaw04_live.mono hk live04_60
end Go.Proofs.Ythcfjkbegadpjaa.Oct
