/- The number at a place, and where it ends, or the error, are the reference's: for every bytes and place. -/
import Derived.Test.YtchanabiobcbhaaQx14
import Derived.Test.YtchanabiobcbhaaNb
import Derived.Test.YtchanabiobcbhaaNc
namespace Go.Proofs.Ytchanabiobcbhaa.Pure
open Go Go.RowKit Go.Proofs.Ytchanabiobcbhaa.Q Go.Proofs.Ytchanabiobcbhaa.Oct
theorem OctetTakesUint : grapevinelaw02_OctetTakesUint.Pure := by
  intro b p hl1 hl hb hp
  have hb := Bs.of_wf hb
  refine ⟨30, ?_⟩
  unfold grapevinelaw02_OctetTakesUint.f
  rw [TakeUint_f b hb (by omega) p 30 (by omega), refTakeUint_f b hb (by omega) p 30 (by omega), Uint_f 0 30 (by omega) (by omega) (by omega)]
  simp [uB]
end Go.Proofs.Ytchanabiobcbhaa.Pure
