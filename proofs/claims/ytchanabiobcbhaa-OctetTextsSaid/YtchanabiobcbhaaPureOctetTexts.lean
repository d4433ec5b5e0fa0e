/- A text's bytes, and the text at a place, or the errors, are the reference's: for every text, bytes and place. -/
import Derived.Test.YtchanabiobcbhaaQx30
import Derived.Test.YtchanabiobcbhaaNf
namespace Go.Proofs.Ytchanabiobcbhaa.Pure
open Go Go.RowKit Go.Proofs.Ytchanabiobcbhaa.Q Go.Proofs.Ytchanabiobcbhaa.Oct
theorem OctetTexts : grapevinelaw02_OctetTexts.Pure := by
  intro s b p hs hl1 hl hb hp
  have hb := Bs.of_wf hb
  refine ⟨30, ?_⟩
  unfold grapevinelaw02_OctetTexts.f
  rw [Text_f s 30 (by omega), refText_f s 30 (by omega), TakeText_f b hb (by omega) p 30 (by omega), refTakeText_f b hb (by omega) p 30 (by omega), Uint_f 1 30 (by omega) (by omega) (by omega)]
  simp [uB]
end Go.Proofs.Ytchanabiobcbhaa.Pure
