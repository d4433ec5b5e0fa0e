/- A number's key is the reference's, and so is the number whose key stands at a place, or the error: for every number, bytes and place. -/
import Derived.Test.YtchanabiobcbhaaQx9
import Derived.Test.YtchanabiobcbhaaNe
namespace Go.Proofs.Ytchanabiobcbhaa.Pure
open Go Go.RowKit Go.Proofs.Ytchanabiobcbhaa.Q Go.Proofs.Ytchanabiobcbhaa.Oct
theorem OctetKeys : grapevinelaw02_OctetKeys.Pure := by
  intro n b p hn hl1 hl hb hp
  obtain ⟨h0, h1⟩ := wf_i64 hn
  obtain ⟨p0, p1⟩ := wf_i64 hp
  have hb := Bs.of_wf hb
  refine ⟨30, ?_⟩
  unfold grapevinelaw02_OctetKeys.f
  rw [TakeKey_f b hb (by omega) p 30 p0 (by omega), refTakeKey_f b hb (by omega) p 30 p0 (by omega), Key_f n 30 h0 h1 (by omega), refKey_f n 30 h0 h1 (by omega)]
  simp
end Go.Proofs.Ytchanabiobcbhaa.Pure
