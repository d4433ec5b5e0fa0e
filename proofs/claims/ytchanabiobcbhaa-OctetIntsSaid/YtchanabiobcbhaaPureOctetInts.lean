/- The bytes of a number that may be below 0, and the number at a place, or the error, are the reference's: for every number, bytes and place. -/
import Derived.Test.YtchanabiobcbhaaQx22
import Derived.Test.YtchanabiobcbhaaNd
namespace Go.Proofs.Ytchanabiobcbhaa.Pure
open Go Go.RowKit Go.Proofs.Ytchanabiobcbhaa.Q Go.Proofs.Ytchanabiobcbhaa.Oct
theorem OctetInts : grapevinelaw02_OctetInts.Pure := by
  intro n b p hn hl1 hl hb hp
  obtain ⟨h0, h1⟩ := wf_i64 hn
  have hb := Bs.of_wf hb
  refine ⟨30, ?_⟩
  unfold grapevinelaw02_OctetInts.f
  rw [TakeInt_f b hb (by omega) p 30 (by omega), refTakeInt_f b hb (by omega) p 30 (by omega), Int_f n 30 h0 h1 (by omega), refInt_f n 30 h0 h1 (by omega)]
  simp
end Go.Proofs.Ytchanabiobcbhaa.Pure
