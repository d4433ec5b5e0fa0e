/- A number's bytes, by octet.Uint, are the reference's, for every number. -/
import Derived.Test.YtchanabiobcbhaaQx3
import Derived.Test.YtchanabiobcbhaaNb
namespace Go.Proofs.Ytchanabiobcbhaa.Pure
open Go Go.RowKit Go.Proofs.Ytchanabiobcbhaa.Q Go.Proofs.Ytchanabiobcbhaa.Oct
theorem OctetUints : grapevinelaw02_OctetUints.Pure := by
  intro n hn
  obtain ⟨h0, h1⟩ := wf_u64 hn
  refine ⟨30, ?_⟩
  unfold grapevinelaw02_OctetUints.f
  rw [Uint_f n 30 h0 h1 (by omega), refUint_f n 30 h0 h1 (by omega)]
  simp
end Go.Proofs.Ytchanabiobcbhaa.Pure
