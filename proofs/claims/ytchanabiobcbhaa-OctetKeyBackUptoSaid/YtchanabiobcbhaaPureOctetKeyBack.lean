/- A number is taken as it was from its key, whatever stands around it: for every number, and what stands around. -/
import Derived.Test.YtchanabiobcbhaaQx11
import Derived.Test.YtchanabiobcbhaaQx10
import Derived.Test.YtchanabiobcbhaaNe
namespace Go.Proofs.Ytchanabiobcbhaa.Pure
open Go Go.RowKit Go.Proofs.Ytchanabiobcbhaa.Q Go.Proofs.Ytchanabiobcbhaa.Oct
theorem lay (a c b : List Int) (ha : a.length ≤ 1048576) (hc : c.length ≤ 1048576) (hb : b.length ≤ 1048576) : grapevinelaw02_Around_lay.f a c b = some (a ++ b ++ c) := by
  unfold grapevinelaw02_Around_lay.f
  simp only [Option.bind_some, List.nil_append, List.length_nil, List.length_append]
  rw [if_pos (by omega), if_pos (by omega), if_pos (by omega)]
theorem OctetKeyBack (n : Int) (a c : List Int) (hn : (Lit.int .i64 n).wf = true) (ha : a.length ≤ 1048576) (hab : ∀ x ∈ a, (Lit.int .u8 x).wf = true) (hc : c.length ≤ 1048576) (hcb : ∀ x ∈ c, (Lit.int .u8 x).wf = true) :
    ∃ k, grapevinelaw02_OctetKeyBack.f k n a c = some true := by
  obtain ⟨h0, h1⟩ := wf_i64 hn
  have hb : Bs (a ++ kB (n + 9223372036854775808) ++ c) := ((Bs.of_wf hab).append (kB_bytes _)).append (Bs.of_wf hcb)
  have hl : (a ++ kB (n + 9223372036854775808) ++ c).length = a.length + 8 + c.length := by simp [kB_len]; omega
  refine ⟨30, ?_⟩
  unfold grapevinelaw02_OctetKeyBack.f
  rw [Key_f n 30 h0 h1 (by omega)]
  simp only [Option.bind_some]
  rw [lay a c _ ha hc (by rw [kB_len]; omega)]
  simp only [Option.bind_some]
  rw [TakeKey_f _ hb (by omega) _ 30 (by omega) (by omega), TK_back n h0 h1 a c]
  simp only [Option.bind_some, if_true]
  rw [w64_id (x := (a.length : Int) + 8) (by omega) (by omega)]
  simp
end Go.Proofs.Ytchanabiobcbhaa.Pure
