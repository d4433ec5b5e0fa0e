/- A number that may be below 0 is taken as it was: for every number, and what stands around. -/
import Derived.Test.YtchanabiobcbhaaQx23
import Derived.Test.YtchanabiobcbhaaQx10
import Derived.Test.YtchanabiobcbhaaNd
namespace Go.Proofs.Ytchanabiobcbhaa.Pure
open Go Go.RowKit Go.Proofs.Ytchanabiobcbhaa.Q Go.Proofs.Ytchanabiobcbhaa.Oct
theorem lay (a c b : List Int) (ha : a.length ≤ 1048576) (hc : c.length ≤ 1048576) (hb : b.length ≤ 1048576) : grapevinelaw02_Around_lay.f a c b = some (a ++ b ++ c) := by
  unfold grapevinelaw02_Around_lay.f
  simp only [Option.bind_some, List.nil_append, List.length_nil, List.length_append]
  rw [if_pos (by omega), if_pos (by omega), if_pos (by omega)]
theorem TU_back (n : Int) (h0 : 0 ≤ n) (h1 : n < 18446744073709551616) (a c : List Int) : TU (a ++ uB 9 n ++ c) a.length = (n, (a.length : Int) + (uB 9 n).length, 0) := by
  unfold TU
  rw [if_neg (by simp; omega), Int.toNat_natCast, List.append_assoc, List.drop_left, tk_uB 9 0 n 0 c (by decide) h0 (by rw [pow64]; exact h1) (.inl rfl)]
  simp [fin]
theorem OctetIntBack (n : Int) (a c : List Int) (hn : (Lit.int .i64 n).wf = true) (ha : a.length ≤ 1048576) (hab : ∀ x ∈ a, (Lit.int .u8 x).wf = true) (hc : c.length ≤ 1048576) (hcb : ∀ x ∈ c, (Lit.int .u8 x).wf = true) :
    ∃ k, grapevinelaw02_OctetIntBack.f k n a c = some true := by
  obtain ⟨h0, h1⟩ := wf_i64 hn
  obtain ⟨f0, f1⟩ := fold_range h0 h1
  have hb : Bs (a ++ uB 9 (fold n) ++ c) := ((Bs.of_wf hab).append (uB_bytes 9 _ f0 (by rw [pow128]; omega))).append (Bs.of_wf hcb)
  have hu := uB_len 9 (fold n)
  have hl : (a ++ uB 9 (fold n) ++ c).length = a.length + (uB 9 (fold n)).length + c.length := by simp; omega
  refine ⟨30, ?_⟩
  unfold grapevinelaw02_OctetIntBack.f
  rw [Int_f n 30 h0 h1 (by omega)]
  simp only [Option.bind_some]
  rw [lay a c _ ha hc (by omega)]
  simp only [Option.bind_some]
  rw [TakeInt_f _ hb (by omega) _ 30 (by omega)]
  unfold TI
  rw [TU_back (fold n) f0 f1 a c]
  simp only [Option.bind_some, if_true, unfold_fold]
  rw [w64_id (x := (a.length : Int) + (uB 9 (fold n)).length) (by omega) (by omega)]
  simp
end Go.Proofs.Ytchanabiobcbhaa.Pure
