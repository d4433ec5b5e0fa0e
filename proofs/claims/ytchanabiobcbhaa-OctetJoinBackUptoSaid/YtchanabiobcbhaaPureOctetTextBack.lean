/- A text is taken as it was: for every text, and what stands around. -/
import Derived.Test.YtchanabiobcbhaaQx31
import Derived.Test.YtchanabiobcbhaaQx10
import Derived.Test.YtchanabiobcbhaaNf
namespace Go.Proofs.Ytchanabiobcbhaa.Pure
open Go Go.RowKit Go.Proofs.Ytchanabiobcbhaa.Q Go.Proofs.Ytchanabiobcbhaa.Oct Go.Proofs.YtchanabiobcbhaaW.PrintWords
theorem lay (a c b : List Int) (ha : a.length ≤ 1048576) (hc : c.length ≤ 1048576) (hb : b.length ≤ 1048576) : grapevinelaw02_Around_lay.f a c b = some (a ++ b ++ c) := by
  unfold grapevinelaw02_Around_lay.f
  simp only [Option.bind_some, List.nil_append, List.length_nil, List.length_append]
  rw [if_pos (by omega), if_pos (by omega), if_pos (by omega)]
theorem OctetTextBack (s : ByteArray) (a c : List Int) (_hs : s.size ≤ 1048576) (ha : a.length ≤ 1048576) (hab : ∀ x ∈ a, (Lit.int .u8 x).wf = true) (hc : c.length ≤ 1048576) (hcb : ∀ x ∈ c, (Lit.int .u8 x).wf = true) :
    ∃ k, grapevinelaw02_OctetTextBack.f k s a c = some true := by
  refine ⟨30, ?_⟩
  unfold grapevinelaw02_OctetTextBack.f
  rw [Text_f s 30 (by omega)]
  simp only [Option.bind_some]
  unfold TX
  by_cases h : (s.size : Int) > 200
  · rw [if_pos h]
    simp only
    rw [if_neg (by decide), if_pos trivial, if_pos h, Uint_f 128 30 (by omega) (by omega) (by omega)]
    simp [uB]
  · rw [if_neg h]
    simp only [if_true]
    have hu := uB_len 9 (s.size : Int)
    have hbl := bytesOf_length s
    rw [lay a c _ ha hc (by simp; omega)]
    simp only [Option.bind_some]
    have hb : Bs (a ++ (uB 9 s.size ++ bytesOf s) ++ c) := ((Bs.of_wf hab).append ((uB_bytes 9 _ (by omega) (by rw [pow128]; omega)).append (bytesOf_bs s))).append (Bs.of_wf hcb)
    rw [TakeText_f _ hb (by simp; omega) _ 30 (by omega)]
    have := PT_back (bytesOf s) 200 (by omega) (by omega) a c
    rw [hbl] at this
    rw [this]
    simp only [Option.bind_some, if_true]
    rw [str_bytes, if_pos rfl, w64_id (x := (a.length : Int) + (uB 9 s.size ++ bytesOf s).length) (by omega) (by simp; omega)]
    simp
end Go.Proofs.Ytchanabiobcbhaa.Pure
