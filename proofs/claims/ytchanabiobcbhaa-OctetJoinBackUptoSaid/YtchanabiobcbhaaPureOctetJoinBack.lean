/- Parts are taken as they were: for every list of parts, and what stands around. -/
import Derived.Test.YtchanabiobcbhaaQx38
import Derived.Test.YtchanabiobcbhaaQx10
import Derived.Test.YtchanabiobcbhaaNh
import Derived.Test.YtchanabiobcbhaaPureOctetTextBack
namespace Go.Proofs.Ytchanabiobcbhaa.Pure
open Go Go.RowKit Go.Proofs.Ytchanabiobcbhaa.Q Go.Proofs.Ytchanabiobcbhaa.Oct Go.Proofs.YtchanabiobcbhaaW.PrintWords
theorem JoinBack_l0 (l0 : List (List Int)) (x5 : List Int) (x8 : List (List Int)) (x9 x10 : Int) (a c : List Int) : ∀ (n i : Nat) (x7 : List Int) (k : Nat), i + n = x7.length → x7.length ≤ 140737488355328 → n < k →
    ∃ (m : Nat) (y : List Int), k = m + n + 1 ∧ grapevinelaw02_OctetJoinBack.l0 k l0 x5 x7 x8 x9 x10 i a c = grapevinelaw02_OctetJoinBack.l0 (m + 1) l0 x5 y x8 x9 x10 (y.length : Int) a c := by
  intro n
  induction n with
  | zero =>
    intro i x7 k hi _ hk
    obtain ⟨k, rfl⟩ : ∃ m, k = m + 1 := ⟨k - 1, by omega⟩
    obtain rfl : i = x7.length := by omega
    exact ⟨k, x7, rfl, rfl⟩
  | succ n ih =>
    intro i x7 k hi hx hk
    obtain ⟨k, rfl⟩ : ∃ m, k = m + 1 := ⟨k - 1, by omega⟩
    obtain ⟨m, y, e, h⟩ := ih (i + 1) (x7.set i (Go.bits .xor .u8 (rd x7 i) 51)) k (by rw [List.length_set]; omega) (by rw [List.length_set]; omega) (by omega)
    refine ⟨m, y, by omega, ?_⟩
    conv => lhs; unfold grapevinelaw02_OctetJoinBack.l0
    rw [if_pos (by omega), if_pos (by omega), w64_id (x := (i : Int) + 1) (by omega) (by omega), Int.toNat_natCast]
    exact h
theorem OctetJoinBack (l : List (List Int)) (a c : List Int) (hn : l.flatten.length + l.length ≤ 1048576) (hlb : ∀ z ∈ l, ∀ x ∈ z, (Lit.int .u8 x).wf = true) (ha : a.length ≤ 1048576) (hab : ∀ x ∈ a, (Lit.int .u8 x).wf = true) (hc : c.length ≤ 1048576) (hcb : ∀ x ∈ c, (Lit.int .u8 x).wf = true) :
    ∃ k, grapevinelaw02_OctetJoinBack.f k l a c = some true := by
  obtain ⟨K, hK⟩ : ∃ K : Nat, 10000000 ≤ K := ⟨_, Nat.le_refl _⟩
  refine ⟨K, ?_⟩
  unfold grapevinelaw02_OctetJoinBack.f
  have hz : ∀ z ∈ l, z.length ≤ 140737488351232 := fun z hz => by have := mem_flatten_len hz; omega
  rw [Join_f l hz (by omega) _ (by omega)]
  simp only [Option.bind_some]
  have hJl := JN_len l
  by_cases h : (JN l).2 = 0
  · rw [if_pos h]
    have hJ : JN l = ((JN l).1, 0) := by rw [← h]
    rw [lay a c _ ha hc (by omega)]
    simp only [Option.bind_some]
    have hb : Bs (a ++ (JN l).1 ++ c) := ((Bs.of_wf hab).append (JN_bs l (fun z hz => Bs.of_wf (hlb z hz)) (by omega) _ hJ)).append (Bs.of_wf hcb)
    rw [TakeJoin_f _ hb (by simp; omega) _ _ (by omega), TJ_back l _ hJ a c]
    simp only [Option.bind_some]
    obtain ⟨m, y, e, h2⟩ := JoinBack_l0 l (JN l).1 l ((a.length : Int) + (JN l).1.length) 0 a c (a ++ (JN l).1 ++ c).length 0 (a ++ (JN l).1 ++ c) K (by omega) (by simp; omega) (by simp; omega)
    have hm : l.length < m := by simp only [List.length_append] at e; omega
    rw [show ((0 : Nat) : Int) = 0 from rfl] at h2
    rw [h2]
    unfold grapevinelaw02_OctetJoinBack.l0
    rw [if_neg (by omega), if_pos rfl, SameRows_f l (by omega) m hm]
    simp only [Option.bind_some, if_true]
    rw [w64_id (x := (a.length : Int) + ((JN l).1.length : Int)) (by omega) (by omega)]
    simp
  · have h6 : JN l = ([], 6) := (JN_err l).resolve_left h
    rw [if_neg h, h6]
    simp only [if_true]
    rw [Uint_f 1 _ (by omega) (by omega) (by omega)]
    simp [uB]
end Go.Proofs.Ytchanabiobcbhaa.Pure
