/- Parts are laid and taken as the reference does it: for every list of parts, bytes and place. -/
import Derived.Test.YtchanabiobcbhaaQx37
import Derived.Test.YtchanabiobcbhaaNh
namespace Go.Proofs.Ytchanabiobcbhaa.Pure
open Go Go.RowKit Go.Proofs.Ytchanabiobcbhaa.Q Go.Proofs.Ytchanabiobcbhaa.Oct Go.Proofs.YtchanabiobcbhaaW.PrintWords Go.Proofs.YtchanabiobcbhaaW.PrintMore
set_option linter.unusedVariables false
theorem rd_L1_at (l : List (List Int)) (i : Nat) (h : i < l.length) : l[i]? = some (rd_L1 l (i : Int)) := by
  unfold rd_L1
  rw [Int.toNat_natCast, List.getD_eq_getElem?_getD]
  simp [h]
theorem Joins_l0 (l : List (List Int)) (hl : l.length ≤ 140737488355328) (hz : ∀ z ∈ l, z.length ≤ 140737488351232) (b : List Int) (p : Int) : ∀ (n i : Nat) (x : List (List Int)) (k : Nat), i + n = l.length → x.length = l.length → (∀ j, j < i → x[j]? = l[j]?) → n < k →
    ∃ m : Nat, k = m + n + 1 ∧ grapevinelaw02_OctetJoins.l0 k l b p x i = grapevinelaw02_OctetJoins.l0 (m + 1) l b p l (l.length : Int) := by
  intro n
  induction n with
  | zero =>
    intro i x k hi hx hj hk
    obtain ⟨k, rfl⟩ : ∃ m, k = m + 1 := ⟨k - 1, by omega⟩
    obtain rfl : i = l.length := by omega
    obtain rfl : x = l := by
      apply List.ext_getElem?
      intro j
      by_cases h : j < l.length
      · exact hj j h
      · rw [List.getElem?_eq_none (by omega), List.getElem?_eq_none (by omega)]
    exact ⟨k, rfl, rfl⟩
  | succ n ih =>
    intro i x k hi hx hj hk
    obtain ⟨k, rfl⟩ : ∃ m, k = m + 1 := ⟨k - 1, by omega⟩
    have hil : i < l.length := by omega
    have hri := rd_L1_at l i hil
    have hmem : rd_L1 l (i : Int) ∈ l := List.mem_of_getElem? hri
    have hsz := hz _ hmem
    obtain ⟨m, e, h⟩ := ih (i + 1) (x.set i (rd_L1 l (i : Int))) k (by omega) (by rw [List.length_set]; omega) (by
      intro j hj2
      rw [List.getElem?_set]
      by_cases h : i = j
      · subst h
        rw [if_pos rfl, if_pos (by omega), hri]
      · rw [if_neg h]
        exact hj j (by omega)) (by omega)
    refine ⟨m, by omega, ?_⟩
    conv => lhs; unfold grapevinelaw02_OctetJoins.l0
    simp only [Option.bind_some, List.nil_append, List.length_nil]
    rw [if_pos (by omega), if_pos (by omega), if_pos (by omega), if_pos (by omega), w64_id (x := (i : Int) + 1) (by omega) (by omega), Int.toNat_natCast]
    exact h
theorem OctetJoins (l : List (List Int)) (b : List Int) (p : Int) (hl : l.length ≤ 5864062014634 ∧ ∀ z ∈ l, z.length ≤ 140737488351232) (hlb : ∀ z ∈ l, ∀ x ∈ z, (Lit.int .u8 x).wf = true) (hb : b.length ≤ 140737488351232) (hbb : ∀ x ∈ b, (Lit.int .u8 x).wf = true) (hp : (Lit.int .i64 p).wf = true) :
    ∃ k, grapevinelaw02_OctetJoins.f k l b p = some true := by
  obtain ⟨K, hK⟩ : ∃ K : Nat, 2 * l.length + 5000 ≤ K := ⟨_, Nat.le_refl _⟩
  refine ⟨K, ?_⟩
  have hB := Bs.of_wf hbb
  unfold grapevinelaw02_OctetJoins.f
  rw [if_pos (by omega), Int.toNat_natCast, if_pos (by omega)]
  obtain ⟨m, e, h⟩ := Joins_l0 l (by omega) hl.2 b p l.length 0 (List.replicate l.length []) K (by omega) (by simp) (by omega) (by omega)
  rw [show ((0 : Nat) : Int) = 0 from rfl] at h
  rw [h]
  unfold grapevinelaw02_OctetJoins.l0
  rw [if_neg (by omega), Join_f l hl.2 (by omega) m (by omega), refJoin_f l hl.2 (by omega) m (by omega), TakeJoin_f b hB (by omega) p m (by omega), refTakeJoin_f b hB (by omega) p m (by omega)]
  simp only [Option.bind_some]
  have hT := TJ_length b p
  simp only [if_true]
  rw [SameRows_f _ (by omega) m (by omega)]
  simp only [Option.bind_some, if_true]
  rw [SameRows_f l (by omega) m (by omega), Uint_f 1 m (by omega) (by omega) (by omega)]
  simp [uB]
end Go.Proofs.Ytchanabiobcbhaa.Pure
