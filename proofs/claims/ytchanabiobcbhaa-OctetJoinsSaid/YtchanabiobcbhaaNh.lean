/- What Join lays is what TakeJoin takes, wherever it stands. -/
import Derived.Test.YtchanabiobcbhaaNg
namespace Go.Proofs.Ytchanabiobcbhaa.Oct
open Go Go.RowKit Go.Proofs.YtchanabiobcbhaaW.PrintWords Go.Proofs.YtchanabiobcbhaaW.PrintMore Go.Proofs.Ytchanabiobcbhaa.Q
set_option linter.unusedVariables false

theorem mem_flatten_len {l : List (List Int)} {z : List Int} (h : z ∈ l) : z.length ≤ l.flatten.length := by
  induction l with
  | nil => simp at h
  | cons y l ih =>
    rw [List.flatten_cons, List.length_append]
    rcases List.mem_cons.1 h with rfl | h
    · omega
    · have := ih h; omega
theorem jn_pre (a : List Int) : ∀ (l : List (List Int)) (acc out : List Int), jn l acc = (out, 0) → jn l (a ++ acc) = (a ++ out, 0) := by
  intro l
  induction l with
  | nil => intro acc out h; simp [jn] at h; subst h; simp [jn]
  | cons p ps ih =>
    intro acc out h
    unfold jn at h ⊢
    by_cases h1 : (p.length : Int) > 4096
    · rw [if_pos h1] at h; simp at h
    · rw [if_neg h1] at h
      rw [if_neg h1]
      have := ih _ _ h
      simpa [List.append_assoc] using this
theorem jn_ext : ∀ (l : List (List Int)) (a out : List Int), jn l a = (out, 0) → ∃ t, out = a ++ t := by
  intro l
  induction l with
  | nil => intro a out h; simp [jn] at h; exact ⟨[], by simp [h]⟩
  | cons q qs ih =>
    intro a out h
    unfold jn at h
    by_cases h1 : (q.length : Int) > 4096
    · rw [if_pos h1] at h; simp at h
    · rw [if_neg h1] at h
      obtain ⟨t, ht⟩ := ih _ _ h
      exact ⟨uB 9 q.length ++ q ++ t, by rw [ht]; simp⟩
/-- a number that stands anywhere is read -/
theorem TU_at (n : Int) (h0 : 0 ≤ n) (h1 : n < 18446744073709551616) (a c : List Int) : TU (a ++ (uB 9 n ++ c)) a.length = (n, (a.length : Int) + (uB 9 n).length, 0) := by
  unfold TU
  rw [if_neg (by simp; omega), Int.toNat_natCast, List.drop_left, tk_uB 9 0 _ 0 c (by decide) (by omega) (by rw [pow64]; omega) (.inl rfl)]
  simp [fin]
theorem TJ_back (l : List (List Int)) (out : List Int) (h : JN l = (out, 0)) (a c : List Int) : TJ (a ++ out ++ c) a.length = (l, (a.length : Int) + out.length, 0) := by
  unfold JN at h
  by_cases h6 : (l.length : Int) > 64
  · rw [if_pos h6] at h; simp at h
  · rw [if_neg h6] at h
    obtain ⟨t, ht⟩ := jn_ext l _ _ h
    have hT : TU (a ++ out ++ c) a.length = ((l.length : Int), (a.length : Int) + (uB 9 (l.length : Int)).length, 0) := by
      rw [ht, show a ++ (uB 9 (l.length : Int) ++ t) ++ c = a ++ (uB 9 (l.length : Int) ++ (t ++ c)) from by simp]
      exact TU_at _ (by omega) (by omega) a (t ++ c)
    unfold TJ
    rw [hT]
    simp only [if_true]
    rw [if_neg h6, Int.toNat_natCast]
    have := tj_back l (a ++ uB 9 (l.length : Int)) c [] (a ++ out) (jn_pre a l _ _ h)
    rw [show ((a ++ uB 9 (l.length : Int)).length : Int) = (a.length : Int) + (uB 9 (l.length : Int)).length from by simp] at this
    rw [this]
    simp
theorem JN_bs (l : List (List Int)) (hl : ∀ z ∈ l, Bs z) (hll : l.length ≤ 140737488355328) (out : List Int) (h : JN l = (out, 0)) : Bs out := by
  unfold JN at h
  by_cases h6 : (l.length : Int) > 64
  · rw [if_pos h6] at h; simp at h
  · rw [if_neg h6] at h
    exact jn_bs l _ _ hl (uB_bytes 9 _ (by omega) (by rw [pow128]; omega)) h
theorem JN_len (l : List (List Int)) : (JN l).1.length ≤ 300000 := by
  unfold JN
  by_cases h6 : (l.length : Int) > 64
  · rw [if_pos h6]; simp
  · rw [if_neg h6]
    have := jn_len l (uB 9 (l.length : Int)) (jn l (uB 9 l.length)).1 (jn l (uB 9 l.length)).2 rfl
    have hu := uB_len 9 (l.length : Int)
    omega
end Go.Proofs.Ytchanabiobcbhaa.Oct
