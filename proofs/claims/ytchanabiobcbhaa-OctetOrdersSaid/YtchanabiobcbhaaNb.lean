/- octet.Uint and its reference, as the plain list of bytes. -/
import Derived.Test.YtchanabiobcbhaaNa
import Derived.Test.YtchanabiobcbhaaQx1
import Derived.Test.YtchanabiobcbhaaQx2
namespace Go.Proofs.Ytchanabiobcbhaa.Oct
open Go Go.RowKit Go.Proofs.YtchanabiobcbhaaW.PrintWords Go.Proofs.YtchanabiobcbhaaW.PrintMore Go.Proofs.Ytchanabiobcbhaa.Q
set_option linter.unusedVariables false

theorem Uint_l0 : ∀ (f : Nat) (n : Int) (acc : List Int) (k : Nat), 0 ≤ n → n < 128 ^ (f + 1) → acc.length + f < 140737488355328 → f < k →
    octet_Uint.l0 k n acc = some (acc ++ uB f n) := by
  intro f
  induction f with
  | zero =>
    intro n acc k h0 h1 ha hk
    obtain ⟨k, rfl⟩ : ∃ m, k = m + 1 := ⟨k - 1, by omega⟩
    simp only [octet_Uint.l0]
    have : n < 128 := by simpa using h1
    rw [if_neg (by omega), if_pos (by omega)]
    simp only [uB]
    rw [Int.emod_eq_of_lt h0 (by omega)]
  | succ f ih =>
    intro n acc k h0 h1 ha hk
    obtain ⟨k, rfl⟩ : ∃ m, k = m + 1 := ⟨k - 1, by omega⟩
    simp only [octet_Uint.l0]
    by_cases h : n ≥ 128
    · rw [if_pos h, if_pos (by omega)]
      have hd : n / 128 < 128 ^ (f + 1) := by
        rw [Int.pow_succ] at h1
        exact Int.ediv_lt_of_lt_mul (by decide) h1
      have e : Go.bits .or .u8 (n % 256) 128 = n % 128 + 128 := by rw [or128 _ (by omega) (by omega)]; omega
      rw [e, ih (n / 128) _ k (by omega) hd (by simp; omega) (by omega)]
      conv => rhs; unfold uB
      rw [if_pos h]
      simp
    · rw [if_neg h, if_pos (by omega)]
      unfold uB
      rw [if_neg h, Int.emod_eq_of_lt h0 (by omega)]
/-- octet.Uint -/
theorem Uint_f (n : Int) (k : Nat) (h0 : 0 ≤ n) (h1 : n < 18446744073709551616) (hk : 20 ≤ k) : octet_Uint.f k n = some (uB 9 n) := by
  unfold octet_Uint.f
  rw [Uint_l0 9 n [] k h0 (by rw [pow128]; omega) (by simp) (by omega)]
  rfl

theorem refUint_l0 : ∀ (f : Nat) (n : Int) (acc : List Int) (k : Nat), 0 ≤ n → n < 128 ^ (f + 1) → n < 18446744073709551616 → acc.length + f < 140737488355328 → f < k →
    grapevineref02_Uint.l0 k n acc = some (acc ++ uB f n) := by
  intro f
  induction f with
  | zero =>
    intro n acc k h0 h1 _ ha hk
    obtain ⟨k, rfl⟩ : ∃ m, k = m + 1 := ⟨k - 1, by omega⟩
    simp only [grapevineref02_Uint.l0]
    have : n < 128 := by simpa using h1
    rw [if_neg (by omega), if_pos (by omega)]
    simp only [uB]
    rw [Int.emod_eq_of_lt h0 (by omega)]
  | succ f ih =>
    intro n acc k h0 h1 hn ha hk
    obtain ⟨k, rfl⟩ : ∃ m, k = m + 1 := ⟨k - 1, by omega⟩
    simp only [grapevineref02_Uint.l0]
    by_cases h : n ≥ 128
    · rw [if_pos (by omega), if_pos (by omega)]
      have hd : n / 128 < 128 ^ (f + 1) := by
        rw [Int.pow_succ] at h1
        exact Int.ediv_lt_of_lt_mul (by decide) h1
      have e1 : Int.tdiv n 128 = n / 128 := Int.tdiv_eq_ediv_of_nonneg h0
      have e2 : Int.tmod n 128 = n % 128 := Int.tmod_eq_emod_of_nonneg h0
      rw [e1, e2, u64w_id (x := n / 128) (by omega) (by omega), u64w_id (x := 128 + n % 128) (by omega) (by omega)]
      have e : (128 + n % 128) % 256 = n % 128 + 128 := by omega
      rw [e, ih (n / 128) _ k (by omega) hd (by omega) (by simp; omega) (by omega)]
      conv => rhs; unfold uB
      rw [if_pos h]
      simp
    · rw [if_neg (by omega), if_pos (by omega)]
      unfold uB
      rw [if_neg h, Int.emod_eq_of_lt h0 (by omega)]
/-- the reference's Uint -/
theorem refUint_f (n : Int) (k : Nat) (h0 : 0 ≤ n) (h1 : n < 18446744073709551616) (hk : 20 ≤ k) : grapevineref02_Uint.f k n = some (uB 9 n) := by
  unfold grapevineref02_Uint.f
  rw [refUint_l0 9 n [] k h0 (by rw [pow128]; omega) h1 (by simp) (by omega)]
  rfl
theorem wf_u64 {n : Int} (h : (Lit.int .u64 n).wf = true) : 0 ≤ n ∧ n < 18446744073709551616 := by
  simp [Lit.wf, IntKind.min, IntKind.max, IntKind.signed, IntKind.bits] at h
  omega
theorem wf_i64 {n : Int} (h : (Lit.int .i64 n).wf = true) : -9223372036854775808 ≤ n ∧ n ≤ 9223372036854775807 := by
  simp [Lit.wf, IntKind.min, IntKind.max, IntKind.signed, IntKind.bits] at h
  omega
end Go.Proofs.Ytchanabiobcbhaa.Oct
