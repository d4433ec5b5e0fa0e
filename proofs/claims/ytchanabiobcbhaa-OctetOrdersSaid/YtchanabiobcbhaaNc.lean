/- octet.TakeUint and its reference, as the plain law. -/
import Derived.Test.YtchanabiobcbhaaNa
import Derived.Test.YtchanabiobcbhaaQx12
import Derived.Test.YtchanabiobcbhaaQx13
namespace Go.Proofs.Ytchanabiobcbhaa.Oct
open Go Go.RowKit Go.Proofs.YtchanabiobcbhaaW.PrintWords Go.Proofs.YtchanabiobcbhaaW.PrintMore Go.Proofs.Ytchanabiobcbhaa.Q
set_option linter.unusedVariables false

theorem rd_drop {b : List Int} {p : Nat} {x : Int} {xs : List Int} (h : b.drop p = x :: xs) {j : Int} (hj : j = p) : rd b j = x := by
  subst hj
  unfold rd
  rw [Int.toNat_natCast, List.getD_eq_getElem?_getD]
  have : (b.drop p)[0]? = some x := by rw [h]; rfl
  rw [List.getElem?_drop] at this
  simp at this
  simp [this]
theorem drop_succ {b : List Int} {p : Nat} {x : Int} {xs : List Int} (h : b.drop p = x :: xs) : b.drop (p + 1) = xs := by
  rw [← List.drop_drop, h]; rfl
theorem drop_lt {b : List Int} {p : Nat} {x : Int} {xs : List Int} (h : b.drop p = x :: xs) : p < b.length := by
  rcases Nat.lt_or_ge p b.length with h' | h'
  · exact h'
  · rw [List.drop_of_length_le h'] at h; cases h

theorem TakeUint_l0 (b : List Int) (hb : Bs b) (hl : b.length ≤ 140737488355328) (p : Nat) (hp : p ≤ b.length) : ∀ (rest : List Int) (i : Nat) (n : Int) (k : Nat), b.drop (p + i) = rest → i ≤ 9 → 0 ≤ n → n < 2 ^ (7 * i) → p + i ≤ b.length → 20 ≤ k + 2 * i →
    octet_TakeUint.l0 (k + 1) b p n i = some (fin p (tk rest i n)) := by
  intro rest
  induction rest with
  | nil =>
    intro i n k hd hi h0 h1 hpi hk
    have : b.length ≤ p + i := by simpa using hd
    simp only [octet_TakeUint.l0]
    rw [w64_id (x := (p : Int) + i) (by omega) (by omega), if_pos (by omega)]
    rfl
  | cons x xs ih =>
    intro i n k hd hi h0 h1 hpi hk
    have hlt := drop_lt hd
    have hx : 0 ≤ x ∧ x ≤ 255 := (hb.drop (p + i)) x (by rw [hd]; simp)
    simp only [octet_TakeUint.l0]
    rw [w64_id (x := (p : Int) + i) (by omega) (by omega), if_neg (by omega), if_pos (by omega), if_pos (by omega), rd_drop hd (by omega)]
    obtain ⟨k, rfl⟩ : ∃ m, k = m + 1 := ⟨k - 1, by omega⟩
    have e35 : (if (i : Int) = 9 then octet_TakeUint.j2 (k + 1) b p n i x (decide (x > 1)) else octet_TakeUint.j2 (k + 1) b p n i x false) = octet_TakeUint.j2 (k + 1) b p n i x (decide (i = 9 ∧ x > 1)) := by
      by_cases h9 : i = 9
      · rw [if_pos (by omega)]; simp [h9]
      · rw [if_neg (by omega)]; simp [h9]
    rw [e35]
    simp only [octet_TakeUint.j2]
    unfold tk
    by_cases c1 : i = 9 ∧ x > 1
    · rw [if_pos (by simp [c1]), if_pos c1]; rfl
    · rw [if_neg (by simpa using c1), if_neg c1]
      obtain ⟨e, r1, r2⟩ := or_shl n x i hi h0 h1 hx.1 hx.2 (by omega)
      rw [e]
      have hnn : 0 ≤ x % 128 * 2 ^ (7 * i) := Int.mul_nonneg (by omega) (by have := pow7pos i; omega)
      rw [w64_id (x := 7 * (i : Int)) (by omega) (by omega), if_pos (by omega)]
      by_cases c2 : x ≥ 128
      · rw [if_pos c2, if_pos c2, w64_id (x := (i : Int) + 1) (by omega) (by omega)]
        obtain ⟨k, rfl⟩ : ∃ m, k = m + 1 := ⟨k - 1, by omega⟩
        have := ih (i + 1) (n + x % 128 * 2 ^ (7 * i)) k (by rw [← Nat.add_assoc]; exact drop_succ hd) (by omega) (by omega) (r2 (by omega)) (by omega) (by omega)
        rw [← this]; rfl
      · rw [if_neg c2, if_neg c2, w64_id (x := (p : Int) + i) (by omega) (by omega), w64_id (x := (p : Int) + i + 1) (by omega) (by omega)]
        by_cases c3 : x = 0
        · rw [if_pos c3]
          by_cases c4 : i > 0
          · rw [if_pos (by omega), if_pos ⟨c3, c4⟩]; rfl
          · rw [if_neg (by omega), if_neg (by omega)]
            simp only [fin, if_true]; congr 2 <;> first | rfl | omega | (congr 1 <;> first | rfl | omega)
        · rw [if_neg c3, if_neg (by omega)]
          simp only [fin, if_true]; congr 2 <;> first | rfl | omega | (congr 1 <;> first | rfl | omega)
/-- octet.TakeUint -/
theorem TakeUint_f (b : List Int) (hb : Bs b) (hl : b.length ≤ 140737488355328) (p : Int) (k : Nat) (hk : 30 ≤ k) : octet_TakeUint.f k b p = some (TU b p) := by
  unfold octet_TakeUint.f TU
  obtain ⟨k, rfl⟩ : ∃ m, k = m + 2 := ⟨k - 2, by omega⟩
  by_cases h : p < 0
  · rw [if_pos h, if_pos (.inl h)]; rfl
  · rw [if_neg h]
    simp only [octet_TakeUint.j0]
    by_cases h2 : p > (b.length : Int)
    · rw [if_pos (by simpa using h2), if_pos (.inr h2)]
    · rw [if_neg (by simpa using h2), if_neg (by omega)]
      obtain ⟨q, rfl⟩ : ∃ q : Nat, p = q := ⟨p.toNat, by omega⟩
      exact TakeUint_l0 b hb hl q (by omega) _ 0 0 k rfl (by omega) (by omega) (by decide) (by omega) (by omega)

theorem refTakeUint_l0 (b : List Int) (hb : Bs b) (hl : b.length ≤ 140737488355328) (p : Nat) (hp : p ≤ b.length) : ∀ (rest : List Int) (i : Nat) (n : Int) (k : Nat), b.drop (p + i) = rest → i ≤ 9 → 0 ≤ n → n < 2 ^ (7 * i) → p + i ≤ b.length → 20 ≤ k + 2 * i →
    grapevineref02_TakeUint.l0 (k + 1) b p n (2 ^ (7 * i)) i = some (fin p (tk rest i n)) := by
  intro rest
  induction rest with
  | nil =>
    intro i n k hd hi h0 h1 hpi hk
    have : b.length ≤ p + i := by simpa using hd
    simp only [grapevineref02_TakeUint.l0]
    rw [w64_id (x := (p : Int) + i) (by omega) (by omega), if_pos (by omega), if_pos (by omega)]
    rfl
  | cons x xs ih =>
    intro i n k hd hi h0 h1 hpi hk
    have hlt := drop_lt hd
    have hx : 0 ≤ x ∧ x ≤ 255 := (hb.drop (p + i)) x (by rw [hd]; simp)
    simp only [grapevineref02_TakeUint.l0]
    rw [w64_id (x := (p : Int) + i) (by omega) (by omega), if_pos (by omega), if_neg (by omega), if_pos (by omega), if_pos (by omega), rd_drop hd (by omega)]
    obtain ⟨k, rfl⟩ : ∃ m, k = m + 1 := ⟨k - 1, by omega⟩
    have e35 : (if (i : Int) = 9 then grapevineref02_TakeUint.j2 (k + 1) b p n (2 ^ (7 * i)) i x (decide (x > 1)) else grapevineref02_TakeUint.j2 (k + 1) b p n (2 ^ (7 * i)) i x false) = grapevineref02_TakeUint.j2 (k + 1) b p n (2 ^ (7 * i)) i x (decide (i = 9 ∧ x > 1)) := by
      by_cases h9 : i = 9
      · rw [if_pos (by omega)]; simp [h9]
      · rw [if_neg (by omega)]; simp [h9]
    rw [e35]
    simp only [grapevineref02_TakeUint.j2]
    unfold tk
    by_cases c1 : i = 9 ∧ x > 1
    · rw [if_pos (by simp [c1]), if_pos c1]; rfl
    · rw [if_neg (by simpa using c1), if_neg c1]
      obtain ⟨_, r1, r2⟩ := or_shl n x i hi h0 h1 hx.1 hx.2 (by omega)
      have hnn : 0 ≤ x % 128 * 2 ^ (7 * i) := Int.mul_nonneg (by omega) (by have := pow7pos i; omega)
      have e1 : Int.tmod x 128 = x % 128 := Int.tmod_eq_emod_of_nonneg hx.1
      rw [e1, u64w_id (x := x % 128) (by omega) (by omega), u64w_id (x := x % 128 * 2 ^ (7 * i)) hnn (by omega), u64w_id (x := n + x % 128 * 2 ^ (7 * i)) (by omega) r1]
      by_cases c2 : x ≥ 128
      · rw [if_neg (by omega), if_pos c2, w64_id (x := (i : Int) + 1) (by omega) (by omega)]
        obtain ⟨k, rfl⟩ : ∃ m, k = m + 1 := ⟨k - 1, by omega⟩
        have := ih (i + 1) (n + x % 128 * 2 ^ (7 * i)) k (by rw [← Nat.add_assoc]; exact drop_succ hd) (by omega) (by omega) (r2 (by omega)) (by omega) (by omega)
        rw [← this]
        have hi8 : i ≤ 8 := by omega
        have hp9 := pow_le9 (i := i + 1) (by omega)
        rw [pow7] at hp9
        have hpp := pow7pos i
        rw [u64w_id (x := 2 ^ (7 * i) * 128) (by omega) (by omega), pow7]; rfl
      · rw [if_pos (by omega), if_neg c2, w64_id (x := (p : Int) + i) (by omega) (by omega), w64_id (x := (p : Int) + i + 1) (by omega) (by omega)]
        by_cases c3 : x = 0
        · rw [if_pos c3]
          by_cases c4 : i > 0
          · rw [if_pos (by omega), if_pos ⟨c3, c4⟩]; rfl
          · rw [if_neg (by omega), if_neg (by omega)]
            simp only [fin, if_true]; congr 2 <;> first | rfl | omega | (congr 1 <;> first | rfl | omega)
        · rw [if_neg c3, if_neg (by omega)]
          simp only [fin, if_true]; congr 2 <;> first | rfl | omega | (congr 1 <;> first | rfl | omega)
/-- the reference's TakeUint -/
theorem refTakeUint_f (b : List Int) (hb : Bs b) (hl : b.length ≤ 140737488355328) (p : Int) (k : Nat) (hk : 30 ≤ k) : grapevineref02_TakeUint.f k b p = some (TU b p) := by
  unfold grapevineref02_TakeUint.f TU
  obtain ⟨k, rfl⟩ : ∃ m, k = m + 2 := ⟨k - 2, by omega⟩
  by_cases h : p < 0
  · rw [if_pos h, if_pos (.inl h)]; rfl
  · rw [if_neg h]
    simp only [grapevineref02_TakeUint.j0]
    by_cases h2 : p > (b.length : Int)
    · rw [if_pos (by simpa using h2), if_pos (.inr h2)]
    · rw [if_neg (by simpa using h2), if_neg (by omega)]
      obtain ⟨q, rfl⟩ : ∃ q : Nat, p = q := ⟨p.toNat, by omega⟩
      exact refTakeUint_l0 b hb hl q (by omega) _ 0 0 k rfl (by omega) (by omega) (by decide) (by omega) (by omega)
theorem TU_range (b : List Int) (hb : Bs b) (p : Int) : 0 ≤ (TU b p).1 ∧ (TU b p).1 < 18446744073709551616 ∧ 0 ≤ (TU b p).2.1 ∧ (TU b p).2.1 ≤ b.length ∧ ((TU b p).2.2 ≠ 0 → (TU b p).1 = 0 ∧ (TU b p).2.1 = 0) ∧ ((TU b p).2.2 = 0 → 0 ≤ p ∧ p < (TU b p).2.1) := by
  unfold TU
  by_cases h : p < 0 ∨ p > (b.length : Int)
  · rw [if_pos h]; simp
  · rw [if_neg h]
    obtain ⟨r1, r2, r3, r4, r5, r6⟩ := tk_range (b.drop p.toNat) 0 0 (hb.drop _) (by omega) (by omega) (by decide)
    rw [List.length_drop] at r4
    unfold fin
    generalize tk (b.drop p.toNat) 0 0 = t at *
    by_cases e : t.2.2 = 0
    · rw [if_pos e]
      have := r6 e
      dsimp only
      refine ⟨r1, r2, by omega, by omega, fun h => absurd e h, fun _ => by omega⟩
    · rw [if_neg e]
      dsimp only
      refine ⟨r1, r2, by omega, by omega, fun h => ⟨(r5 h).1, rfl⟩, fun h => absurd h e⟩
end Go.Proofs.Ytchanabiobcbhaa.Oct
