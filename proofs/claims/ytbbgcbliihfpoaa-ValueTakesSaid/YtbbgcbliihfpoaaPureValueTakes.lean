/- The value at a place is told as the reference does it: for every bytes and place. -/
import Derived.Laws.BitsAllLaws
import Derived.RowKit
import Derived.Test.YtbbgcbliihfpoaaWMore
import Derived.Test.YtbbgcbliihfpoaaQx17
import Derived.Test.YtbbgcbliihfpoaaQx2
import Derived.Test.YtbbgcbliihfpoaaQx8
import Derived.Test.YtbbgcbliihfpoaaQx18
import Derived.Test.YtbbgcbliihfpoaaQx3
import Derived.Test.YtbbgcbliihfpoaaQx9
import Derived.Test.YtbbgcbliihfpoaaQx19
import Derived.Test.YtbbgcbliihfpoaaQx4
import Derived.Test.YtbbgcbliihfpoaaQx5
import Derived.Test.YtbbgcbliihfpoaaQx10
import Derived.Test.YtbbgcbliihfpoaaQx11
import Derived.Test.YtbbgcbliihfpoaaFl
import Derived.Test.YtbbgcbliihfpoaaQx7
import Derived.Test.YtbbgcbliihfpoaaQx6
import Derived.Test.YtbbgcbliihfpoaaQx13
import Derived.Test.YtbbgcbliihfpoaaQx12
import Derived.Test.YtbbgcbliihfpoaaQx26
namespace Go.Proofs.Ytbbgcbliihfpoaa.Oct
open Go Go.RowKit Go.Proofs.YtbbgcbliihfpoaaW.PrintWords Go.Proofs.YtbbgcbliihfpoaaW.PrintMore
set_option linter.unusedVariables false

theorem u64w (x : Int) : IntKind.u64.wrap x = x % 18446744073709551616 := IntKind.wrap_u64 x
theorem u64w_id {x : Int} (h0 : 0 ≤ x) (h1 : x < 18446744073709551616) : IntKind.u64.wrap x = x := by rw [u64w]; omega
theorem w64_id {x : Int} (h0 : -9223372036854775808 ≤ x) (h1 : x < 9223372036854775808) : wrap64 x = x := by unfold wrap64; omega

/-- bytes: all from 0 to 255 -/
def Bs (l : List Int) : Prop := ∀ x ∈ l, 0 ≤ x ∧ x ≤ 255
theorem Bs.of_wf {l : List Int} (h : ∀ x ∈ l, (Lit.int .u8 x).wf = true) : Bs l := by
  intro x hx
  have := h x hx
  simp [Lit.wf, IntKind.min, IntKind.max, IntKind.signed, IntKind.bits] at this
  omega
theorem Bs.nil : Bs [] := by intro x hx; simp at hx
theorem Bs.cons {x : Int} {l : List Int} (h : 0 ≤ x ∧ x ≤ 255) (hl : Bs l) : Bs (x :: l) := by
  intro y hy
  rcases List.mem_cons.mp hy with rfl | hy
  · exact h
  · exact hl y hy
theorem Bs.append {a b : List Int} (ha : Bs a) (hb : Bs b) : Bs (a ++ b) := by
  intro x hx
  rcases List.mem_append.mp hx with h | h
  · exact ha x h
  · exact hb x h
theorem Bs.drop {l : List Int} (h : Bs l) (n : Nat) : Bs (l.drop n) := fun x hx => h x (List.mem_of_mem_drop hx)
theorem Bs.take {l : List Int} (h : Bs l) (n : Nat) : Bs (l.take n) := fun x hx => h x (List.mem_of_mem_take hx)

/-! ### a number's bytes -/
def uB : Nat → Int → List Int
  | 0, n => [n]
  | f + 1, n => if n ≥ 128 then (n % 128 + 128) :: uB f (n / 128) else [n]

theorem or128 (x : Int) (h0 : 0 ≤ x) (h1 : x < 256) : Go.bits .or .u8 x 128 = x % 128 + 128 := by
  rw [u8_or x 128 h0 h1 (by decide) (by decide)]
  have key : ∀ n : Fin 256, (n.val ||| 128) = n.val % 128 + 128 := by decide +kernel
  have := key ⟨x.toNat, by omega⟩
  simp only at this
  rw [show (128 : Int).toNat = 128 from rfl, this]
  omega
theorem and127 (x : Int) (h0 : 0 ≤ x) (h1 : x < 256) : Go.bits .and .u8 x 127 = x % 128 := by
  rw [u8_and x 127 h0 h1 (by decide) (by decide)]
  rw [show (127 : Int).toNat = 127 from rfl, nat_mask7]
  omega

theorem uB_len (f : Nat) (n : Int) : 1 ≤ (uB f n).length ∧ (uB f n).length ≤ f + 1 := by
  induction f generalizing n with
  | zero => simp [uB]
  | succ f ih =>
    unfold uB
    split
    · have := ih (n / 128)
      simp only [List.length_cons]
      omega
    · simp
theorem uB_small (f : Nat) (n : Int) (h : n < 128) : uB f n = [n] := by
  cases f with
  | zero => rfl
  | succ f => unfold uB; rw [if_neg (by omega)]
theorem uB_bytes (f : Nat) (n : Int) (h0 : 0 ≤ n) (h1 : n < 128 ^ (f + 1)) : Bs (uB f n) := by
  induction f generalizing n with
  | zero => exact Bs.cons ⟨h0, by simp at h1; omega⟩ Bs.nil
  | succ f ih =>
    unfold uB
    split
    · refine Bs.cons ⟨by omega, by omega⟩ (ih _ (by omega) ?_)
      rw [Int.pow_succ] at h1
      exact Int.ediv_lt_of_lt_mul (by decide) h1
    · exact Bs.cons ⟨h0, by omega⟩ Bs.nil

theorem uB_mono (f : Nat) : ∀ a b : Int, 0 ≤ a → a ≤ b → b < 128 ^ (f + 1) → (uB f a).length ≤ (uB f b).length := by
  induction f with
  | zero => intro a b _ _ _; simp [uB]
  | succ f ih =>
    intro a b ha hab hb
    unfold uB
    by_cases h1 : a ≥ 128
    · rw [if_pos h1, if_pos (by omega)]
      simp only [List.length_cons]
      have hb' : b / 128 < 128 ^ (f + 1) := by
        rw [Int.pow_succ] at hb
        exact Int.ediv_lt_of_lt_mul (by decide) hb
      have := ih (a / 128) (b / 128) (by omega) (by omega) hb'
      omega
    · rw [if_neg h1]
      have := (uB_len (f + 1) b).1
      unfold uB at this
      exact this

/-- what stands for a number: the value, how many bytes, the error -/
def tk : List Int → Nat → Int → Int × Int × Int
  | [], _, _ => (0, 0, 3)
  | x :: xs, i, n =>
    if i = 9 ∧ x > 1 then (0, 0, 6)
    else if x ≥ 128 then tk xs (i + 1) (n + x % 128 * 2 ^ (7 * i))
    else if x = 0 ∧ i > 0 then (0, 0, 4)
    else (n + x % 128 * 2 ^ (7 * i), (i : Int) + 1, 0)
def fin (at' : Int) (r : Int × Int × Int) : Int × Int × Int := (r.1, if r.2.2 = 0 then at' + r.2.1 else 0, r.2.2)
/-- the number at a place, and the place behind it, or the error -/
def TU (b : List Int) (at' : Int) : Int × Int × Int :=
  if at' < 0 ∨ at' > (b.length : Int) then (0, 0, 2) else fin at' (tk (b.drop at'.toNat) 0 0)

theorem pow2_le {a b : Nat} (h : a ≤ b) : (2 : Int) ^ a ≤ 2 ^ b := by
  have : ((2 ^ a : Nat) : Int) ≤ ((2 ^ b : Nat) : Int) := Int.ofNat_le.mpr (Nat.pow_le_pow_right (by decide) h)
  rw [Int.natCast_pow, Int.natCast_pow] at this
  exact this
theorem pow7 (i : Nat) : (2 : Int) ^ (7 * (i + 1)) = 2 ^ (7 * i) * 128 := by
  rw [Nat.mul_add, Int.pow_add]; rfl
theorem pow7pos (i : Nat) : (0 : Int) < 2 ^ (7 * i) := Int.pow_pos (by decide)
theorem pow_le9 {i : Nat} (h : i ≤ 9) : (2 : Int) ^ (7 * i) ≤ 9223372036854775808 := by
  have : (2 : Int) ^ (7 * i) ≤ 2 ^ (7 * 9) := pow2_le (by omega)
  exact this

/-- the digit's share, beside what was there -/
theorem or_shl (n x : Int) (i : Nat) (hi : i ≤ 9) (hn0 : 0 ≤ n) (hn : n < 2 ^ (7 * i)) (hx0 : 0 ≤ x) (hx : x ≤ 255) (h9 : i = 9 → x ≤ 1) :
    Go.bits .or .u64 n (shl .u64 (IntKind.u64.wrap (Go.bits .and .u8 x 127)) (wrap64 (7 * (i : Int)))) = n + x % 128 * 2 ^ (7 * i) ∧
      n + x % 128 * 2 ^ (7 * i) < 18446744073709551616 ∧ (i < 9 → n + x % 128 * 2 ^ (7 * i) < 2 ^ (7 * (i + 1))) := by
  have hp := pow7pos i
  have hp9 := pow_le9 hi
  have hm : x % 128 * 2 ^ (7 * i) + n < 18446744073709551616 := by
    by_cases h : i = 9
    · subst h
      have : x % 128 ≤ 1 := by have := h9 rfl; omega
      have e : (2 : Int) ^ (7 * 9) = 9223372036854775808 := by decide +kernel
      rw [e] at hn ⊢
      omega
    · have h8 : (2 : Int) ^ (7 * i) ≤ 2 ^ (7 * 8) := pow2_le (by omega)
      have e : (2 : Int) ^ (7 * 8) = 72057594037927936 := by decide +kernel
      rw [e] at h8
      have : x % 128 * 2 ^ (7 * i) ≤ 127 * 2 ^ (7 * i) := Int.mul_le_mul_of_nonneg_right (by omega) (by omega)
      omega
  have hlt : i < 9 → n + x % 128 * 2 ^ (7 * i) < 2 ^ (7 * (i + 1)) := by
    intro _
    rw [pow7]
    have : x % 128 * 2 ^ (7 * i) ≤ 127 * 2 ^ (7 * i) := Int.mul_le_mul_of_nonneg_right (by omega) (by omega)
    omega
  refine ⟨?_, by omega, hlt⟩
  rw [and127 x hx0 (by omega), u64w_id (by omega) (by omega), w64_id (by omega) (by omega)]
  have hs : min (7 * (i : Int)).toNat (IntKind.u64).bits = 7 * i := by
    have : (7 * (i : Int)).toNat = 7 * i := by omega
    rw [this]
    show min (7 * i) 64 = 7 * i
    omega
  unfold shl
  rw [hs]
  have hnn : 0 ≤ x % 128 * 2 ^ (7 * i) := Int.mul_nonneg (by omega) (by omega)
  rw [u64w_id hnn (by omega)]
  rw [u64_or n _ hn0 (by omega) hnn (by omega)]
  have e1 : (x % 128 * 2 ^ (7 * i)).toNat = 2 ^ (7 * i) * (x % 128).toNat := by
    have : x % 128 * 2 ^ (7 * i) = ((2 ^ (7 * i) * (x % 128).toNat : Nat) : Int) := by
      rw [Int.natCast_mul, Int.natCast_pow, Int.toNat_of_nonneg (by omega), Int.mul_comm]; rfl
    rw [this]; rfl
  have hnlt : n.toNat < 2 ^ (7 * i) := by
    have : (n.toNat : Int) < ((2 ^ (7 * i) : Nat) : Int) := by
      rw [Int.toNat_of_nonneg hn0, Int.natCast_pow]; exact hn
    omega
  rw [e1, Nat.or_comm, ← Nat.two_pow_add_eq_or_of_lt hnlt, Int.natCast_add, Int.natCast_mul, Int.natCast_pow, Int.toNat_of_nonneg (by omega), Int.toNat_of_nonneg hn0]
  have : ((2 : Nat) : Int) ^ (7 * i) = 2 ^ (7 * i) := rfl
  rw [this, Int.mul_comm]; omega

/-- what is told of a number's bytes, whatever stands behind -/
theorem tk_uB : ∀ (f i : Nat) (n acc : Int) (rest : List Int), i + f = 9 → 0 ≤ n → n < 2 ^ (64 - 7 * i) → (i = 0 ∨ n > 0) →
    tk (uB f n ++ rest) i acc = (acc + n * 2 ^ (7 * i), (i : Int) + (uB f n).length, 0) := by
  intro f
  induction f with
  | zero =>
    intro i n acc rest hi h0 h1 hz
    obtain rfl : i = 9 := by omega
    have hn : n < 2 := h1
    simp only [uB, List.singleton_append, tk]
    rw [if_neg (by omega), if_neg (by omega), if_neg (by omega)]
    rw [Int.emod_eq_of_lt h0 (by omega)]
    simp
  | succ f ih =>
    intro i n acc rest hi h0 h1 hz
    unfold uB
    by_cases h : n ≥ 128
    · rw [if_pos h]
      simp only [List.cons_append, tk]
      rw [if_neg (by omega), if_pos (by omega)]
      have e64 : 64 - 7 * i = 7 + (64 - 7 * (i + 1)) := by omega
      have hd : n / 128 < 2 ^ (64 - 7 * (i + 1)) := by
        rw [e64, Int.pow_add] at h1
        exact Int.ediv_lt_of_lt_mul (by decide) (by rw [Int.mul_comm]; exact h1)
      rw [ih (i + 1) (n / 128) _ rest (by omega) (by omega) hd (by omega)]
      have e1 : (n % 128 + 128) % 128 = n % 128 := by omega
      rw [e1, pow7]
      have e2 : n = n % 128 + 128 * (n / 128) := by omega
      have e3 : acc + n % 128 * 2 ^ (7 * i) + n / 128 * (2 ^ (7 * i) * 128) = acc + n * 2 ^ (7 * i) := by
        have : n * 2 ^ (7 * i) = n % 128 * 2 ^ (7 * i) + n / 128 * (2 ^ (7 * i) * 128) := by
          conv => lhs; rw [e2]
          rw [Int.add_mul, Int.mul_comm (2 ^ (7 * i)) 128, ← Int.mul_assoc, Int.mul_comm 128 (n / 128)]
        omega
      rw [e3]
      simp only [List.length_cons]
      congr 2
      omega
    · rw [if_neg h]
      simp only [List.singleton_append, tk]
      rw [if_neg (by omega), if_neg (by omega), if_neg (by omega), Int.emod_eq_of_lt h0 (by omega)]
      simp

/-- what is taken for a number are just its bytes -/
theorem tk_once : ∀ (l : List Int) (i : Nat) (acc v c : Int), Bs l → i ≤ 9 → tk l i acc = (v, c, 0) →
    ∃ (m : Int) (rest : List Int), l = uB (9 - i) m ++ rest ∧ v = acc + m * 2 ^ (7 * i) ∧ c = (i : Int) + (uB (9 - i) m).length ∧ 0 ≤ m ∧ m < 2 ^ (64 - 7 * i) ∧ (i > 0 → m > 0) := by
  intro l
  induction l with
  | nil => intro i acc v c _ _ h; simp [tk] at h
  | cons x xs ih =>
    intro i acc v c hb hi h
    have hx := hb x (by simp)
    unfold tk at h
    by_cases h1 : i = 9 ∧ x > 1
    · rw [if_pos h1] at h; simp at h
    · rw [if_neg h1] at h
      by_cases h2 : x ≥ 128
      · rw [if_pos h2] at h
        have hi' : i + 1 ≤ 9 := by omega
        obtain ⟨m, rest, hl, hv, hc, hm0, hm1, hmp⟩ := ih (i + 1) _ v c (fun y hy => hb y (by simp [hy])) hi' h
        have hmp := hmp (by omega)
        refine ⟨128 * m + x % 128, rest, ?_, ?_, ?_, by omega, ?_, by omega⟩
        · obtain ⟨f, hf⟩ : ∃ f, 9 - i = f + 1 := ⟨8 - i, by omega⟩
          rw [hf]
          unfold uB
          rw [if_pos (by omega)]
          have e1 : (128 * m + x % 128) % 128 + 128 = x := by omega
          have e2 : (128 * m + x % 128) / 128 = m := by omega
          rw [e1, e2, List.cons_append, hl, show f = 9 - (i + 1) from by omega]
        · rw [hv, pow7, Int.add_mul, Int.mul_comm (2 ^ (7 * i)) 128, ← Int.mul_assoc, Int.mul_comm m 128]
          omega
        · rw [hc]
          obtain ⟨f, hf⟩ : ∃ f, 9 - i = f + 1 := ⟨8 - i, by omega⟩
          rw [hf]
          conv => rhs; unfold uB
          rw [if_pos (by omega)]
          have e2 : (128 * m + x % 128) / 128 = m := by omega
          rw [e2, List.length_cons, show 9 - (i + 1) = f from by omega]
          omega
        · have e64 : 64 - 7 * i = 7 + (64 - 7 * (i + 1)) := by omega
          rw [e64, Int.pow_add]
          have : (2 : Int) ^ 7 = 128 := by decide
          rw [this]
          omega
      · rw [if_neg h2] at h
        by_cases h3 : x = 0 ∧ i > 0
        · rw [if_pos h3] at h; simp at h
        · rw [if_neg h3] at h
          simp only [Prod.mk.injEq] at h
          obtain ⟨hv, hc, _⟩ := h
          refine ⟨x, xs, ?_, ?_, ?_, by omega, ?_, by omega⟩
          · rw [uB_small _ _ (by omega)]; rfl
          · rw [← hv, Int.emod_eq_of_lt (by omega) (by omega)]
          · rw [uB_small _ _ (by omega), ← hc]; rfl
          · by_cases h9 : i = 9
            · subst h9
              show x < 2
              omega
            · have : (2 : Int) ^ 8 ≤ 2 ^ (64 - 7 * i) := pow2_le (by omega)
              have e : (2 : Int) ^ 8 = 256 := by decide
              omega

/-- cut short -/
theorem tk_cut : ∀ (f i : Nat) (n acc : Int) (m : Nat), i + f = 9 → 0 ≤ n → n < 2 ^ (64 - 7 * i) → m < (uB f n).length → tk ((uB f n).take m) i acc = (0, 0, 3) := by
  intro f
  induction f with
  | zero =>
    intro i n acc m hi h0 h1 hm
    simp [uB] at hm
    subst hm
    simp [tk]
  | succ f ih =>
    intro i n acc m hi h0 h1 hm
    cases m with
    | zero => simp [tk]
    | succ m =>
      unfold uB at hm ⊢
      by_cases h : n ≥ 128
      · rw [if_pos h] at hm ⊢
        simp only [List.take_succ_cons, tk]
        rw [if_neg (by omega), if_pos (by omega)]
        have e64 : 64 - 7 * i = 7 + (64 - 7 * (i + 1)) := by omega
        refine ih (i + 1) (n / 128) _ m (by omega) (by omega) ?_ (by simpa using hm)
        rw [e64, Int.pow_add] at h1
        exact Int.ediv_lt_of_lt_mul (by decide) (by rw [Int.mul_comm]; exact h1)
      · rw [if_neg h] at hm
        simp at hm
theorem tk_range : ∀ (l : List Int) (i : Nat) (acc : Int), Bs l → i ≤ 9 → 0 ≤ acc → acc < 2 ^ (7 * i) →
    0 ≤ (tk l i acc).1 ∧ (tk l i acc).1 < 18446744073709551616 ∧ 0 ≤ (tk l i acc).2.1 ∧ (tk l i acc).2.1 ≤ (i : Int) + l.length ∧ ((tk l i acc).2.2 ≠ 0 → (tk l i acc).1 = 0 ∧ (tk l i acc).2.1 = 0) ∧ ((tk l i acc).2.2 = 0 → (i : Int) < (tk l i acc).2.1) := by
  intro l
  induction l with
  | nil => intro i acc _ _ _ _; simp [tk] <;> omega
  | cons x xs ih =>
    intro i acc hb hi h0 h1
    have hx := hb x (by simp)
    unfold tk
    by_cases c1 : i = 9 ∧ x > 1
    · rw [if_pos c1]; simp; omega
    · rw [if_neg c1]
      obtain ⟨_, r1, r2⟩ := or_shl acc x i hi h0 h1 hx.1 hx.2 (by omega)
      have hnn : 0 ≤ x % 128 * 2 ^ (7 * i) := Int.mul_nonneg (by omega) (by have := pow7pos i; omega)
      by_cases c2 : x ≥ 128
      · rw [if_pos c2]
        have := ih (i + 1) (acc + x % 128 * 2 ^ (7 * i)) (fun y hy => hb y (by simp [hy])) (by omega) (by omega) (r2 (by omega))
        simp only [List.length_cons]
        refine ⟨this.1, this.2.1, this.2.2.1, by have := this.2.2.2.1; omega, this.2.2.2.2.1, fun h => by have := this.2.2.2.2.2 h; omega⟩
      · rw [if_neg c2]
        by_cases c3 : x = 0 ∧ i > 0
        · rw [if_pos c3]; simp; omega
        · rw [if_neg c3]
          simp only [List.length_cons]
          refine ⟨by omega, r1, by omega, by omega, by simp, by omega⟩
theorem pow64 : (2 : Int) ^ (64 - 7 * 0) = 18446744073709551616 := by decide +kernel
theorem pow128 : (128 : Int) ^ (9 + 1) = 1180591620717411303424 := by decide +kernel

/-! ### numbers that may be below 0 -/
def fold (n : Int) : Int := if n ≥ 0 then 2 * n else -2 * n - 1
def unfold' (u : Int) : Int := if u % 2 = 0 then u / 2 else -(u / 2) - 1
theorem fold_range {n : Int} (h0 : -9223372036854775808 ≤ n) (h1 : n ≤ 9223372036854775807) : 0 ≤ fold n ∧ fold n < 18446744073709551616 := by
  unfold fold; split <;> omega
theorem unfold_fold (n : Int) : unfold' (fold n) = n := by
  unfold unfold' fold
  split
  · rw [if_pos (by omega)]; omega
  · rw [if_neg (by omega)]; omega
theorem fold_unfold (u : Int) (h : 0 ≤ u) : fold (unfold' u) = u := by
  unfold unfold' fold
  split
  · rw [if_pos (by omega)]; omega
  · rw [if_neg (by omega)]; omega
theorem unfold_range {u : Int} (h0 : 0 ≤ u) (h1 : u < 18446744073709551616) : -9223372036854775808 ≤ unfold' u ∧ unfold' u ≤ 9223372036854775807 := by
  unfold unfold'; split <;> omega
theorem xor_all64 (a : Nat) (h : a < 18446744073709551616) : a ^^^ 18446744073709551615 = 18446744073709551615 - a := by
  have h1 : (BitVec.ofNat 64 a ^^^ BitVec.allOnes 64).toNat = a ^^^ 18446744073709551615 := by
    rw [BitVec.toNat_xor, BitVec.toNat_allOnes, BitVec.toNat_ofNat, Nat.mod_eq_of_lt h]
  have h2 : (BitVec.ofNat 64 a ^^^ BitVec.allOnes 64).toNat = 18446744073709551615 - a := by
    rw [BitVec.xor_allOnes, BitVec.toNat_not, BitVec.toNat_ofNat, Nat.mod_eq_of_lt h]
  omega
theorem xor_fold (n : Int) (h0 : -9223372036854775808 ≤ n) (h1 : n ≤ 9223372036854775807) :
    Go.bits .xor .u64 (IntKind.u64.wrap ((IntKind.u64.wrap n) * 2)) (IntKind.u64.wrap (n / 9223372036854775808)) = fold n := by
  rw [u64w, u64w, u64w]
  have hr : 0 ≤ (n % 18446744073709551616 * 2) % 18446744073709551616 ∧ (n % 18446744073709551616 * 2) % 18446744073709551616 < 18446744073709551616 := by omega
  by_cases h : n ≥ 0
  · have e : n / 9223372036854775808 = 0 := by omega
    rw [e]
    have e2 : (n % 18446744073709551616 * 2) % 18446744073709551616 = 2 * n := by omega
    rw [e2]
    obtain ⟨m, hm⟩ : ∃ m : Nat, 2 * n = m := ⟨(2 * n).toNat, by omega⟩
    rw [hm]
    have := bits_xor_u64_nat m 0 (by omega) (by omega)
    simp only [Int.ofNat_zero, Nat.xor_zero] at this
    rw [show ((0 : Int) % 18446744073709551616) = ((0 : Nat) : Int) from rfl]
    have := bits_xor_u64_nat m 0 (by omega) (by omega)
    rw [this, Nat.xor_zero]
    unfold fold; rw [if_pos h, hm]
  · have e : n / 9223372036854775808 = -1 := by omega
    rw [e]
    obtain ⟨m, hm⟩ : ∃ m : Nat, (n % 18446744073709551616 * 2) % 18446744073709551616 = m := ⟨_, (Int.toNat_of_nonneg hr.1).symm⟩
    rw [hm]
    rw [show ((-1 : Int) % 18446744073709551616) = ((18446744073709551615 : Nat) : Int) from rfl]
    rw [bits_xor_u64_nat m 18446744073709551615 (by omega) (by omega), xor_all64 m (by omega)]
    unfold fold; rw [if_neg h]
    omega
theorem xor_unfold (u : Int) (h0 : 0 ≤ u) (h1 : u < 18446744073709551616) :
    Go.bits .xor .i64 (wrap64 (u / 2)) (wrap64 (-(wrap64 (Go.bits .and .u64 u 1)))) = unfold' u := by
  rw [u64_and u 1 h0 h1 (by decide) (by decide), show (1 : Int).toNat = 1 from rfl, nat_mask1]
  rw [w64_id (x := u / 2) (by omega) (by omega)]
  have e0 : ((u.toNat % 2 : Nat) : Int) = u % 2 := by omega
  rw [e0, w64_id (x := u % 2) (by omega) (by omega), w64_id (x := -(u % 2)) (by omega) (by omega)]
  obtain ⟨m, hm⟩ : ∃ m : Nat, u / 2 = m := ⟨_, (Int.toNat_of_nonneg (by omega)).symm⟩
  unfold unfold'
  rw [hm]
  show IntKind.i64.wrap ((BitVec.ofInt 64 (m : Int) ^^^ BitVec.ofInt 64 (-(u % 2))).toNat : Int) = _
  by_cases h : u % 2 = 0
  · rw [if_pos h, h]
    have : BitVec.ofInt 64 (-0) = 0#64 := by decide
    rw [this, BitVec.xor_zero, ofInt_u64 m (by omega), IntKind.wrap_i64]
    omega
  · rw [if_neg h, show u % 2 = 1 from by omega]
    have : BitVec.ofInt 64 (-1) = BitVec.allOnes 64 := by decide
    rw [this, BitVec.xor_allOnes, BitVec.toNat_not, ofInt_u64 m (by omega), IntKind.wrap_i64]
    omega
end Go.Proofs.Ytbbgcbliihfpoaa.Oct
namespace Go.Proofs.Ytbbgcbliihfpoaa.Oct
open Go Go.RowKit Go.Proofs.YtbbgcbliihfpoaaW.PrintWords Go.Proofs.YtbbgcbliihfpoaaW.PrintMore Go.Proofs.Ytbbgcbliihfpoaa.Q
set_option linter.unusedVariables false

theorem Uint_l0 : ∀ (f : Nat) (n : Int) (acc : List Int) (k : Nat), 0 ≤ n → n < 128 ^ (f + 1) → acc.length + f < 140737488355328 → f < k →
    octet_Uint.l0 k n acc = some (acc ++ uB f n) := by
  intro f
  induction f with
  | zero =>
    intro n acc k h0 h1 ha hk
    obtain ⟨k, rfl⟩ : ∃ m, k = m + 1 := ⟨k - 1, by omega⟩
    simp only [octet_Uint.l0]
    have : n < 128 := by simpa using h1
    rw [if_neg (by omega), if_pos (by omega)]
    simp only [uB]
    rw [Int.emod_eq_of_lt h0 (by omega)]
  | succ f ih =>
    intro n acc k h0 h1 ha hk
    obtain ⟨k, rfl⟩ : ∃ m, k = m + 1 := ⟨k - 1, by omega⟩
    simp only [octet_Uint.l0]
    by_cases h : n ≥ 128
    · rw [if_pos h, if_pos (by omega)]
      have hd : n / 128 < 128 ^ (f + 1) := by
        rw [Int.pow_succ] at h1
        exact Int.ediv_lt_of_lt_mul (by decide) h1
      have e : Go.bits .or .u8 (n % 256) 128 = n % 128 + 128 := by rw [or128 _ (by omega) (by omega)]; omega
      rw [e, ih (n / 128) _ k (by omega) hd (by simp; omega) (by omega)]
      conv => rhs; unfold uB
      rw [if_pos h]
      simp
    · rw [if_neg h, if_pos (by omega)]
      unfold uB
      rw [if_neg h, Int.emod_eq_of_lt h0 (by omega)]
/-- octet.Uint -/
theorem Uint_f (n : Int) (k : Nat) (h0 : 0 ≤ n) (h1 : n < 18446744073709551616) (hk : 20 ≤ k) : octet_Uint.f k n = some (uB 9 n) := by
  unfold octet_Uint.f
  rw [Uint_l0 9 n [] k h0 (by rw [pow128]; omega) (by simp) (by omega)]
  rfl

theorem wf_u64 {n : Int} (h : (Lit.int .u64 n).wf = true) : 0 ≤ n ∧ n < 18446744073709551616 := by
  simp [Lit.wf, IntKind.min, IntKind.max, IntKind.signed, IntKind.bits] at h
  omega
theorem wf_i64 {n : Int} (h : (Lit.int .i64 n).wf = true) : -9223372036854775808 ≤ n ∧ n ≤ 9223372036854775807 := by
  simp [Lit.wf, IntKind.min, IntKind.max, IntKind.signed, IntKind.bits] at h
  omega
end Go.Proofs.Ytbbgcbliihfpoaa.Oct
namespace Go.Proofs.Ytbbgcbliihfpoaa.Oct
open Go Go.RowKit Go.Proofs.YtbbgcbliihfpoaaW.PrintWords Go.Proofs.YtbbgcbliihfpoaaW.PrintMore Go.Proofs.Ytbbgcbliihfpoaa.Q
set_option linter.unusedVariables false

theorem rd_drop {b : List Int} {p : Nat} {x : Int} {xs : List Int} (h : b.drop p = x :: xs) {j : Int} (hj : j = p) : rd b j = x := by
  subst hj
  unfold rd
  rw [Int.toNat_natCast, List.getD_eq_getElem?_getD]
  have : (b.drop p)[0]? = some x := by rw [h]; rfl
  rw [List.getElem?_drop] at this
  simp at this
  simp [this]
theorem drop_succ {b : List Int} {p : Nat} {x : Int} {xs : List Int} (h : b.drop p = x :: xs) : b.drop (p + 1) = xs := by
  rw [← List.drop_drop, h]; rfl
theorem drop_lt {b : List Int} {p : Nat} {x : Int} {xs : List Int} (h : b.drop p = x :: xs) : p < b.length := by
  rcases Nat.lt_or_ge p b.length with h' | h'
  · exact h'
  · rw [List.drop_of_length_le h'] at h; cases h

theorem TakeUint_l0 (b : List Int) (hb : Bs b) (hl : b.length ≤ 140737488355328) (p : Nat) (hp : p ≤ b.length) : ∀ (rest : List Int) (i : Nat) (n : Int) (k : Nat), b.drop (p + i) = rest → i ≤ 9 → 0 ≤ n → n < 2 ^ (7 * i) → p + i ≤ b.length → 20 ≤ k + 2 * i →
    octet_TakeUint.l0 (k + 1) b p n i = some (fin p (tk rest i n)) := by
  intro rest
  induction rest with
  | nil =>
    intro i n k hd hi h0 h1 hpi hk
    have : b.length ≤ p + i := by simpa using hd
    simp only [octet_TakeUint.l0]
    rw [w64_id (x := (p : Int) + i) (by omega) (by omega), if_pos (by omega)]
    rfl
  | cons x xs ih =>
    intro i n k hd hi h0 h1 hpi hk
    have hlt := drop_lt hd
    have hx : 0 ≤ x ∧ x ≤ 255 := (hb.drop (p + i)) x (by rw [hd]; simp)
    simp only [octet_TakeUint.l0]
    rw [w64_id (x := (p : Int) + i) (by omega) (by omega), if_neg (by omega), if_pos (by omega), if_pos (by omega), rd_drop hd (by omega)]
    obtain ⟨k, rfl⟩ : ∃ m, k = m + 1 := ⟨k - 1, by omega⟩
    have e35 : (if (i : Int) = 9 then octet_TakeUint.j2 (k + 1) b p n i x (decide (x > 1)) else octet_TakeUint.j2 (k + 1) b p n i x false) = octet_TakeUint.j2 (k + 1) b p n i x (decide (i = 9 ∧ x > 1)) := by
      by_cases h9 : i = 9
      · rw [if_pos (by omega)]; simp [h9]
      · rw [if_neg (by omega)]; simp [h9]
    rw [e35]
    simp only [octet_TakeUint.j2]
    unfold tk
    by_cases c1 : i = 9 ∧ x > 1
    · rw [if_pos (by simp [c1]), if_pos c1]; rfl
    · rw [if_neg (by simpa using c1), if_neg c1]
      obtain ⟨e, r1, r2⟩ := or_shl n x i hi h0 h1 hx.1 hx.2 (by omega)
      rw [e]
      have hnn : 0 ≤ x % 128 * 2 ^ (7 * i) := Int.mul_nonneg (by omega) (by have := pow7pos i; omega)
      rw [w64_id (x := 7 * (i : Int)) (by omega) (by omega), if_pos (by omega)]
      by_cases c2 : x ≥ 128
      · rw [if_pos c2, if_pos c2, w64_id (x := (i : Int) + 1) (by omega) (by omega)]
        obtain ⟨k, rfl⟩ : ∃ m, k = m + 1 := ⟨k - 1, by omega⟩
        have := ih (i + 1) (n + x % 128 * 2 ^ (7 * i)) k (by rw [← Nat.add_assoc]; exact drop_succ hd) (by omega) (by omega) (r2 (by omega)) (by omega) (by omega)
        rw [← this]; rfl
      · rw [if_neg c2, if_neg c2, w64_id (x := (p : Int) + i) (by omega) (by omega), w64_id (x := (p : Int) + i + 1) (by omega) (by omega)]
        by_cases c3 : x = 0
        · rw [if_pos c3]
          by_cases c4 : i > 0
          · rw [if_pos (by omega), if_pos ⟨c3, c4⟩]; rfl
          · rw [if_neg (by omega), if_neg (by omega)]
            simp only [fin, if_true]; congr 2 <;> first | rfl | omega | (congr 1 <;> first | rfl | omega)
        · rw [if_neg c3, if_neg (by omega)]
          simp only [fin, if_true]; congr 2 <;> first | rfl | omega | (congr 1 <;> first | rfl | omega)
/-- octet.TakeUint -/
theorem TakeUint_f (b : List Int) (hb : Bs b) (hl : b.length ≤ 140737488355328) (p : Int) (k : Nat) (hk : 30 ≤ k) : octet_TakeUint.f k b p = some (TU b p) := by
  unfold octet_TakeUint.f TU
  obtain ⟨k, rfl⟩ : ∃ m, k = m + 2 := ⟨k - 2, by omega⟩
  by_cases h : p < 0
  · rw [if_pos h, if_pos (.inl h)]; rfl
  · rw [if_neg h]
    simp only [octet_TakeUint.j0]
    by_cases h2 : p > (b.length : Int)
    · rw [if_pos (by simpa using h2), if_pos (.inr h2)]
    · rw [if_neg (by simpa using h2), if_neg (by omega)]
      obtain ⟨q, rfl⟩ : ∃ q : Nat, p = q := ⟨p.toNat, by omega⟩
      exact TakeUint_l0 b hb hl q (by omega) _ 0 0 k rfl (by omega) (by omega) (by decide) (by omega) (by omega)

theorem refTakeUint_l0 (b : List Int) (hb : Bs b) (hl : b.length ≤ 140737488355328) (p : Nat) (hp : p ≤ b.length) : ∀ (rest : List Int) (i : Nat) (n : Int) (k : Nat), b.drop (p + i) = rest → i ≤ 9 → 0 ≤ n → n < 2 ^ (7 * i) → p + i ≤ b.length → 20 ≤ k + 2 * i →
    grapevineref02_TakeUint.l0 (k + 1) b p n (2 ^ (7 * i)) i = some (fin p (tk rest i n)) := by
  intro rest
  induction rest with
  | nil =>
    intro i n k hd hi h0 h1 hpi hk
    have : b.length ≤ p + i := by simpa using hd
    simp only [grapevineref02_TakeUint.l0]
    rw [w64_id (x := (p : Int) + i) (by omega) (by omega), if_pos (by omega), if_pos (by omega)]
    rfl
  | cons x xs ih =>
    intro i n k hd hi h0 h1 hpi hk
    have hlt := drop_lt hd
    have hx : 0 ≤ x ∧ x ≤ 255 := (hb.drop (p + i)) x (by rw [hd]; simp)
    simp only [grapevineref02_TakeUint.l0]
    rw [w64_id (x := (p : Int) + i) (by omega) (by omega), if_pos (by omega), if_neg (by omega), if_pos (by omega), if_pos (by omega), rd_drop hd (by omega)]
    obtain ⟨k, rfl⟩ : ∃ m, k = m + 1 := ⟨k - 1, by omega⟩
    have e35 : (if (i : Int) = 9 then grapevineref02_TakeUint.j2 (k + 1) b p n (2 ^ (7 * i)) i x (decide (x > 1)) else grapevineref02_TakeUint.j2 (k + 1) b p n (2 ^ (7 * i)) i x false) = grapevineref02_TakeUint.j2 (k + 1) b p n (2 ^ (7 * i)) i x (decide (i = 9 ∧ x > 1)) := by
      by_cases h9 : i = 9
      · rw [if_pos (by omega)]; simp [h9]
      · rw [if_neg (by omega)]; simp [h9]
    rw [e35]
    simp only [grapevineref02_TakeUint.j2]
    unfold tk
    by_cases c1 : i = 9 ∧ x > 1
    · rw [if_pos (by simp [c1]), if_pos c1]; rfl
    · rw [if_neg (by simpa using c1), if_neg c1]
      obtain ⟨_, r1, r2⟩ := or_shl n x i hi h0 h1 hx.1 hx.2 (by omega)
      have hnn : 0 ≤ x % 128 * 2 ^ (7 * i) := Int.mul_nonneg (by omega) (by have := pow7pos i; omega)
      have e1 : Int.tmod x 128 = x % 128 := Int.tmod_eq_emod_of_nonneg hx.1
      rw [e1, u64w_id (x := x % 128) (by omega) (by omega), u64w_id (x := x % 128 * 2 ^ (7 * i)) hnn (by omega), u64w_id (x := n + x % 128 * 2 ^ (7 * i)) (by omega) r1]
      by_cases c2 : x ≥ 128
      · rw [if_neg (by omega), if_pos c2, w64_id (x := (i : Int) + 1) (by omega) (by omega)]
        obtain ⟨k, rfl⟩ : ∃ m, k = m + 1 := ⟨k - 1, by omega⟩
        have := ih (i + 1) (n + x % 128 * 2 ^ (7 * i)) k (by rw [← Nat.add_assoc]; exact drop_succ hd) (by omega) (by omega) (r2 (by omega)) (by omega) (by omega)
        rw [← this]
        have hi8 : i ≤ 8 := by omega
        have hp9 := pow_le9 (i := i + 1) (by omega)
        rw [pow7] at hp9
        have hpp := pow7pos i
        rw [u64w_id (x := 2 ^ (7 * i) * 128) (by omega) (by omega), pow7]; rfl
      · rw [if_pos (by omega), if_neg c2, w64_id (x := (p : Int) + i) (by omega) (by omega), w64_id (x := (p : Int) + i + 1) (by omega) (by omega)]
        by_cases c3 : x = 0
        · rw [if_pos c3]
          by_cases c4 : i > 0
          · rw [if_pos (by omega), if_pos ⟨c3, c4⟩]; rfl
          · rw [if_neg (by omega), if_neg (by omega)]
            simp only [fin, if_true]; congr 2 <;> first | rfl | omega | (congr 1 <;> first | rfl | omega)
        · rw [if_neg c3, if_neg (by omega)]
          simp only [fin, if_true]; congr 2 <;> first | rfl | omega | (congr 1 <;> first | rfl | omega)
/-- the reference's TakeUint -/
theorem refTakeUint_f (b : List Int) (hb : Bs b) (hl : b.length ≤ 140737488355328) (p : Int) (k : Nat) (hk : 30 ≤ k) : grapevineref02_TakeUint.f k b p = some (TU b p) := by
  unfold grapevineref02_TakeUint.f TU
  obtain ⟨k, rfl⟩ : ∃ m, k = m + 2 := ⟨k - 2, by omega⟩
  by_cases h : p < 0
  · rw [if_pos h, if_pos (.inl h)]; rfl
  · rw [if_neg h]
    simp only [grapevineref02_TakeUint.j0]
    by_cases h2 : p > (b.length : Int)
    · rw [if_pos (by simpa using h2), if_pos (.inr h2)]
    · rw [if_neg (by simpa using h2), if_neg (by omega)]
      obtain ⟨q, rfl⟩ : ∃ q : Nat, p = q := ⟨p.toNat, by omega⟩
      exact refTakeUint_l0 b hb hl q (by omega) _ 0 0 k rfl (by omega) (by omega) (by decide) (by omega) (by omega)
theorem TU_range (b : List Int) (hb : Bs b) (p : Int) : 0 ≤ (TU b p).1 ∧ (TU b p).1 < 18446744073709551616 ∧ 0 ≤ (TU b p).2.1 ∧ (TU b p).2.1 ≤ b.length ∧ ((TU b p).2.2 ≠ 0 → (TU b p).1 = 0 ∧ (TU b p).2.1 = 0) ∧ ((TU b p).2.2 = 0 → 0 ≤ p ∧ p < (TU b p).2.1) := by
  unfold TU
  by_cases h : p < 0 ∨ p > (b.length : Int)
  · rw [if_pos h]; simp
  · rw [if_neg h]
    obtain ⟨r1, r2, r3, r4, r5, r6⟩ := tk_range (b.drop p.toNat) 0 0 (hb.drop _) (by omega) (by omega) (by decide)
    rw [List.length_drop] at r4
    unfold fin
    generalize tk (b.drop p.toNat) 0 0 = t at *
    by_cases e : t.2.2 = 0
    · rw [if_pos e]
      have := r6 e
      dsimp only
      refine ⟨r1, r2, by omega, by omega, fun h => absurd e h, fun _ => by omega⟩
    · rw [if_neg e]
      dsimp only
      refine ⟨r1, r2, by omega, by omega, fun h => ⟨(r5 h).1, rfl⟩, fun h => absurd h e⟩
end Go.Proofs.Ytbbgcbliihfpoaa.Oct
namespace Go.Proofs.Ytbbgcbliihfpoaa.Oct
open Go Go.RowKit Go.Proofs.YtbbgcbliihfpoaaW.PrintWords Go.Proofs.YtbbgcbliihfpoaaW.PrintMore Go.Proofs.Ytbbgcbliihfpoaa.Q
set_option linter.unusedVariables false

/-- the number that may be below 0 at a place -/
def TI (b : List Int) (p : Int) : Int × Int × Int := (unfold' (TU b p).1, (TU b p).2.1, (TU b p).2.2)

theorem Int_f (n : Int) (k : Nat) (h0 : -9223372036854775808 ≤ n) (h1 : n ≤ 9223372036854775807) (hk : 20 ≤ k) : octet_Int.f k n = some (uB 9 (fold n)) := by
  unfold octet_Int.f
  have := fold_range h0 h1
  rw [xor_fold n h0 h1, Uint_f _ k this.1 this.2 hk]
  rfl
theorem TakeInt_f (b : List Int) (hb : Bs b) (hl : b.length ≤ 140737488355328) (p : Int) (k : Nat) (hk : 30 ≤ k) : octet_TakeInt.f k b p = some (TI b p) := by
  unfold octet_TakeInt.f TI
  rw [TakeUint_f b hb hl p k hk]
  simp only [Option.bind_some]
  have := TU_range b hb p
  rw [xor_unfold _ this.1 this.2.1]
theorem refTakeInt_f (b : List Int) (hb : Bs b) (hl : b.length ≤ 140737488355328) (p : Int) (k : Nat) (hk : 30 ≤ k) : grapevineref02_TakeInt.f k b p = some (TI b p) := by
  unfold grapevineref02_TakeInt.f TI
  rw [refTakeUint_f b hb hl p k hk]
  simp only [Option.bind_some]
  obtain ⟨r1, r2, r3, r4, r5, r6⟩ := TU_range b hb p
  generalize TU b p = t at *
  have e1 : Int.tdiv t.1 2 = t.1 / 2 := Int.tdiv_eq_ediv_of_nonneg r1
  have e2 : Int.tmod t.1 2 = t.1 % 2 := Int.tmod_eq_emod_of_nonneg r1
  by_cases h : t.2.2 = 0
  · rw [if_pos h, e1, e2, h]
    unfold unfold'
    rw [u64w_id (x := t.1 / 2) (by omega) (by omega), w64_id (x := t.1 / 2) (by omega) (by omega), w64_id (x := -(t.1 / 2)) (by omega) (by omega), w64_id (x := -(t.1 / 2) - 1) (by omega) (by omega)]
    by_cases h2 : t.1 % 2 = 0
    · rw [if_pos h2, if_pos h2]
    · rw [if_neg h2, if_neg h2]
  · rw [if_neg h]
    obtain ⟨z1, z2⟩ := r5 h
    rw [z1, z2]; rfl
end Go.Proofs.Ytbbgcbliihfpoaa.Oct
namespace Go.Proofs.Ytbbgcbliihfpoaa.Oct
open Go Go.RowKit Go.Proofs.YtbbgcbliihfpoaaW.PrintWords Go.Proofs.YtbbgcbliihfpoaaW.PrintMore Go.Proofs.Ytbbgcbliihfpoaa.Q
set_option linter.unusedVariables false

/-- as many bytes as the number at a place says -/
def PT (b : List Int) (p most : Int) : List Int × Int × Int :=
  if (TU b p).2.2 = 0 then
    if (TU b p).1 > most then ([], 0, 6)
    else if (TU b p).1 > (b.length : Int) - (TU b p).2.1 then ([], 0, 3)
    else ((b.drop (TU b p).2.1.toNat).take (TU b p).1.toNat, (TU b p).2.1 + (TU b p).1, 0)
  else ([], 0, (TU b p).2.2)
def TX (s : ByteArray) : List Int × Int := if (s.size : Int) > 200 then ([], 6) else (uB 9 s.size ++ bytesOf s, 0)

theorem part_f (b : List Int) (hb : Bs b) (hl : b.length ≤ 140737488355328) (p most : Int) (hm0 : 0 ≤ most) (hm1 : most ≤ 140737488355328) (k : Nat) (hk : 30 ≤ k) : octet_part.f k b p most = some (PT b p most) := by
  unfold octet_part.f PT
  rw [TakeUint_f b hb hl p k hk]
  simp only [Option.bind_some]
  obtain ⟨r1, r2, r3, r4, r5, r6⟩ := TU_range b hb p
  generalize TU b p = t at *
  by_cases h : t.2.2 = 0
  · rw [if_pos h, if_pos h, u64w_id (x := most) hm0 (by omega)]
    by_cases h1 : t.1 > most
    · rw [if_pos h1, if_pos h1]
    · rw [if_neg h1, if_neg h1, w64_id (x := (b.length : Int) - t.2.1) (by omega) (by omega), u64w_id (x := (b.length : Int) - t.2.1) (by omega) (by omega)]
      by_cases h2 : t.1 > (b.length : Int) - t.2.1
      · rw [if_pos h2, if_pos h2]
      · rw [if_neg h2, if_neg h2, w64_id (x := t.1) (by omega) (by omega), w64_id (x := t.2.1 + t.1) (by omega) (by omega), if_pos (by omega), if_pos (by omega), if_pos (by omega)]
        have e : (t.2.1 + t.1).toNat - t.2.1.toNat = t.1.toNat := by omega
        rw [List.drop_take, e]
  · rw [if_neg h, if_neg h]
theorem some_f (b : List Int) (hb : Bs b) (hl : b.length ≤ 140737488355327) (p most : Int) (hm0 : 0 ≤ most) (hm1 : most ≤ 140737488355328) (k : Nat) (hk : 30 ≤ k) : grapevineref02_some.f k b p most = some (PT b p most) := by
  unfold grapevineref02_some.f PT
  rw [refTakeUint_f b hb (by omega) p k hk]
  simp only [Option.bind_some]
  obtain ⟨r1, r2, r3, r4, r5, r6⟩ := TU_range b hb p
  generalize TU b p = t at *
  by_cases h : t.2.2 = 0
  · rw [if_pos h, if_pos h, u64w_id (x := most) hm0 (by omega)]
    by_cases h1 : t.1 > most
    · rw [if_pos h1, if_pos h1]
    · rw [if_neg h1, if_neg h1, w64_id (x := (b.length : Int) - t.2.1) (by omega) (by omega), w64_id (x := t.1) (by omega) (by omega)]
      by_cases h2 : t.1 > (b.length : Int) - t.2.1
      · rw [if_pos (by omega), if_pos h2]
      · rw [if_neg (by omega), if_neg h2, w64_id (x := t.2.1 + t.1) (by omega) (by omega), if_pos (by omega), if_pos (by omega), if_pos (by omega)]
        have e : (t.2.1 + t.1).toNat - t.2.1.toNat = t.1.toNat := by omega
        rw [List.drop_take, e]
        simp only [List.nil_append, List.length_nil, Nat.zero_add]
        rw [if_pos (by rw [List.length_take, List.length_drop]; omega)]
  · rw [if_neg h, if_neg h]
theorem TakeText_f (b : List Int) (hb : Bs b) (hl : b.length ≤ 140737488355328) (p : Int) (k : Nat) (hk : 30 ≤ k) : octet_TakeText.f k b p = some (strOfNums (PT b p 200).1, (PT b p 200).2.1, (PT b p 200).2.2) := by
  unfold octet_TakeText.f
  rw [part_f b hb hl p 200 (by omega) (by omega) k hk]
  rfl
theorem refTakeText_f (b : List Int) (hb : Bs b) (hl : b.length ≤ 140737488355327) (p : Int) (k : Nat) (hk : 30 ≤ k) : grapevineref02_TakeText.f k b p = some (strOfNums (PT b p 200).1, (PT b p 200).2.1, (PT b p 200).2.2) := by
  unfold grapevineref02_TakeText.f
  rw [some_f b hb hl p 200 (by omega) (by omega) k hk]
  rfl
theorem Text_f (s : ByteArray) (k : Nat) (hk : 20 ≤ k) : octet_Text.f k s = some (TX s) := by
  unfold octet_Text.f TX
  by_cases h : (s.size : Int) > 200
  · rw [if_pos h, if_pos h]
  · rw [if_neg h, if_neg h, u64w_id (x := (s.size : Int)) (by omega) (by omega), Uint_f _ k (by omega) (by omega) hk]
    simp only [Option.bind_some]
    have := uB_len 9 (s.size : Int)
    rw [if_pos (by omega)]
theorem str_bytes (s : ByteArray) : strOfNums (bytesOf s) = s := by
  cases s with
  | mk d =>
    unfold strOfNums bytesOf
    congr 1
    simp only [List.map_map]
    have : (fun n : Int => UInt8.ofNat n.toNat) ∘ (fun b : UInt8 => (b.toNat : Int)) = id := by
      funext b
      simp
    rw [this]
    simp
theorem bytesOf_bs (s : ByteArray) : Bs (bytesOf s) := by
  intro x hx
  unfold bytesOf at hx
  obtain ⟨b, _, rfl⟩ := List.mem_map.mp hx
  have := b.toNat_lt
  omega
/-- bytes that are put behind their length are taken as they were -/
theorem PT_back (l : List Int) (most : Int) (hl : (l.length : Int) ≤ most) (hm : most ≤ 140737488355328) (a c : List Int) :
    PT (a ++ (uB 9 l.length ++ l) ++ c) a.length most = (l, (a.length : Int) + (uB 9 l.length ++ l).length, 0) := by
  have hT : TU (a ++ (uB 9 l.length ++ l) ++ c) a.length = ((l.length : Int), (a.length : Int) + (uB 9 l.length).length, 0) := by
    unfold TU
    rw [if_neg (by simp; omega), Int.toNat_natCast, List.append_assoc, List.drop_left, List.append_assoc, tk_uB 9 0 _ 0 (l ++ c) (by decide) (by omega) (by rw [pow64]; omega) (.inl rfl)]
    simp [fin]
  unfold PT
  rw [hT]
  simp only [if_true]
  rw [if_neg (by omega), if_neg (by simp; omega)]
  congr 1
  · rw [show ((a.length : Int) + (uB 9 l.length).length).toNat = (a ++ uB 9 l.length).length from by simp; omega]
    rw [show a ++ (uB 9 l.length ++ l) ++ c = (a ++ uB 9 l.length) ++ (l ++ c) from by simp, List.drop_left, Int.toNat_natCast, List.take_left]
  · congr 1
    simp
    omega
end Go.Proofs.Ytbbgcbliihfpoaa.Oct
namespace Go.Proofs.Ytbbgcbliihfpoaa.Oct
open Go Go.RowKit Go.Proofs.YtbbgcbliihfpoaaW.PrintWords
set_option linter.unusedVariables false
theorem order_self (w : Nat) (h : ((FloatKind.f64.format.read w).isNaN) = false) : FloatKind.f64.format.order w w = some .eq := by
  unfold Ieee.Format.order
  generalize FloatKind.f64.format.read w = d at *
  cases d with
  | number s m e => simp [Ieee.Datum.order]
  | infinity s => simp [Ieee.Datum.order]
  | nan s f => simp [Ieee.Datum.isNaN] at h
theorem fmt_sw : FloatKind.f64.format.signWeight = 9223372036854775808 := by decide +kernel
theorem fmt_bin : FloatKind.f64.format.binade = 4503599627370496 := by decide +kernel
theorem fmt_inf : FloatKind.f64.format.infRung = 9218868437227405312 := by decide +kernel
theorem fmt_lp : FloatKind.f64.format.leastPlace = -1074 := by decide +kernel
theorem read_word (neg : Bool) (rung : Nat) (h : rung ≤ 9218868437227405312) : ((FloatKind.f64.format.read (FloatKind.f64.format.word neg rung)).isNaN) = false := by
  unfold Ieee.Format.read Ieee.Format.word
  rw [fmt_sw, fmt_bin, fmt_inf]
  have e : (if neg = true then 9223372036854775808 + rung else rung) % 9223372036854775808 = rung := by split <;> omega
  simp only [e]
  split
  · rfl
  · split
    · rfl
    · rw [if_pos (by omega)]; rfl
theorem float_self (n : Int) : FloatKind.f64.format.order (floatOfInt .f64 n) (floatOfInt .f64 n) = some .eq := by
  apply order_self
  unfold floatOfInt FloatKind.nearest FloatKind.encode Ieee.Format.write Ieee.Format.nearest
  simp only
  split
  · exact read_word _ _ (by omega)
  · refine read_word _ _ ?_
    rw [fmt_inf]
    exact Nat.min_le_right _ _
end Go.Proofs.Ytbbgcbliihfpoaa.Oct
namespace Go.Proofs.Ytbbgcbliihfpoaa.Oct
open Go Go.RowKit Go.Proofs.YtbbgcbliihfpoaaW.PrintWords Go.Proofs.YtbbgcbliihfpoaaW.PrintMore Go.Proofs.Ytbbgcbliihfpoaa.Q
set_option linter.unusedVariables false
abbrev T7 := Int × Int × ByteArray × Bool × Cx × Int × Int
def Z7 (e : Int) : T7 := (0, 0, (⟨#[]⟩ : ByteArray), false, (⟨0, 0⟩ : Cx), 0, e)
/-- a point's part -/
def SD (b : List Int) (p : Int) : Int × Int × Int :=
  if (TI b p).2.2 = 0 then if (TI b p).1 < -1048576 ∨ (TI b p).1 > 1048576 then (0, 0, 6) else TI b p else (0, 0, (TI b p).2.2)
/-- the value at a place -/
def VT (b : List Int) (p : Int) : T7 :=
  if p < 0 ∨ p > (b.length : Int) then Z7 2
  else if p = (b.length : Int) then Z7 3
  else if rd b p = 1 then (if (TI b (p + 1)).2.2 = 0 then (1, (TI b (p + 1)).1, (⟨#[]⟩ : ByteArray), false, (⟨0, 0⟩ : Cx), (TI b (p + 1)).2.1, 0) else Z7 (TI b (p + 1)).2.2)
  else if rd b p = 2 then (if (PT b (p + 1) 200).2.2 = 0 then (2, 0, strOfNums (PT b (p + 1) 200).1, false, (⟨0, 0⟩ : Cx), (PT b (p + 1) 200).2.1, 0) else Z7 (PT b (p + 1) 200).2.2)
  else if rd b p = 3 then (if p + 1 = (b.length : Int) then Z7 3 else if rd b (p + 1) > 1 then Z7 4 else (3, 0, (⟨#[]⟩ : ByteArray), rd b (p + 1) == 1, (⟨0, 0⟩ : Cx), p + 2, 0))
  else if rd b p = 4 then (if (SD b (p + 1)).2.2 = 0 then
      (if (SD b (SD b (p + 1)).2.1).2.2 = 0 then (4, 0, (⟨#[]⟩ : ByteArray), false, (⟨floatOfInt .f64 (SD b (p + 1)).1, floatOfInt .f64 (SD b (SD b (p + 1)).2.1).1⟩ : Cx), (SD b (SD b (p + 1)).2.1).2.1, 0) else Z7 (SD b (SD b (p + 1)).2.1).2.2)
    else Z7 (SD b (p + 1)).2.2)
  else Z7 12
theorem rd_range (b : List Int) (hb : Bs b) (p : Int) (h0 : 0 ≤ p) (h1 : p < b.length) : 0 ≤ rd b p ∧ rd b p ≤ 255 := by
  obtain ⟨n, rfl⟩ : ∃ n : Nat, p = n := ⟨_, (Int.toNat_of_nonneg h0).symm⟩
  have hn : n < b.length := by omega
  have : rd b (n : Int) = b[n] := by unfold rd; rw [Int.toNat_natCast]; simp [List.getD_eq_getElem?_getD, hn]
  rw [this]
  exact hb _ (List.getElem_mem hn)
theorem J4 (k : Nat) (n x y : Int) (e : Int) : value_Take.j4 (k + 1) n e x y = some (if e = 0 then (4, 0, (⟨#[]⟩ : ByteArray), false, (⟨floatOfInt .f64 x, floatOfInt .f64 y⟩ : Cx), n, 0) else Z7 e) := by
  rw [value_Take.j4]
  unfold value_point.f
  by_cases h : e = 0
  · rw [if_pos h, if_pos h]; rfl
  · rw [if_neg h, if_neg h]; rfl
theorem J2e (k : Nat) (b : List Int) (n e x : Int) (h : e ≠ 0) : value_Take.j2 (k + 1) b n e x = some (Z7 e) := by
  rw [value_Take.j2, if_neg h]
  unfold value_point.f
  rfl
theorem SD_bad {b : List Int} {p : Int} (h : (TI b p).2.2 = 0) (h1 : (TI b p).1 < -1048576 ∨ (TI b p).1 > 1048576) : SD b p = (0, 0, 6) := by unfold SD; rw [if_pos h, if_pos h1]
theorem SD_ok {b : List Int} {p : Int} (h : (TI b p).2.2 = 0) (h1 : ¬ ((TI b p).1 < -1048576 ∨ (TI b p).1 > 1048576)) : SD b p = TI b p := by unfold SD; rw [if_pos h, if_neg h1]
theorem SD_err {b : List Int} {p : Int} (h : (TI b p).2.2 ≠ 0) : SD b p = (0, 0, (TI b p).2.2) := by unfold SD; rw [if_neg h]
theorem J2 (k : Nat) (b : List Int) (hb : Bs b) (hl : b.length ≤ 140737488355327) (n x : Int) (hk : 40 ≤ k) :
    value_Take.j2 (k + 3) b n 0 x = some (if (SD b n).2.2 = 0 then (4, 0, (⟨#[]⟩ : ByteArray), false, (⟨floatOfInt .f64 x, floatOfInt .f64 (SD b n).1⟩ : Cx), (SD b n).2.1, 0) else Z7 (SD b n).2.2) := by
  rw [value_Take.j2, if_pos rfl, TakeInt_f b hb (by omega) n (k + 2) (by omega)]
  simp only [Option.bind_some]
  by_cases h : (TI b n).2.2 = 0
  · rw [if_pos h]
    by_cases h1 : (TI b n).1 > 1048576
    · rw [if_pos h1, SD_bad h (.inr h1), value_Take.j3, if_pos rfl, J4]; simp
    · rw [if_neg h1]
      by_cases h2 : (TI b n).1 < -1048576
      · rw [SD_bad h (.inl h2), value_Take.j3, if_pos (decide_eq_true h2), J4]; simp
      · rw [SD_ok h (by omega), value_Take.j3, if_neg (by rw [decide_eq_false h2]; decide), J4]
  · rw [if_neg h, SD_err h, value_Take.j3, if_neg (by decide), J4]; simp [h]
theorem value_Take_f (b : List Int) (hb : Bs b) (hl : b.length ≤ 140737488355327) (p : Int) (k : Nat) (hk : 60 ≤ k) : value_Take.f k b p = some (VT b p) := by
  obtain ⟨k, rfl⟩ : ∃ m, k = m + 6 := ⟨k - 6, by omega⟩
  unfold value_Take.f VT
  by_cases h0 : p < 0
  · rw [if_pos h0, if_pos (.inl h0), value_Take.j0, if_pos rfl]; rfl
  · rw [if_neg h0, value_Take.j0]
    by_cases h1 : p > (b.length : Int)
    · rw [if_pos (decide_eq_true h1), if_pos (.inr h1)]; rfl
    · rw [if_neg (by rw [decide_eq_false h1]; decide), if_neg (show ¬ (p < 0 ∨ p > (b.length : Int)) by omega)]
      by_cases h2 : p = (b.length : Int)
      · rw [if_pos h2, if_pos h2]; rfl
      · have hr := rd_range b hb p (by omega) (by omega)
        rw [if_neg h2, if_neg h2, if_pos (by omega), if_pos (by omega), w64_id (x := rd b p) (by omega) (by omega), w64_id (x := p + 1) (by omega) (by omega), TakeInt_f b hb (by omega) (p + 1) (k + 5) (by omega), TakeText_f b hb (by omega) (p + 1) (k + 5) (by omega)]
        simp only [Option.bind_some]
        by_cases k1 : rd b p = 1
        · rw [if_pos k1, if_pos k1, k1]
          by_cases e : (TI b (p + 1)).2.2 = 0
          · rw [if_pos e, if_pos e]
          · rw [if_neg e, if_neg e]; rfl
        · rw [if_neg k1, if_neg k1]
          by_cases k2 : rd b p = 2
          · rw [if_pos k2, if_pos k2, k2]
            by_cases e : (PT b (p + 1) 200).2.2 = 0
            · rw [if_pos e, if_pos e]
            · rw [if_neg e, if_neg e]; rfl
          · rw [if_neg k2, if_neg k2]
            by_cases k3 : rd b p = 3
            · rw [if_pos k3, if_pos k3, k3]
              by_cases e : p + 1 = (b.length : Int)
              · rw [if_pos e, if_pos e]; rfl
              · rw [if_neg e, if_neg e, if_pos (by omega), if_pos (by omega)]
                by_cases g : rd b (p + 1) > 1
                · rw [if_pos g, if_pos g]; rfl
                · rw [if_neg g, if_neg g, w64_id (x := p + 1 + 1) (by omega) (by omega), show p + 1 + 1 = p + 2 from by omega]
            · rw [if_neg k3, if_neg k3]
              by_cases k4 : rd b p = 4
              · rw [if_pos k4, if_pos k4]
                by_cases e : (TI b (p + 1)).2.2 = 0
                · rw [if_pos e]
                  by_cases g1 : (TI b (p + 1)).1 > 1048576
                  · rw [if_pos g1, SD_bad e (.inr g1), value_Take.j1, if_pos rfl, J2e _ _ _ _ _ (by decide)]; rfl
                  · rw [if_neg g1]
                    by_cases g2 : (TI b (p + 1)).1 < -1048576
                    · rw [SD_bad e (.inl g2), value_Take.j1, if_pos (decide_eq_true g2), J2e _ _ _ _ _ (by decide)]; rfl
                    · rw [SD_ok e (by omega), value_Take.j1, if_neg (by rw [decide_eq_false g2]; decide), e, J2 (k + 1) b hb hl _ _ (by omega), if_pos rfl]
                · rw [if_neg e, SD_err e, value_Take.j1, if_neg (by decide), J2e _ _ _ _ _ e, if_neg e]
              · rw [if_neg k4, if_neg k4]; rfl
theorem side_f (b : List Int) (hb : Bs b) (hl : b.length ≤ 140737488355327) (p : Int) (k : Nat) (hk : 30 ≤ k) : grapevineref03_side.f k b p = some (SD b p) := by
  unfold grapevineref03_side.f SD
  rw [refTakeInt_f b hb (by omega) p k hk]
  simp only [Option.bind_some]
  by_cases h : (TI b p).2.2 = 0
  · rw [if_pos h, if_pos h]
    by_cases h1 : (TI b p).1 < -1048576
    · rw [if_pos h1, if_pos (.inl h1)]
    · rw [if_neg h1]
      by_cases h2 : (TI b p).1 > 1048576
      · rw [if_pos h2, if_pos (.inr h2)]
      · rw [if_neg h2, if_neg (by omega), ← h]
  · rw [if_neg h, if_neg h]
theorem ref03_Take_f (b : List Int) (hb : Bs b) (hl : b.length ≤ 140737488355327) (p : Int) (k : Nat) (hk : 60 ≤ k) : grapevineref03_Take.f k b p = some (VT b p) := by
  obtain ⟨k, rfl⟩ : ∃ m, k = m + 6 := ⟨k - 6, by omega⟩
  unfold grapevineref03_Take.f VT
  by_cases h0 : p < 0
  · rw [if_pos h0, if_pos (.inl h0), grapevineref03_Take.j0, if_pos rfl]; rfl
  · rw [if_neg h0, grapevineref03_Take.j0]
    by_cases h1 : p > (b.length : Int)
    · rw [if_pos (decide_eq_true h1), if_pos (.inr h1)]; rfl
    · rw [if_neg (by rw [decide_eq_false h1]; decide), if_neg (show ¬ (p < 0 ∨ p > (b.length : Int)) by omega)]
      by_cases h2 : p = (b.length : Int)
      · rw [if_pos h2, if_pos h2]; rfl
      · have hr := rd_range b hb p (by omega) (by omega)
        rw [if_neg h2, if_neg h2, if_pos (by omega), if_pos (by omega), w64_id (x := rd b p) (by omega) (by omega), w64_id (x := p + 1) (by omega) (by omega), w64_id (x := p + 2) (by omega) (by omega), refTakeInt_f b hb (by omega) (p + 1) (k + 5) (by omega), refTakeText_f b hb (by omega) (p + 1) (k + 5) (by omega), side_f b hb hl (p + 1) (k + 5) (by omega)]
        simp only [Option.bind_some]
        rw [side_f b hb hl (SD b (p + 1)).2.1 (k + 5) (by omega)]
        simp only [Option.bind_some]
        by_cases k1 : rd b p = 1
        · rw [if_pos k1, if_pos k1, k1]
          by_cases e : (TI b (p + 1)).2.2 = 0
          · rw [if_pos e, if_pos e]
          · rw [if_neg e, if_neg e]; rfl
        · rw [if_neg k1, if_neg k1]
          by_cases k2 : rd b p = 2
          · rw [if_pos k2, if_pos k2, k2]
            by_cases e : (PT b (p + 1) 200).2.2 = 0
            · rw [if_pos e, if_pos e]
            · rw [if_neg e, if_neg e]; rfl
          · rw [if_neg k2, if_neg k2]
            by_cases k3 : rd b p = 3
            · rw [if_pos k3, if_pos k3, k3]
              by_cases e : p + 1 = (b.length : Int)
              · rw [if_pos (by omega), if_pos e]; rfl
              · rw [if_neg (by omega), if_neg e, if_pos (by omega), if_pos (by omega)]
                by_cases g : rd b (p + 1) > 1
                · rw [if_pos g, if_pos g]; rfl
                · rw [if_neg g, if_neg g]
            · rw [if_neg k3, if_neg k3]
              by_cases k4 : rd b p = 4
              · rw [if_pos k4, if_pos k4, k4]
                by_cases e : (SD b (p + 1)).2.2 = 0
                · rw [if_pos e, if_pos e]
                  by_cases e2 : (SD b (SD b (p + 1)).2.1).2.2 = 0
                  · rw [if_pos e2, if_pos e2]
                  · rw [if_neg e2, if_neg e2]; rfl
                · rw [if_neg e, if_neg e]; rfl
              · rw [if_neg k4, if_neg k4]; rfl
theorem VT_cx (b : List Int) (p : Int) : FloatKind.f64.format.order (VT b p).2.2.2.2.1.re (VT b p).2.2.2.2.1.re = some .eq ∧ FloatKind.f64.format.order (VT b p).2.2.2.2.1.im (VT b p).2.2.2.2.1.im = some .eq := by
  have z : FloatKind.f64.format.order 0 0 = some .eq := by decide +kernel
  unfold VT
  repeat' split
  all_goals first | exact ⟨z, z⟩ | exact ⟨float_self _, float_self _⟩
end Go.Proofs.Ytbbgcbliihfpoaa.Oct
namespace Go.Proofs.Ytbbgcbliihfpoaa.Pure
open Go Go.RowKit Go.Proofs.Ytbbgcbliihfpoaa.Q Go.Proofs.Ytbbgcbliihfpoaa.Oct Go.Proofs.YtbbgcbliihfpoaaW.PrintWords Go.Proofs.YtbbgcbliihfpoaaW.PrintMore
theorem part0 : value_part.f 0 = some (0, true) := by decide +kernel
theorem part3 : value_part.f 4613937818241073152 = some (3, true) := by decide +kernel
theorem part4 : value_part.f 4616189618054758400 = some (4, true) := by decide +kernel
theorem parts0 : value_parts.f ⟨0, 0⟩ = some (0, 0, true) := by unfold value_parts.f; simp only [part0, Option.bind_some, if_true]
theorem parts34 : value_parts.f ⟨4613937818241073152, 4616189618054758400⟩ = some (3, 4, true) := by unfold value_parts.f; simp only [part3, part4, Option.bind_some, if_true]
theorem live_int : uB 9 (fold (-1)) = [1] := by decide +kernel
theorem live03 (k : Nat) (hk : 50 ≤ k) : grapevinelaw03_live.f k = some true := by
  obtain ⟨k, rfl⟩ : ∃ m, k = m + 1 := ⟨k - 1, by omega⟩
  unfold grapevinelaw03_live.f value_Put.f value_Apart.f value_both.f value_Check.f
  simp only [value_Check.j0, Int_f (-1) (k + 1) (by omega) (by omega) (by omega), parts0, parts34, Option.bind_some, live_int]
  simp
  decide +kernel
theorem same03 (x : T7) (h : FloatKind.f64.format.order x.2.2.2.2.1.re x.2.2.2.2.1.re = some .eq ∧ FloatKind.f64.format.order x.2.2.2.2.1.im x.2.2.2.2.1.im = some .eq) :
    grapevinelaw03_same.f x.1 x.2.1 x.2.2.1 x.2.2.2.1 x.2.2.2.2.1 x.1 x.2.1 x.2.2.1 x.2.2.2.1 x.2.2.2.2.1 = some true := by
  unfold grapevinelaw03_same.f
  rw [h.1, h.2]
  simp
theorem ValueTakes : grapevinelaw03_ValueTakes.Pure := by
  intro b p hm hs hbb hp
  obtain ⟨k, hk⟩ : ∃ k : Nat, 100 ≤ k := ⟨_, Nat.le_refl _⟩
  refine ⟨k, ?_⟩
  have hB := Bs.of_wf hbb
  unfold grapevinelaw03_ValueTakes.f
  rw [value_Take_f b hB (by omega) p k (by omega), ref03_Take_f b hB (by omega) p k (by omega), live03 k (by omega)]
  simp only [Option.bind_some, if_true]
  rw [same03 _ (VT_cx b p)]
  simp
end Go.Proofs.Ytbbgcbliihfpoaa.Pure
