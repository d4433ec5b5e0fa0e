/- What is cut short is told: for every number, text and parts, and every place of a cut. -/
import Derived.Laws.BitsAllLaws
import Derived.RowKit
import Derived.Test.YtchanabiobcbhaaWMore
import Derived.Test.YtchanabiobcbhaaQx1
import Derived.Test.YtchanabiobcbhaaQx2
import Derived.Test.YtchanabiobcbhaaQx12
import Derived.Test.YtchanabiobcbhaaQx13
import Derived.Test.YtchanabiobcbhaaQx17
import Derived.Test.YtchanabiobcbhaaQx16
import Derived.Test.YtchanabiobcbhaaQx21
import Derived.Test.YtchanabiobcbhaaQx19
import Derived.Test.YtchanabiobcbhaaQx4
import Derived.Test.YtchanabiobcbhaaQx6
import Derived.Test.YtchanabiobcbhaaQx8
import Derived.Test.YtchanabiobcbhaaQx7
import Derived.Test.YtchanabiobcbhaaQx24
import Derived.Test.YtchanabiobcbhaaQx26
import Derived.Test.YtchanabiobcbhaaQx27
import Derived.Test.YtchanabiobcbhaaQx25
import Derived.Test.YtchanabiobcbhaaQx28
import Derived.Test.YtchanabiobcbhaaQx29
import Derived.Test.YtchanabiobcbhaaQx32
import Derived.Test.YtchanabiobcbhaaQx34
import Derived.Test.YtchanabiobcbhaaQx33
import Derived.Test.YtchanabiobcbhaaQx35
import Derived.Test.YtchanabiobcbhaaQx36
import Derived.Test.YtchanabiobcbhaaQx39
namespace Go.Proofs.Ytchanabiobcbhaa.Oct
open Go Go.RowKit Go.Proofs.YtchanabiobcbhaaW.PrintWords Go.Proofs.YtchanabiobcbhaaW.PrintMore
set_option linter.unusedVariables false

theorem u64w (x : Int) : IntKind.u64.wrap x = x % 18446744073709551616 := IntKind.wrap_u64 x
theorem u64w_id {x : Int} (h0 : 0 ≤ x) (h1 : x < 18446744073709551616) : IntKind.u64.wrap x = x := by rw [u64w]; omega
theorem w64_id {x : Int} (h0 : -9223372036854775808 ≤ x) (h1 : x < 9223372036854775808) : wrap64 x = x := by unfold wrap64; omega

/-- bytes: all from 0 to 255 -/
def Bs (l : List Int) : Prop := ∀ x ∈ l, 0 ≤ x ∧ x ≤ 255
theorem Bs.of_wf {l : List Int} (h : ∀ x ∈ l, (Lit.int .u8 x).wf = true) : Bs l := by
  intro x hx
  have := h x hx
  simp [Lit.wf, IntKind.min, IntKind.max, IntKind.signed, IntKind.bits] at this
  omega
theorem Bs.nil : Bs [] := by intro x hx; simp at hx
theorem Bs.cons {x : Int} {l : List Int} (h : 0 ≤ x ∧ x ≤ 255) (hl : Bs l) : Bs (x :: l) := by
  intro y hy
  rcases List.mem_cons.mp hy with rfl | hy
  · exact h
  · exact hl y hy
theorem Bs.append {a b : List Int} (ha : Bs a) (hb : Bs b) : Bs (a ++ b) := by
  intro x hx
  rcases List.mem_append.mp hx with h | h
  · exact ha x h
  · exact hb x h
theorem Bs.drop {l : List Int} (h : Bs l) (n : Nat) : Bs (l.drop n) := fun x hx => h x (List.mem_of_mem_drop hx)
theorem Bs.take {l : List Int} (h : Bs l) (n : Nat) : Bs (l.take n) := fun x hx => h x (List.mem_of_mem_take hx)

/-! ### a number's bytes -/
def uB : Nat → Int → List Int
  | 0, n => [n]
  | f + 1, n => if n ≥ 128 then (n % 128 + 128) :: uB f (n / 128) else [n]

theorem or128 (x : Int) (h0 : 0 ≤ x) (h1 : x < 256) : Go.bits .or .u8 x 128 = x % 128 + 128 := by
  rw [u8_or x 128 h0 h1 (by decide) (by decide)]
  have key : ∀ n : Fin 256, (n.val ||| 128) = n.val % 128 + 128 := by decide +kernel
  have := key ⟨x.toNat, by omega⟩
  simp only at this
  rw [show (128 : Int).toNat = 128 from rfl, this]
  omega
theorem and127 (x : Int) (h0 : 0 ≤ x) (h1 : x < 256) : Go.bits .and .u8 x 127 = x % 128 := by
  rw [u8_and x 127 h0 h1 (by decide) (by decide)]
  rw [show (127 : Int).toNat = 127 from rfl, nat_mask7]
  omega

theorem uB_len (f : Nat) (n : Int) : 1 ≤ (uB f n).length ∧ (uB f n).length ≤ f + 1 := by
  induction f generalizing n with
  | zero => simp [uB]
  | succ f ih =>
    unfold uB
    split
    · have := ih (n / 128)
      simp only [List.length_cons]
      omega
    · simp
theorem uB_small (f : Nat) (n : Int) (h : n < 128) : uB f n = [n] := by
  cases f with
  | zero => rfl
  | succ f => unfold uB; rw [if_neg (by omega)]
theorem uB_bytes (f : Nat) (n : Int) (h0 : 0 ≤ n) (h1 : n < 128 ^ (f + 1)) : Bs (uB f n) := by
  induction f generalizing n with
  | zero => exact Bs.cons ⟨h0, by simp at h1; omega⟩ Bs.nil
  | succ f ih =>
    unfold uB
    split
    · refine Bs.cons ⟨by omega, by omega⟩ (ih _ (by omega) ?_)
      rw [Int.pow_succ] at h1
      exact Int.ediv_lt_of_lt_mul (by decide) h1
    · exact Bs.cons ⟨h0, by omega⟩ Bs.nil

theorem uB_mono (f : Nat) : ∀ a b : Int, 0 ≤ a → a ≤ b → b < 128 ^ (f + 1) → (uB f a).length ≤ (uB f b).length := by
  induction f with
  | zero => intro a b _ _ _; simp [uB]
  | succ f ih =>
    intro a b ha hab hb
    unfold uB
    by_cases h1 : a ≥ 128
    · rw [if_pos h1, if_pos (by omega)]
      simp only [List.length_cons]
      have hb' : b / 128 < 128 ^ (f + 1) := by
        rw [Int.pow_succ] at hb
        exact Int.ediv_lt_of_lt_mul (by decide) hb
      have := ih (a / 128) (b / 128) (by omega) (by omega) hb'
      omega
    · rw [if_neg h1]
      have := (uB_len (f + 1) b).1
      unfold uB at this
      exact this

/-- what stands for a number: the value, how many bytes, the error -/
def tk : List Int → Nat → Int → Int × Int × Int
  | [], _, _ => (0, 0, 3)
  | x :: xs, i, n =>
    if i = 9 ∧ x > 1 then (0, 0, 6)
    else if x ≥ 128 then tk xs (i + 1) (n + x % 128 * 2 ^ (7 * i))
    else if x = 0 ∧ i > 0 then (0, 0, 4)
    else (n + x % 128 * 2 ^ (7 * i), (i : Int) + 1, 0)
def fin (at' : Int) (r : Int × Int × Int) : Int × Int × Int := (r.1, if r.2.2 = 0 then at' + r.2.1 else 0, r.2.2)
/-- the number at a place, and the place behind it, or the error -/
def TU (b : List Int) (at' : Int) : Int × Int × Int :=
  if at' < 0 ∨ at' > (b.length : Int) then (0, 0, 2) else fin at' (tk (b.drop at'.toNat) 0 0)

theorem pow2_le {a b : Nat} (h : a ≤ b) : (2 : Int) ^ a ≤ 2 ^ b := by
  have : ((2 ^ a : Nat) : Int) ≤ ((2 ^ b : Nat) : Int) := Int.ofNat_le.mpr (Nat.pow_le_pow_right (by decide) h)
  rw [Int.natCast_pow, Int.natCast_pow] at this
  exact this
theorem pow7 (i : Nat) : (2 : Int) ^ (7 * (i + 1)) = 2 ^ (7 * i) * 128 := by
  rw [Nat.mul_add, Int.pow_add]; rfl
theorem pow7pos (i : Nat) : (0 : Int) < 2 ^ (7 * i) := Int.pow_pos (by decide)
theorem pow_le9 {i : Nat} (h : i ≤ 9) : (2 : Int) ^ (7 * i) ≤ 9223372036854775808 := by
  have : (2 : Int) ^ (7 * i) ≤ 2 ^ (7 * 9) := pow2_le (by omega)
  exact this

/-- the digit's share, beside what was there -/
theorem or_shl (n x : Int) (i : Nat) (hi : i ≤ 9) (hn0 : 0 ≤ n) (hn : n < 2 ^ (7 * i)) (hx0 : 0 ≤ x) (hx : x ≤ 255) (h9 : i = 9 → x ≤ 1) :
    Go.bits .or .u64 n (shl .u64 (IntKind.u64.wrap (Go.bits .and .u8 x 127)) (wrap64 (7 * (i : Int)))) = n + x % 128 * 2 ^ (7 * i) ∧
      n + x % 128 * 2 ^ (7 * i) < 18446744073709551616 ∧ (i < 9 → n + x % 128 * 2 ^ (7 * i) < 2 ^ (7 * (i + 1))) := by
  have hp := pow7pos i
  have hp9 := pow_le9 hi
  have hm : x % 128 * 2 ^ (7 * i) + n < 18446744073709551616 := by
    by_cases h : i = 9
    · subst h
      have : x % 128 ≤ 1 := by have := h9 rfl; omega
      have e : (2 : Int) ^ (7 * 9) = 9223372036854775808 := by decide +kernel
      rw [e] at hn ⊢
      omega
    · have h8 : (2 : Int) ^ (7 * i) ≤ 2 ^ (7 * 8) := pow2_le (by omega)
      have e : (2 : Int) ^ (7 * 8) = 72057594037927936 := by decide +kernel
      rw [e] at h8
      have : x % 128 * 2 ^ (7 * i) ≤ 127 * 2 ^ (7 * i) := Int.mul_le_mul_of_nonneg_right (by omega) (by omega)
      omega
  have hlt : i < 9 → n + x % 128 * 2 ^ (7 * i) < 2 ^ (7 * (i + 1)) := by
    intro _
    rw [pow7]
    have : x % 128 * 2 ^ (7 * i) ≤ 127 * 2 ^ (7 * i) := Int.mul_le_mul_of_nonneg_right (by omega) (by omega)
    omega
  refine ⟨?_, by omega, hlt⟩
  rw [and127 x hx0 (by omega), u64w_id (by omega) (by omega), w64_id (by omega) (by omega)]
  have hs : min (7 * (i : Int)).toNat (IntKind.u64).bits = 7 * i := by
    have : (7 * (i : Int)).toNat = 7 * i := by omega
    rw [this]
    show min (7 * i) 64 = 7 * i
    omega
  unfold shl
  rw [hs]
  have hnn : 0 ≤ x % 128 * 2 ^ (7 * i) := Int.mul_nonneg (by omega) (by omega)
  rw [u64w_id hnn (by omega)]
  rw [u64_or n _ hn0 (by omega) hnn (by omega)]
  have e1 : (x % 128 * 2 ^ (7 * i)).toNat = 2 ^ (7 * i) * (x % 128).toNat := by
    have : x % 128 * 2 ^ (7 * i) = ((2 ^ (7 * i) * (x % 128).toNat : Nat) : Int) := by
      rw [Int.natCast_mul, Int.natCast_pow, Int.toNat_of_nonneg (by omega), Int.mul_comm]; rfl
    rw [this]; rfl
  have hnlt : n.toNat < 2 ^ (7 * i) := by
    have : (n.toNat : Int) < ((2 ^ (7 * i) : Nat) : Int) := by
      rw [Int.toNat_of_nonneg hn0, Int.natCast_pow]; exact hn
    omega
  rw [e1, Nat.or_comm, ← Nat.two_pow_add_eq_or_of_lt hnlt, Int.natCast_add, Int.natCast_mul, Int.natCast_pow, Int.toNat_of_nonneg (by omega), Int.toNat_of_nonneg hn0]
  have : ((2 : Nat) : Int) ^ (7 * i) = 2 ^ (7 * i) := rfl
  rw [this, Int.mul_comm]; omega

/-- what is told of a number's bytes, whatever stands behind -/
theorem tk_uB : ∀ (f i : Nat) (n acc : Int) (rest : List Int), i + f = 9 → 0 ≤ n → n < 2 ^ (64 - 7 * i) → (i = 0 ∨ n > 0) →
    tk (uB f n ++ rest) i acc = (acc + n * 2 ^ (7 * i), (i : Int) + (uB f n).length, 0) := by
  intro f
  induction f with
  | zero =>
    intro i n acc rest hi h0 h1 hz
    obtain rfl : i = 9 := by omega
    have hn : n < 2 := h1
    simp only [uB, List.singleton_append, tk]
    rw [if_neg (by omega), if_neg (by omega), if_neg (by omega)]
    rw [Int.emod_eq_of_lt h0 (by omega)]
    simp
  | succ f ih =>
    intro i n acc rest hi h0 h1 hz
    unfold uB
    by_cases h : n ≥ 128
    · rw [if_pos h]
      simp only [List.cons_append, tk]
      rw [if_neg (by omega), if_pos (by omega)]
      have e64 : 64 - 7 * i = 7 + (64 - 7 * (i + 1)) := by omega
      have hd : n / 128 < 2 ^ (64 - 7 * (i + 1)) := by
        rw [e64, Int.pow_add] at h1
        exact Int.ediv_lt_of_lt_mul (by decide) (by rw [Int.mul_comm]; exact h1)
      rw [ih (i + 1) (n / 128) _ rest (by omega) (by omega) hd (by omega)]
      have e1 : (n % 128 + 128) % 128 = n % 128 := by omega
      rw [e1, pow7]
      have e2 : n = n % 128 + 128 * (n / 128) := by omega
      have e3 : acc + n % 128 * 2 ^ (7 * i) + n / 128 * (2 ^ (7 * i) * 128) = acc + n * 2 ^ (7 * i) := by
        have : n * 2 ^ (7 * i) = n % 128 * 2 ^ (7 * i) + n / 128 * (2 ^ (7 * i) * 128) := by
          conv => lhs; rw [e2]
          rw [Int.add_mul, Int.mul_comm (2 ^ (7 * i)) 128, ← Int.mul_assoc, Int.mul_comm 128 (n / 128)]
        omega
      rw [e3]
      simp only [List.length_cons]
      congr 2
      omega
    · rw [if_neg h]
      simp only [List.singleton_append, tk]
      rw [if_neg (by omega), if_neg (by omega), if_neg (by omega), Int.emod_eq_of_lt h0 (by omega)]
      simp

/-- what is taken for a number are just its bytes -/
theorem tk_once : ∀ (l : List Int) (i : Nat) (acc v c : Int), Bs l → i ≤ 9 → tk l i acc = (v, c, 0) →
    ∃ (m : Int) (rest : List Int), l = uB (9 - i) m ++ rest ∧ v = acc + m * 2 ^ (7 * i) ∧ c = (i : Int) + (uB (9 - i) m).length ∧ 0 ≤ m ∧ m < 2 ^ (64 - 7 * i) ∧ (i > 0 → m > 0) := by
  intro l
  induction l with
  | nil => intro i acc v c _ _ h; simp [tk] at h
  | cons x xs ih =>
    intro i acc v c hb hi h
    have hx := hb x (by simp)
    unfold tk at h
    by_cases h1 : i = 9 ∧ x > 1
    · rw [if_pos h1] at h; simp at h
    · rw [if_neg h1] at h
      by_cases h2 : x ≥ 128
      · rw [if_pos h2] at h
        have hi' : i + 1 ≤ 9 := by omega
        obtain ⟨m, rest, hl, hv, hc, hm0, hm1, hmp⟩ := ih (i + 1) _ v c (fun y hy => hb y (by simp [hy])) hi' h
        have hmp := hmp (by omega)
        refine ⟨128 * m + x % 128, rest, ?_, ?_, ?_, by omega, ?_, by omega⟩
        · obtain ⟨f, hf⟩ : ∃ f, 9 - i = f + 1 := ⟨8 - i, by omega⟩
          rw [hf]
          unfold uB
          rw [if_pos (by omega)]
          have e1 : (128 * m + x % 128) % 128 + 128 = x := by omega
          have e2 : (128 * m + x % 128) / 128 = m := by omega
          rw [e1, e2, List.cons_append, hl, show f = 9 - (i + 1) from by omega]
        · rw [hv, pow7, Int.add_mul, Int.mul_comm (2 ^ (7 * i)) 128, ← Int.mul_assoc, Int.mul_comm m 128]
          omega
        · rw [hc]
          obtain ⟨f, hf⟩ : ∃ f, 9 - i = f + 1 := ⟨8 - i, by omega⟩
          rw [hf]
          conv => rhs; unfold uB
          rw [if_pos (by omega)]
          have e2 : (128 * m + x % 128) / 128 = m := by omega
          rw [e2, List.length_cons, show 9 - (i + 1) = f from by omega]
          omega
        · have e64 : 64 - 7 * i = 7 + (64 - 7 * (i + 1)) := by omega
          rw [e64, Int.pow_add]
          have : (2 : Int) ^ 7 = 128 := by decide
          rw [this]
          omega
      · rw [if_neg h2] at h
        by_cases h3 : x = 0 ∧ i > 0
        · rw [if_pos h3] at h; simp at h
        · rw [if_neg h3] at h
          simp only [Prod.mk.injEq] at h
          obtain ⟨hv, hc, _⟩ := h
          refine ⟨x, xs, ?_, ?_, ?_, by omega, ?_, by omega⟩
          · rw [uB_small _ _ (by omega)]; rfl
          · rw [← hv, Int.emod_eq_of_lt (by omega) (by omega)]
          · rw [uB_small _ _ (by omega), ← hc]; rfl
          · by_cases h9 : i = 9
            · subst h9
              show x < 2
              omega
            · have : (2 : Int) ^ 8 ≤ 2 ^ (64 - 7 * i) := pow2_le (by omega)
              have e : (2 : Int) ^ 8 = 256 := by decide
              omega

/-- cut short -/
theorem tk_cut : ∀ (f i : Nat) (n acc : Int) (m : Nat), i + f = 9 → 0 ≤ n → n < 2 ^ (64 - 7 * i) → m < (uB f n).length → tk ((uB f n).take m) i acc = (0, 0, 3) := by
  intro f
  induction f with
  | zero =>
    intro i n acc m hi h0 h1 hm
    simp [uB] at hm
    subst hm
    simp [tk]
  | succ f ih =>
    intro i n acc m hi h0 h1 hm
    cases m with
    | zero => simp [tk]
    | succ m =>
      unfold uB at hm ⊢
      by_cases h : n ≥ 128
      · rw [if_pos h] at hm ⊢
        simp only [List.take_succ_cons, tk]
        rw [if_neg (by omega), if_pos (by omega)]
        have e64 : 64 - 7 * i = 7 + (64 - 7 * (i + 1)) := by omega
        refine ih (i + 1) (n / 128) _ m (by omega) (by omega) ?_ (by simpa using hm)
        rw [e64, Int.pow_add] at h1
        exact Int.ediv_lt_of_lt_mul (by decide) (by rw [Int.mul_comm]; exact h1)
      · rw [if_neg h] at hm
        simp at hm
theorem tk_range : ∀ (l : List Int) (i : Nat) (acc : Int), Bs l → i ≤ 9 → 0 ≤ acc → acc < 2 ^ (7 * i) →
    0 ≤ (tk l i acc).1 ∧ (tk l i acc).1 < 18446744073709551616 ∧ 0 ≤ (tk l i acc).2.1 ∧ (tk l i acc).2.1 ≤ (i : Int) + l.length ∧ ((tk l i acc).2.2 ≠ 0 → (tk l i acc).1 = 0 ∧ (tk l i acc).2.1 = 0) ∧ ((tk l i acc).2.2 = 0 → (i : Int) < (tk l i acc).2.1) := by
  intro l
  induction l with
  | nil => intro i acc _ _ _ _; simp [tk] <;> omega
  | cons x xs ih =>
    intro i acc hb hi h0 h1
    have hx := hb x (by simp)
    unfold tk
    by_cases c1 : i = 9 ∧ x > 1
    · rw [if_pos c1]; simp; omega
    · rw [if_neg c1]
      obtain ⟨_, r1, r2⟩ := or_shl acc x i hi h0 h1 hx.1 hx.2 (by omega)
      have hnn : 0 ≤ x % 128 * 2 ^ (7 * i) := Int.mul_nonneg (by omega) (by have := pow7pos i; omega)
      by_cases c2 : x ≥ 128
      · rw [if_pos c2]
        have := ih (i + 1) (acc + x % 128 * 2 ^ (7 * i)) (fun y hy => hb y (by simp [hy])) (by omega) (by omega) (r2 (by omega))
        simp only [List.length_cons]
        refine ⟨this.1, this.2.1, this.2.2.1, by have := this.2.2.2.1; omega, this.2.2.2.2.1, fun h => by have := this.2.2.2.2.2 h; omega⟩
      · rw [if_neg c2]
        by_cases c3 : x = 0 ∧ i > 0
        · rw [if_pos c3]; simp; omega
        · rw [if_neg c3]
          simp only [List.length_cons]
          refine ⟨by omega, r1, by omega, by omega, by simp, by omega⟩
theorem pow64 : (2 : Int) ^ (64 - 7 * 0) = 18446744073709551616 := by decide +kernel
theorem pow128 : (128 : Int) ^ (9 + 1) = 1180591620717411303424 := by decide +kernel

/-! ### numbers that may be below 0 -/
def fold (n : Int) : Int := if n ≥ 0 then 2 * n else -2 * n - 1
def unfold' (u : Int) : Int := if u % 2 = 0 then u / 2 else -(u / 2) - 1
theorem fold_range {n : Int} (h0 : -9223372036854775808 ≤ n) (h1 : n ≤ 9223372036854775807) : 0 ≤ fold n ∧ fold n < 18446744073709551616 := by
  unfold fold; split <;> omega
theorem unfold_fold (n : Int) : unfold' (fold n) = n := by
  unfold unfold' fold
  split
  · rw [if_pos (by omega)]; omega
  · rw [if_neg (by omega)]; omega
theorem fold_unfold (u : Int) (h : 0 ≤ u) : fold (unfold' u) = u := by
  unfold unfold' fold
  split
  · rw [if_pos (by omega)]; omega
  · rw [if_neg (by omega)]; omega
theorem unfold_range {u : Int} (h0 : 0 ≤ u) (h1 : u < 18446744073709551616) : -9223372036854775808 ≤ unfold' u ∧ unfold' u ≤ 9223372036854775807 := by
  unfold unfold'; split <;> omega
theorem xor_all64 (a : Nat) (h : a < 18446744073709551616) : a ^^^ 18446744073709551615 = 18446744073709551615 - a := by
  have h1 : (BitVec.ofNat 64 a ^^^ BitVec.allOnes 64).toNat = a ^^^ 18446744073709551615 := by
    rw [BitVec.toNat_xor, BitVec.toNat_allOnes, BitVec.toNat_ofNat, Nat.mod_eq_of_lt h]
  have h2 : (BitVec.ofNat 64 a ^^^ BitVec.allOnes 64).toNat = 18446744073709551615 - a := by
    rw [BitVec.xor_allOnes, BitVec.toNat_not, BitVec.toNat_ofNat, Nat.mod_eq_of_lt h]
  omega
theorem xor_fold (n : Int) (h0 : -9223372036854775808 ≤ n) (h1 : n ≤ 9223372036854775807) :
    Go.bits .xor .u64 (IntKind.u64.wrap ((IntKind.u64.wrap n) * 2)) (IntKind.u64.wrap (n / 9223372036854775808)) = fold n := by
  rw [u64w, u64w, u64w]
  have hr : 0 ≤ (n % 18446744073709551616 * 2) % 18446744073709551616 ∧ (n % 18446744073709551616 * 2) % 18446744073709551616 < 18446744073709551616 := by omega
  by_cases h : n ≥ 0
  · have e : n / 9223372036854775808 = 0 := by omega
    rw [e]
    have e2 : (n % 18446744073709551616 * 2) % 18446744073709551616 = 2 * n := by omega
    rw [e2]
    obtain ⟨m, hm⟩ : ∃ m : Nat, 2 * n = m := ⟨(2 * n).toNat, by omega⟩
    rw [hm]
    have := bits_xor_u64_nat m 0 (by omega) (by omega)
    simp only [Int.ofNat_zero, Nat.xor_zero] at this
    rw [show ((0 : Int) % 18446744073709551616) = ((0 : Nat) : Int) from rfl]
    have := bits_xor_u64_nat m 0 (by omega) (by omega)
    rw [this, Nat.xor_zero]
    unfold fold; rw [if_pos h, hm]
  · have e : n / 9223372036854775808 = -1 := by omega
    rw [e]
    obtain ⟨m, hm⟩ : ∃ m : Nat, (n % 18446744073709551616 * 2) % 18446744073709551616 = m := ⟨_, (Int.toNat_of_nonneg hr.1).symm⟩
    rw [hm]
    rw [show ((-1 : Int) % 18446744073709551616) = ((18446744073709551615 : Nat) : Int) from rfl]
    rw [bits_xor_u64_nat m 18446744073709551615 (by omega) (by omega), xor_all64 m (by omega)]
    unfold fold; rw [if_neg h]
    omega
theorem xor_unfold (u : Int) (h0 : 0 ≤ u) (h1 : u < 18446744073709551616) :
    Go.bits .xor .i64 (wrap64 (u / 2)) (wrap64 (-(wrap64 (Go.bits .and .u64 u 1)))) = unfold' u := by
  rw [u64_and u 1 h0 h1 (by decide) (by decide), show (1 : Int).toNat = 1 from rfl, nat_mask1]
  rw [w64_id (x := u / 2) (by omega) (by omega)]
  have e0 : ((u.toNat % 2 : Nat) : Int) = u % 2 := by omega
  rw [e0, w64_id (x := u % 2) (by omega) (by omega), w64_id (x := -(u % 2)) (by omega) (by omega)]
  obtain ⟨m, hm⟩ : ∃ m : Nat, u / 2 = m := ⟨_, (Int.toNat_of_nonneg (by omega)).symm⟩
  unfold unfold'
  rw [hm]
  show IntKind.i64.wrap ((BitVec.ofInt 64 (m : Int) ^^^ BitVec.ofInt 64 (-(u % 2))).toNat : Int) = _
  by_cases h : u % 2 = 0
  · rw [if_pos h, h]
    have : BitVec.ofInt 64 (-0) = 0#64 := by decide
    rw [this, BitVec.xor_zero, ofInt_u64 m (by omega), IntKind.wrap_i64]
    omega
  · rw [if_neg h, show u % 2 = 1 from by omega]
    have : BitVec.ofInt 64 (-1) = BitVec.allOnes 64 := by decide
    rw [this, BitVec.xor_allOnes, BitVec.toNat_not, ofInt_u64 m (by omega), IntKind.wrap_i64]
    omega
end Go.Proofs.Ytchanabiobcbhaa.Oct
namespace Go.Proofs.Ytchanabiobcbhaa.Oct
open Go Go.RowKit Go.Proofs.YtchanabiobcbhaaW.PrintWords Go.Proofs.YtchanabiobcbhaaW.PrintMore Go.Proofs.Ytchanabiobcbhaa.Q
set_option linter.unusedVariables false

theorem Uint_l0 : ∀ (f : Nat) (n : Int) (acc : List Int) (k : Nat), 0 ≤ n → n < 128 ^ (f + 1) → acc.length + f < 140737488355328 → f < k →
    octet_Uint.l0 k n acc = some (acc ++ uB f n) := by
  intro f
  induction f with
  | zero =>
    intro n acc k h0 h1 ha hk
    obtain ⟨k, rfl⟩ : ∃ m, k = m + 1 := ⟨k - 1, by omega⟩
    simp only [octet_Uint.l0]
    have : n < 128 := by simpa using h1
    rw [if_neg (by omega), if_pos (by omega)]
    simp only [uB]
    rw [Int.emod_eq_of_lt h0 (by omega)]
  | succ f ih =>
    intro n acc k h0 h1 ha hk
    obtain ⟨k, rfl⟩ : ∃ m, k = m + 1 := ⟨k - 1, by omega⟩
    simp only [octet_Uint.l0]
    by_cases h : n ≥ 128
    · rw [if_pos h, if_pos (by omega)]
      have hd : n / 128 < 128 ^ (f + 1) := by
        rw [Int.pow_succ] at h1
        exact Int.ediv_lt_of_lt_mul (by decide) h1
      have e : Go.bits .or .u8 (n % 256) 128 = n % 128 + 128 := by rw [or128 _ (by omega) (by omega)]; omega
      rw [e, ih (n / 128) _ k (by omega) hd (by simp; omega) (by omega)]
      conv => rhs; unfold uB
      rw [if_pos h]
      simp
    · rw [if_neg h, if_pos (by omega)]
      unfold uB
      rw [if_neg h, Int.emod_eq_of_lt h0 (by omega)]
/-- octet.Uint -/
theorem Uint_f (n : Int) (k : Nat) (h0 : 0 ≤ n) (h1 : n < 18446744073709551616) (hk : 20 ≤ k) : octet_Uint.f k n = some (uB 9 n) := by
  unfold octet_Uint.f
  rw [Uint_l0 9 n [] k h0 (by rw [pow128]; omega) (by simp) (by omega)]
  rfl

theorem refUint_l0 : ∀ (f : Nat) (n : Int) (acc : List Int) (k : Nat), 0 ≤ n → n < 128 ^ (f + 1) → n < 18446744073709551616 → acc.length + f < 140737488355328 → f < k →
    grapevineref02_Uint.l0 k n acc = some (acc ++ uB f n) := by
  intro f
  induction f with
  | zero =>
    intro n acc k h0 h1 _ ha hk
    obtain ⟨k, rfl⟩ : ∃ m, k = m + 1 := ⟨k - 1, by omega⟩
    simp only [grapevineref02_Uint.l0]
    have : n < 128 := by simpa using h1
    rw [if_neg (by omega), if_pos (by omega)]
    simp only [uB]
    rw [Int.emod_eq_of_lt h0 (by omega)]
  | succ f ih =>
    intro n acc k h0 h1 hn ha hk
    obtain ⟨k, rfl⟩ : ∃ m, k = m + 1 := ⟨k - 1, by omega⟩
    simp only [grapevineref02_Uint.l0]
    by_cases h : n ≥ 128
    · rw [if_pos (by omega), if_pos (by omega)]
      have hd : n / 128 < 128 ^ (f + 1) := by
        rw [Int.pow_succ] at h1
        exact Int.ediv_lt_of_lt_mul (by decide) h1
      have e1 : Int.tdiv n 128 = n / 128 := Int.tdiv_eq_ediv_of_nonneg h0
      have e2 : Int.tmod n 128 = n % 128 := Int.tmod_eq_emod_of_nonneg h0
      rw [e1, e2, u64w_id (x := n / 128) (by omega) (by omega), u64w_id (x := 128 + n % 128) (by omega) (by omega)]
      have e : (128 + n % 128) % 256 = n % 128 + 128 := by omega
      rw [e, ih (n / 128) _ k (by omega) hd (by omega) (by simp; omega) (by omega)]
      conv => rhs; unfold uB
      rw [if_pos h]
      simp
    · rw [if_neg (by omega), if_pos (by omega)]
      unfold uB
      rw [if_neg h, Int.emod_eq_of_lt h0 (by omega)]
/-- the reference's Uint -/
theorem refUint_f (n : Int) (k : Nat) (h0 : 0 ≤ n) (h1 : n < 18446744073709551616) (hk : 20 ≤ k) : grapevineref02_Uint.f k n = some (uB 9 n) := by
  unfold grapevineref02_Uint.f
  rw [refUint_l0 9 n [] k h0 (by rw [pow128]; omega) h1 (by simp) (by omega)]
  rfl
theorem wf_u64 {n : Int} (h : (Lit.int .u64 n).wf = true) : 0 ≤ n ∧ n < 18446744073709551616 := by
  simp [Lit.wf, IntKind.min, IntKind.max, IntKind.signed, IntKind.bits] at h
  omega
theorem wf_i64 {n : Int} (h : (Lit.int .i64 n).wf = true) : -9223372036854775808 ≤ n ∧ n ≤ 9223372036854775807 := by
  simp [Lit.wf, IntKind.min, IntKind.max, IntKind.signed, IntKind.bits] at h
  omega
end Go.Proofs.Ytchanabiobcbhaa.Oct
namespace Go.Proofs.Ytchanabiobcbhaa.Oct
open Go Go.RowKit Go.Proofs.YtchanabiobcbhaaW.PrintWords Go.Proofs.YtchanabiobcbhaaW.PrintMore Go.Proofs.Ytchanabiobcbhaa.Q
set_option linter.unusedVariables false

theorem rd_drop {b : List Int} {p : Nat} {x : Int} {xs : List Int} (h : b.drop p = x :: xs) {j : Int} (hj : j = p) : rd b j = x := by
  subst hj
  unfold rd
  rw [Int.toNat_natCast, List.getD_eq_getElem?_getD]
  have : (b.drop p)[0]? = some x := by rw [h]; rfl
  rw [List.getElem?_drop] at this
  simp at this
  simp [this]
theorem drop_succ {b : List Int} {p : Nat} {x : Int} {xs : List Int} (h : b.drop p = x :: xs) : b.drop (p + 1) = xs := by
  rw [← List.drop_drop, h]; rfl
theorem drop_lt {b : List Int} {p : Nat} {x : Int} {xs : List Int} (h : b.drop p = x :: xs) : p < b.length := by
  rcases Nat.lt_or_ge p b.length with h' | h'
  · exact h'
  · rw [List.drop_of_length_le h'] at h; cases h

theorem TakeUint_l0 (b : List Int) (hb : Bs b) (hl : b.length ≤ 140737488355328) (p : Nat) (hp : p ≤ b.length) : ∀ (rest : List Int) (i : Nat) (n : Int) (k : Nat), b.drop (p + i) = rest → i ≤ 9 → 0 ≤ n → n < 2 ^ (7 * i) → p + i ≤ b.length → 20 ≤ k + 2 * i →
    octet_TakeUint.l0 (k + 1) b p n i = some (fin p (tk rest i n)) := by
  intro rest
  induction rest with
  | nil =>
    intro i n k hd hi h0 h1 hpi hk
    have : b.length ≤ p + i := by simpa using hd
    simp only [octet_TakeUint.l0]
    rw [w64_id (x := (p : Int) + i) (by omega) (by omega), if_pos (by omega)]
    rfl
  | cons x xs ih =>
    intro i n k hd hi h0 h1 hpi hk
    have hlt := drop_lt hd
    have hx : 0 ≤ x ∧ x ≤ 255 := (hb.drop (p + i)) x (by rw [hd]; simp)
    simp only [octet_TakeUint.l0]
    rw [w64_id (x := (p : Int) + i) (by omega) (by omega), if_neg (by omega), if_pos (by omega), if_pos (by omega), rd_drop hd (by omega)]
    obtain ⟨k, rfl⟩ : ∃ m, k = m + 1 := ⟨k - 1, by omega⟩
    have e35 : (if (i : Int) = 9 then octet_TakeUint.j2 (k + 1) b p n i x (decide (x > 1)) else octet_TakeUint.j2 (k + 1) b p n i x false) = octet_TakeUint.j2 (k + 1) b p n i x (decide (i = 9 ∧ x > 1)) := by
      by_cases h9 : i = 9
      · rw [if_pos (by omega)]; simp [h9]
      · rw [if_neg (by omega)]; simp [h9]
    rw [e35]
    simp only [octet_TakeUint.j2]
    unfold tk
    by_cases c1 : i = 9 ∧ x > 1
    · rw [if_pos (by simp [c1]), if_pos c1]; rfl
    · rw [if_neg (by simpa using c1), if_neg c1]
      obtain ⟨e, r1, r2⟩ := or_shl n x i hi h0 h1 hx.1 hx.2 (by omega)
      rw [e]
      have hnn : 0 ≤ x % 128 * 2 ^ (7 * i) := Int.mul_nonneg (by omega) (by have := pow7pos i; omega)
      rw [w64_id (x := 7 * (i : Int)) (by omega) (by omega), if_pos (by omega)]
      by_cases c2 : x ≥ 128
      · rw [if_pos c2, if_pos c2, w64_id (x := (i : Int) + 1) (by omega) (by omega)]
        obtain ⟨k, rfl⟩ : ∃ m, k = m + 1 := ⟨k - 1, by omega⟩
        have := ih (i + 1) (n + x % 128 * 2 ^ (7 * i)) k (by rw [← Nat.add_assoc]; exact drop_succ hd) (by omega) (by omega) (r2 (by omega)) (by omega) (by omega)
        rw [← this]; rfl
      · rw [if_neg c2, if_neg c2, w64_id (x := (p : Int) + i) (by omega) (by omega), w64_id (x := (p : Int) + i + 1) (by omega) (by omega)]
        by_cases c3 : x = 0
        · rw [if_pos c3]
          by_cases c4 : i > 0
          · rw [if_pos (by omega), if_pos ⟨c3, c4⟩]; rfl
          · rw [if_neg (by omega), if_neg (by omega)]
            simp only [fin, if_true]; congr 2 <;> first | rfl | omega | (congr 1 <;> first | rfl | omega)
        · rw [if_neg c3, if_neg (by omega)]
          simp only [fin, if_true]; congr 2 <;> first | rfl | omega | (congr 1 <;> first | rfl | omega)
/-- octet.TakeUint -/
theorem TakeUint_f (b : List Int) (hb : Bs b) (hl : b.length ≤ 140737488355328) (p : Int) (k : Nat) (hk : 30 ≤ k) : octet_TakeUint.f k b p = some (TU b p) := by
  unfold octet_TakeUint.f TU
  obtain ⟨k, rfl⟩ : ∃ m, k = m + 2 := ⟨k - 2, by omega⟩
  by_cases h : p < 0
  · rw [if_pos h, if_pos (.inl h)]; rfl
  · rw [if_neg h]
    simp only [octet_TakeUint.j0]
    by_cases h2 : p > (b.length : Int)
    · rw [if_pos (by simpa using h2), if_pos (.inr h2)]
    · rw [if_neg (by simpa using h2), if_neg (by omega)]
      obtain ⟨q, rfl⟩ : ∃ q : Nat, p = q := ⟨p.toNat, by omega⟩
      exact TakeUint_l0 b hb hl q (by omega) _ 0 0 k rfl (by omega) (by omega) (by decide) (by omega) (by omega)

theorem refTakeUint_l0 (b : List Int) (hb : Bs b) (hl : b.length ≤ 140737488355328) (p : Nat) (hp : p ≤ b.length) : ∀ (rest : List Int) (i : Nat) (n : Int) (k : Nat), b.drop (p + i) = rest → i ≤ 9 → 0 ≤ n → n < 2 ^ (7 * i) → p + i ≤ b.length → 20 ≤ k + 2 * i →
    grapevineref02_TakeUint.l0 (k + 1) b p n (2 ^ (7 * i)) i = some (fin p (tk rest i n)) := by
  intro rest
  induction rest with
  | nil =>
    intro i n k hd hi h0 h1 hpi hk
    have : b.length ≤ p + i := by simpa using hd
    simp only [grapevineref02_TakeUint.l0]
    rw [w64_id (x := (p : Int) + i) (by omega) (by omega), if_pos (by omega), if_pos (by omega)]
    rfl
  | cons x xs ih =>
    intro i n k hd hi h0 h1 hpi hk
    have hlt := drop_lt hd
    have hx : 0 ≤ x ∧ x ≤ 255 := (hb.drop (p + i)) x (by rw [hd]; simp)
    simp only [grapevineref02_TakeUint.l0]
    rw [w64_id (x := (p : Int) + i) (by omega) (by omega), if_pos (by omega), if_neg (by omega), if_pos (by omega), if_pos (by omega), rd_drop hd (by omega)]
    obtain ⟨k, rfl⟩ : ∃ m, k = m + 1 := ⟨k - 1, by omega⟩
    have e35 : (if (i : Int) = 9 then grapevineref02_TakeUint.j2 (k + 1) b p n (2 ^ (7 * i)) i x (decide (x > 1)) else grapevineref02_TakeUint.j2 (k + 1) b p n (2 ^ (7 * i)) i x false) = grapevineref02_TakeUint.j2 (k + 1) b p n (2 ^ (7 * i)) i x (decide (i = 9 ∧ x > 1)) := by
      by_cases h9 : i = 9
      · rw [if_pos (by omega)]; simp [h9]
      · rw [if_neg (by omega)]; simp [h9]
    rw [e35]
    simp only [grapevineref02_TakeUint.j2]
    unfold tk
    by_cases c1 : i = 9 ∧ x > 1
    · rw [if_pos (by simp [c1]), if_pos c1]; rfl
    · rw [if_neg (by simpa using c1), if_neg c1]
      obtain ⟨_, r1, r2⟩ := or_shl n x i hi h0 h1 hx.1 hx.2 (by omega)
      have hnn : 0 ≤ x % 128 * 2 ^ (7 * i) := Int.mul_nonneg (by omega) (by have := pow7pos i; omega)
      have e1 : Int.tmod x 128 = x % 128 := Int.tmod_eq_emod_of_nonneg hx.1
      rw [e1, u64w_id (x := x % 128) (by omega) (by omega), u64w_id (x := x % 128 * 2 ^ (7 * i)) hnn (by omega), u64w_id (x := n + x % 128 * 2 ^ (7 * i)) (by omega) r1]
      by_cases c2 : x ≥ 128
      · rw [if_neg (by omega), if_pos c2, w64_id (x := (i : Int) + 1) (by omega) (by omega)]
        obtain ⟨k, rfl⟩ : ∃ m, k = m + 1 := ⟨k - 1, by omega⟩
        have := ih (i + 1) (n + x % 128 * 2 ^ (7 * i)) k (by rw [← Nat.add_assoc]; exact drop_succ hd) (by omega) (by omega) (r2 (by omega)) (by omega) (by omega)
        rw [← this]
        have hi8 : i ≤ 8 := by omega
        have hp9 := pow_le9 (i := i + 1) (by omega)
        rw [pow7] at hp9
        have hpp := pow7pos i
        rw [u64w_id (x := 2 ^ (7 * i) * 128) (by omega) (by omega), pow7]; rfl
      · rw [if_pos (by omega), if_neg c2, w64_id (x := (p : Int) + i) (by omega) (by omega), w64_id (x := (p : Int) + i + 1) (by omega) (by omega)]
        by_cases c3 : x = 0
        · rw [if_pos c3]
          by_cases c4 : i > 0
          · rw [if_pos (by omega), if_pos ⟨c3, c4⟩]; rfl
          · rw [if_neg (by omega), if_neg (by omega)]
            simp only [fin, if_true]; congr 2 <;> first | rfl | omega | (congr 1 <;> first | rfl | omega)
        · rw [if_neg c3, if_neg (by omega)]
          simp only [fin, if_true]; congr 2 <;> first | rfl | omega | (congr 1 <;> first | rfl | omega)
/-- the reference's TakeUint -/
theorem refTakeUint_f (b : List Int) (hb : Bs b) (hl : b.length ≤ 140737488355328) (p : Int) (k : Nat) (hk : 30 ≤ k) : grapevineref02_TakeUint.f k b p = some (TU b p) := by
  unfold grapevineref02_TakeUint.f TU
  obtain ⟨k, rfl⟩ : ∃ m, k = m + 2 := ⟨k - 2, by omega⟩
  by_cases h : p < 0
  · rw [if_pos h, if_pos (.inl h)]; rfl
  · rw [if_neg h]
    simp only [grapevineref02_TakeUint.j0]
    by_cases h2 : p > (b.length : Int)
    · rw [if_pos (by simpa using h2), if_pos (.inr h2)]
    · rw [if_neg (by simpa using h2), if_neg (by omega)]
      obtain ⟨q, rfl⟩ : ∃ q : Nat, p = q := ⟨p.toNat, by omega⟩
      exact refTakeUint_l0 b hb hl q (by omega) _ 0 0 k rfl (by omega) (by omega) (by decide) (by omega) (by omega)
theorem TU_range (b : List Int) (hb : Bs b) (p : Int) : 0 ≤ (TU b p).1 ∧ (TU b p).1 < 18446744073709551616 ∧ 0 ≤ (TU b p).2.1 ∧ (TU b p).2.1 ≤ b.length ∧ ((TU b p).2.2 ≠ 0 → (TU b p).1 = 0 ∧ (TU b p).2.1 = 0) ∧ ((TU b p).2.2 = 0 → 0 ≤ p ∧ p < (TU b p).2.1) := by
  unfold TU
  by_cases h : p < 0 ∨ p > (b.length : Int)
  · rw [if_pos h]; simp
  · rw [if_neg h]
    obtain ⟨r1, r2, r3, r4, r5, r6⟩ := tk_range (b.drop p.toNat) 0 0 (hb.drop _) (by omega) (by omega) (by decide)
    rw [List.length_drop] at r4
    unfold fin
    generalize tk (b.drop p.toNat) 0 0 = t at *
    by_cases e : t.2.2 = 0
    · rw [if_pos e]
      have := r6 e
      dsimp only
      refine ⟨r1, r2, by omega, by omega, fun h => absurd e h, fun _ => by omega⟩
    · rw [if_neg e]
      dsimp only
      refine ⟨r1, r2, by omega, by omega, fun h => ⟨(r5 h).1, rfl⟩, fun h => absurd h e⟩
end Go.Proofs.Ytchanabiobcbhaa.Oct
namespace Go.Proofs.Ytchanabiobcbhaa.Oct
open Go Go.RowKit Go.Proofs.YtchanabiobcbhaaW.PrintWords Go.Proofs.YtchanabiobcbhaaW.PrintMore Go.Proofs.Ytchanabiobcbhaa.Q
set_option linter.unusedVariables false

/-- the number that may be below 0 at a place -/
def TI (b : List Int) (p : Int) : Int × Int × Int := (unfold' (TU b p).1, (TU b p).2.1, (TU b p).2.2)

theorem Int_f (n : Int) (k : Nat) (h0 : -9223372036854775808 ≤ n) (h1 : n ≤ 9223372036854775807) (hk : 20 ≤ k) : octet_Int.f k n = some (uB 9 (fold n)) := by
  unfold octet_Int.f
  have := fold_range h0 h1
  rw [xor_fold n h0 h1, Uint_f _ k this.1 this.2 hk]
  rfl
theorem refFold_f (n : Int) (h0 : -9223372036854775808 ≤ n) (h1 : n ≤ 9223372036854775807) : grapevineref02_Fold.f n = some (fold n) := by
  unfold grapevineref02_Fold.f fold
  by_cases h : n ≥ 0
  · rw [if_pos h, if_pos h, u64w_id (x := n) (by omega) (by omega), u64w_id (x := 2 * n) (by omega) (by omega)]
  · rw [if_neg h, if_neg h, w64_id (x := n + 1) (by omega) (by omega), w64_id (x := -(n + 1)) (by omega) (by omega), u64w_id (x := -(n + 1)) (by omega) (by omega), u64w_id (x := 2 * -(n + 1)) (by omega) (by omega), u64w_id (x := 2 * -(n + 1) + 1) (by omega) (by omega)]
    congr 1; omega
theorem refInt_f (n : Int) (k : Nat) (h0 : -9223372036854775808 ≤ n) (h1 : n ≤ 9223372036854775807) (hk : 20 ≤ k) : grapevineref02_Int.f k n = some (uB 9 (fold n)) := by
  unfold grapevineref02_Int.f
  have := fold_range h0 h1
  rw [refFold_f n h0 h1]
  simp only [Option.bind_some]
  rw [refUint_f _ k this.1 this.2 hk]
  rfl
theorem TakeInt_f (b : List Int) (hb : Bs b) (hl : b.length ≤ 140737488355328) (p : Int) (k : Nat) (hk : 30 ≤ k) : octet_TakeInt.f k b p = some (TI b p) := by
  unfold octet_TakeInt.f TI
  rw [TakeUint_f b hb hl p k hk]
  simp only [Option.bind_some]
  have := TU_range b hb p
  rw [xor_unfold _ this.1 this.2.1]
theorem refTakeInt_f (b : List Int) (hb : Bs b) (hl : b.length ≤ 140737488355328) (p : Int) (k : Nat) (hk : 30 ≤ k) : grapevineref02_TakeInt.f k b p = some (TI b p) := by
  unfold grapevineref02_TakeInt.f TI
  rw [refTakeUint_f b hb hl p k hk]
  simp only [Option.bind_some]
  obtain ⟨r1, r2, r3, r4, r5, r6⟩ := TU_range b hb p
  generalize TU b p = t at *
  have e1 : Int.tdiv t.1 2 = t.1 / 2 := Int.tdiv_eq_ediv_of_nonneg r1
  have e2 : Int.tmod t.1 2 = t.1 % 2 := Int.tmod_eq_emod_of_nonneg r1
  by_cases h : t.2.2 = 0
  · rw [if_pos h, e1, e2, h]
    unfold unfold'
    rw [u64w_id (x := t.1 / 2) (by omega) (by omega), w64_id (x := t.1 / 2) (by omega) (by omega), w64_id (x := -(t.1 / 2)) (by omega) (by omega), w64_id (x := -(t.1 / 2) - 1) (by omega) (by omega)]
    by_cases h2 : t.1 % 2 = 0
    · rw [if_pos h2, if_pos h2]
    · rw [if_neg h2, if_neg h2]
  · rw [if_neg h]
    obtain ⟨z1, z2⟩ := r5 h
    rw [z1, z2]; rfl
end Go.Proofs.Ytchanabiobcbhaa.Oct
namespace Go.Proofs.Ytchanabiobcbhaa.Oct
open Go Go.RowKit Go.Proofs.YtchanabiobcbhaaW.PrintWords Go.Proofs.YtchanabiobcbhaaW.PrintMore Go.Proofs.Ytchanabiobcbhaa.Q
set_option linter.unusedVariables false

/-- a number's key: its bytes, the greatest first -/
def kB (u : Int) : List Int := [u / 72057594037927936 % 256, u / 281474976710656 % 256, u / 1099511627776 % 256, u / 4294967296 % 256, u / 16777216 % 256, u / 65536 % 256, u / 256 % 256, u % 256]
def kV (u : Int) (l : List Int) : Int := l.foldl (fun u x => u * 256 + x) u
def TK (b : List Int) (p : Int) : Int × Int × Int :=
  if p < 0 ∨ p > (b.length : Int) then (0, 0, 2) else if (b.length : Int) - p < 8 then (0, 0, 3) else (kV 0 ((b.drop p.toNat).take 8) - 9223372036854775808, p + 8, 0)
theorem kB_len (u : Int) : (kB u).length = 8 := rfl
theorem kB_bytes (u : Int) : Bs (kB u) := by
  intro x hx
  simp only [kB, List.mem_cons, List.not_mem_nil, or_false] at hx
  omega
theorem kV_kB (u : Int) (h0 : 0 ≤ u) (h1 : u < 18446744073709551616) : kV 0 (kB u) = u := by
  simp only [kV, kB, List.foldl_cons, List.foldl_nil]
  have a1 : u / 72057594037927936 % 256 = u / 72057594037927936 := by omega
  have a2 : u / 72057594037927936 * 256 + u / 281474976710656 % 256 = u / 281474976710656 := by omega
  have a3 : u / 281474976710656 * 256 + u / 1099511627776 % 256 = u / 1099511627776 := by omega
  have a4 : u / 1099511627776 * 256 + u / 4294967296 % 256 = u / 4294967296 := by omega
  have a5 : u / 4294967296 * 256 + u / 16777216 % 256 = u / 16777216 := by omega
  have a6 : u / 16777216 * 256 + u / 65536 % 256 = u / 65536 := by omega
  have a7 : u / 65536 * 256 + u / 256 % 256 = u / 256 := by omega
  have a8 : u / 256 * 256 + u % 256 = u := by omega
  rw [show (0 : Int) * 256 = 0 from rfl, Int.zero_add, a1, a2, a3, a4, a5, a6, a7, a8]

theorem xor_low (a : Nat) (h : a < 9223372036854775808) : a ^^^ 9223372036854775808 = a + 9223372036854775808 := by
  have e : (9223372036854775808 : Nat) = 2 ^ 63 := by decide +kernel
  apply Nat.eq_of_testBit_eq
  intro j
  rw [Nat.testBit_xor, Nat.add_comm a, e, Nat.testBit_two_pow]
  rw [e] at h
  rcases Nat.lt_trichotomy j 63 with hj | rfl | hj
  · rw [Nat.testBit_two_pow_add_gt hj]
    rw [decide_eq_false (by omega), Bool.xor_false]
  · rw [Nat.testBit_two_pow_add_eq]; simp
  · have h1 : a.testBit j = false := Nat.testBit_lt_two_pow (Nat.lt_of_lt_of_le h (Nat.pow_le_pow_right (by decide) (by omega)))
    have h2 : (2 ^ 63 + a).testBit j = false := Nat.testBit_lt_two_pow (Nat.lt_of_lt_of_le (show 2 ^ 63 + a < 2 ^ 64 by omega) (Nat.pow_le_pow_right (by decide) (by omega)))
    rw [h1, h2, decide_eq_false (by omega)]; rfl
theorem xor_high (a : Nat) (h0 : 9223372036854775808 ≤ a) (h : a < 18446744073709551616) : a ^^^ 9223372036854775808 = a - 9223372036854775808 := by
  obtain ⟨b, rfl⟩ : ∃ b, a = b + 9223372036854775808 := ⟨a - 9223372036854775808, by omega⟩
  rw [← xor_low b (by omega), Nat.xor_assoc, Nat.xor_self, Nat.xor_zero, xor_low b (by omega)]
  omega
theorem xor_key (n : Int) (h0 : -9223372036854775808 ≤ n) (h1 : n ≤ 9223372036854775807) : Go.bits .xor .u64 (IntKind.u64.wrap n) 9223372036854775808 = n + 9223372036854775808 := by
  rw [u64w]
  obtain ⟨m, hm⟩ : ∃ m : Nat, n % 18446744073709551616 = m := ⟨_, (Int.toNat_of_nonneg (by omega)).symm⟩
  rw [hm, show (9223372036854775808 : Int) = ((9223372036854775808 : Nat) : Int) from rfl, bits_xor_u64_nat m _ (by omega) (by omega)]
  by_cases h : m < 9223372036854775808
  · rw [xor_low m h]; omega
  · rw [xor_high m (by omega) (by omega)]; omega
theorem xor_val (u : Int) (h0 : 0 ≤ u) (h1 : u < 18446744073709551616) : wrap64 (Go.bits .xor .u64 u 9223372036854775808) = u - 9223372036854775808 := by
  obtain ⟨m, rfl⟩ : ∃ m : Nat, u = m := ⟨_, (Int.toNat_of_nonneg h0).symm⟩
  rw [show (9223372036854775808 : Int) = ((9223372036854775808 : Nat) : Int) from rfl, bits_xor_u64_nat m _ (by omega) (by omega)]
  unfold wrap64
  by_cases h : m < 9223372036854775808
  · rw [xor_low m h]; omega
  · rw [xor_high m (by omega) (by omega)]; omega

theorem Key_step (k : Nat) (u : Int) (l : List Int) (i : Nat) (hi : i < 8) (hl : l.length = 8) :
    octet_Key.l0 (k + 1) u l 8 i = octet_Key.l0 k u (l.set i (u / 2 ^ (56 - 8 * i) % 256)) 8 ((i + 1 : Nat) : Int) := by
  simp only [octet_Key.l0]
  rw [if_pos (by omega), w64_id (x := 8 * (i : Int)) (by omega) (by omega), w64_id (x := 56 - 8 * (i : Int)) (by omega) (by omega), if_pos (by omega), if_pos (by omega), if_pos (by omega), w64_id (x := (i : Int) + 1) (by omega) (by omega)]
  have hs : min (56 - 8 * (i : Int)).toNat (IntKind.u64).bits = 56 - 8 * i := by
    show min (56 - 8 * (i : Int)).toNat 64 = 56 - 8 * i
    omega
  unfold shr
  rw [hs, Int.toNat_natCast, Int.natCast_add]; rfl
theorem Key_f (n : Int) (k : Nat) (h0 : -9223372036854775808 ≤ n) (h1 : n ≤ 9223372036854775807) (hk : 20 ≤ k) : octet_Key.f k n = some (kB (n + 9223372036854775808)) := by
  unfold octet_Key.f
  rw [if_pos (by decide), xor_key n h0 h1]
  simp only [Option.bind_some, List.length_replicate]
  obtain ⟨k, rfl⟩ : ∃ m, k = m + 9 := ⟨k - 9, by omega⟩
  generalize n + 9223372036854775808 = u
  have e0 : (((8 : Nat) : Int)) = 8 := rfl
  rw [e0]
  rw [show octet_Key.l0 (k + 9) u (List.replicate 8 0) 8 0 = octet_Key.l0 (k + 8 + 1) u (List.replicate 8 0) 8 ((0 : Nat) : Int) from rfl]
  rw [Key_step (k + 8) u _ 0 (by decide) (by simp), Key_step (k + 7) u _ 1 (by decide) (by simp), Key_step (k + 6) u _ 2 (by decide) (by simp), Key_step (k + 5) u _ 3 (by decide) (by simp), Key_step (k + 4) u _ 4 (by decide) (by simp), Key_step (k + 3) u _ 5 (by decide) (by simp), Key_step (k + 2) u _ 6 (by decide) (by simp), Key_step (k + 1) u _ 7 (by decide) (by simp)]
  simp only [octet_Key.l0]
  rw [if_neg (by decide)]
  have p0 : (2 : Int) ^ (56 - 8 * 0) = 72057594037927936 := by decide +kernel
  have p1 : (2 : Int) ^ (56 - 8 * 1) = 281474976710656 := by decide +kernel
  have p2 : (2 : Int) ^ (56 - 8 * 2) = 1099511627776 := by decide +kernel
  have p3 : (2 : Int) ^ (56 - 8 * 3) = 4294967296 := by decide +kernel
  have p4 : (2 : Int) ^ (56 - 8 * 4) = 16777216 := by decide +kernel
  have p5 : (2 : Int) ^ (56 - 8 * 5) = 65536 := by decide +kernel
  have p6 : (2 : Int) ^ (56 - 8 * 6) = 256 := by decide +kernel
  have p7 : (2 : Int) ^ (56 - 8 * 7) = 1 := by decide +kernel
  rw [p0, p1, p2, p3, p4, p5, p6, p7, Int.ediv_one]
  rfl
theorem refKey_step (k : Nat) (u : Int) (l : List Int) (i : Nat) (hi : i < 8) (hl : l.length = 8) (h0 : 0 ≤ u) (h1 : u < 18446744073709551616) :
    grapevineref02_Key.l0 (k + 1) u l i = grapevineref02_Key.l0 k (u / 256) (l.set i (u % 256)) ((i : Int) - 1) := by
  simp only [grapevineref02_Key.l0]
  rw [if_pos (by omega), if_pos (by omega), if_pos (by omega), w64_id (x := (i : Int) - 1) (by omega) (by omega)]
  have e1 : Int.tdiv u 256 = u / 256 := Int.tdiv_eq_ediv_of_nonneg h0
  have e2 : Int.tmod u 256 = u % 256 := Int.tmod_eq_emod_of_nonneg h0
  rw [e1, e2, u64w_id (x := u / 256) (by omega) (by omega), Int.toNat_natCast, Int.emod_emod]
theorem refKey_f (n : Int) (k : Nat) (h0 : -9223372036854775808 ≤ n) (h1 : n ≤ 9223372036854775807) (hk : 20 ≤ k) : grapevineref02_Key.f k n = some (kB (n + 9223372036854775808)) := by
  unfold grapevineref02_Key.f
  rw [if_pos (by decide)]
  have e : IntKind.u64.wrap (IntKind.u64.wrap n + 9223372036854775808) = n + 9223372036854775808 := by rw [u64w, u64w]; omega
  rw [e]
  obtain ⟨k, rfl⟩ : ∃ m, k = m + 9 := ⟨k - 9, by omega⟩
  obtain ⟨u, hu⟩ : ∃ u, u = n + 9223372036854775808 := ⟨_, rfl⟩
  rw [← hu]
  have u0 : 0 ≤ u := by omega
  have u1 : u < 18446744073709551616 := by omega
  clear hu e
  rw [show grapevineref02_Key.l0 (k + 9) u (List.replicate 8 0) 7 = grapevineref02_Key.l0 (k + 8 + 1) u (List.replicate 8 0) ((7 : Nat) : Int) from rfl]
  rw [refKey_step (k + 8) u _ 7 (by decide) (by simp) u0 u1, show (((7 : Nat) : Int) - 1) = ((6 : Nat) : Int) from rfl]
  rw [refKey_step (k + 7) _ _ 6 (by decide) (by simp) (by omega) (by omega), show (((6 : Nat) : Int) - 1) = ((5 : Nat) : Int) from rfl]
  rw [refKey_step (k + 6) _ _ 5 (by decide) (by simp) (by omega) (by omega), show (((5 : Nat) : Int) - 1) = ((4 : Nat) : Int) from rfl]
  rw [refKey_step (k + 5) _ _ 4 (by decide) (by simp) (by omega) (by omega), show (((4 : Nat) : Int) - 1) = ((3 : Nat) : Int) from rfl]
  rw [refKey_step (k + 4) _ _ 3 (by decide) (by simp) (by omega) (by omega), show (((3 : Nat) : Int) - 1) = ((2 : Nat) : Int) from rfl]
  rw [refKey_step (k + 3) _ _ 2 (by decide) (by simp) (by omega) (by omega), show (((2 : Nat) : Int) - 1) = ((1 : Nat) : Int) from rfl]
  rw [refKey_step (k + 2) _ _ 1 (by decide) (by simp) (by omega) (by omega), show (((1 : Nat) : Int) - 1) = ((0 : Nat) : Int) from rfl]
  rw [refKey_step (k + 1) _ _ 0 (by decide) (by simp) (by omega) (by omega), show (((0 : Nat) : Int) - 1) = -1 from rfl]
  simp only [grapevineref02_Key.l0]
  rw [if_neg (by decide)]
  have d2 : u / 256 / 256 = u / 65536 := by omega
  have d3 : u / 65536 / 256 = u / 16777216 := by omega
  have d4 : u / 16777216 / 256 = u / 4294967296 := by omega
  have d5 : u / 4294967296 / 256 = u / 1099511627776 := by omega
  have d6 : u / 1099511627776 / 256 = u / 281474976710656 := by omega
  have d7 : u / 281474976710656 / 256 = u / 72057594037927936 := by omega
  rw [d2, d3, d4, d5, d6, d7]
  rfl

theorem kV_range : ∀ (l : List Int) (u B : Int), Bs l → 0 ≤ u → u < B → 0 ≤ kV u l ∧ kV u l < B * 256 ^ l.length := by
  intro l
  induction l with
  | nil => intro u B _ h0 h1; simp [kV]; omega
  | cons x xs ih =>
    intro u B hb h0 h1
    have hx := hb x (by simp)
    have := ih (u * 256 + x) (B * 256) (fun y hy => hb y (by simp [hy])) (by omega) (by omega)
    simp only [List.length_cons, Int.pow_succ]
    refine ⟨this.1, ?_⟩
    have h2 := this.2
    rw [Int.mul_assoc, Int.mul_comm 256] at h2
    exact h2
theorem or_low (u x : Int) (h0 : 0 ≤ u) (h1 : u < 72057594037927936) (hx : 0 ≤ x ∧ x ≤ 255) :
    Go.bits .or .u64 (IntKind.u64.wrap (u * 256)) (IntKind.u64.wrap x) = u * 256 + x := by
  rw [u64w_id (x := u * 256) (by omega) (by omega), u64w_id (x := x) (by omega) (by omega), u64_or _ _ (by omega) (by omega) (by omega) (by omega), nat_join 8 _ _ (by omega) (by omega)]
  omega
theorem TakeKey_l0 (p : Int) (hp : 0 ≤ p) (hp2 : p < 9223372036854775000) (l : List Int) (hb : Bs l) (hl : l.length = 8) : ∀ (rest : List Int) (i : Nat) (u : Int) (k : Nat), l.drop i = rest → i + rest.length = 8 → 0 ≤ u → u < 256 ^ i → 8 - i ≤ k →
    octet_TakeKey.l0 (k + 1) p u l 8 i = some (kV u rest - 9223372036854775808, p + 8, 0) := by
  intro rest
  induction rest with
  | nil =>
    intro i u k hd hi h0 h1 hk
    have : i = 8 := by simpa using hi
    subst this
    simp only [octet_TakeKey.l0]
    have e : (256 : Int) ^ 8 = 18446744073709551616 := by decide +kernel
    rw [if_neg (by decide), xor_val u h0 (by rw [← e]; exact h1), w64_id (x := p + 8) (by omega) (by omega)]
    rfl
  | cons x xs ih =>
    intro i u k hd hi h0 h1 hk
    have hx : 0 ≤ x ∧ x ≤ 255 := (hb.drop i) x (by rw [hd]; simp)
    simp only [List.length_cons] at hi
    simp only [octet_TakeKey.l0]
    rw [if_pos (by omega), if_pos (by omega), if_pos (by omega), rd_drop hd rfl, w64_id (x := (i : Int) + 1) (by omega) (by omega)]
    have h7 : u < 72057594037927936 := by
      have e : (256 : Int) ^ 7 = 72057594037927936 := by decide +kernel
      have : ((256 ^ i : Nat) : Int) ≤ ((256 ^ 7 : Nat) : Int) := Int.ofNat_le.mpr (Nat.pow_le_pow_right (by decide) (by omega))
      rw [Int.natCast_pow, Int.natCast_pow] at this
      have e2 : ((256 : Nat) : Int) ^ i = (256 : Int) ^ i := rfl
      have e3 : ((256 : Nat) : Int) ^ 7 = (256 : Int) ^ 7 := rfl
      omega
    rw [or_low u x h0 h7 hx]
    obtain ⟨k, rfl⟩ : ∃ m, k = m + 1 := ⟨k - 1, by omega⟩
    have := ih (i + 1) (u * 256 + x) k (drop_succ hd) (by omega) (by omega) (by rw [Int.pow_succ]; omega) (by omega)
    rw [show ((i : Int) + 1) = ((i + 1 : Nat) : Int) from by omega, this]
    rfl
theorem TakeKey_f (b : List Int) (hb : Bs b) (hl : b.length ≤ 140737488355328) (p : Int) (k : Nat) (hp : -9223372036854775808 ≤ p) (hk : 30 ≤ k) : octet_TakeKey.f k b p = some (TK b p) := by
  unfold octet_TakeKey.f TK
  obtain ⟨k, rfl⟩ : ∃ m, k = m + 2 := ⟨k - 2, by omega⟩
  by_cases h : p < 0
  · rw [if_pos h, if_pos (.inl h)]; rfl
  · rw [if_neg h]
    simp only [octet_TakeKey.j0]
    by_cases h2 : p > (b.length : Int)
    · rw [if_pos (by simpa using h2), if_pos (.inr h2)]
    · rw [if_neg (by simpa using h2), w64_id (x := (b.length : Int) - p) (by omega) (by omega), if_neg (show ¬ (p < 0 ∨ p > (b.length : Int)) by omega)]
      by_cases h3 : (b.length : Int) - p < 8
      · rw [if_pos h3, if_pos h3]
      · rw [if_neg h3, if_neg h3, w64_id (x := p + 8) (by omega) (by omega), if_pos (by omega), if_pos (by omega), if_pos (by omega)]
        obtain ⟨q, rfl⟩ : ∃ q : Nat, p = q := ⟨p.toNat, by omega⟩
        have e : ((b.take ((q : Int) + 8).toNat).drop (q : Int).toNat) = (b.drop q).take 8 := by
          rw [show ((q : Int) + 8).toNat = q + 8 from by omega, Int.toNat_natCast, List.drop_take, show q + 8 - q = 8 from by omega]
        have len : ((b.drop q).take 8).length = 8 := by rw [List.length_take, List.length_drop]; omega
        rw [e, len]
        exact TakeKey_l0 q (by omega) (by omega) _ ((hb.drop q).take 8) len _ 0 0 k rfl (by rw [Int.toNat_natCast, len]) (by omega) (by decide) (by omega)
theorem refTakeKey_l0 (b : List Int) (hb : Bs b) (hl : b.length ≤ 140737488355328) (p : Nat) (hp : p + 8 ≤ b.length) : ∀ (rest : List Int) (i : Nat) (u : Int) (k : Nat), ((b.drop p).take 8).drop i = rest → i + rest.length = 8 → 0 ≤ u → u < 256 ^ i → 8 - i ≤ k →
    grapevineref02_TakeKey.l0 (k + 1) b p u i = some (kV u rest - 9223372036854775808, (p : Int) + 8, 0) := by
  intro rest
  induction rest with
  | nil =>
    intro i u k hd hi h0 h1 hk
    have : i = 8 := by simpa using hi
    subst this
    simp only [grapevineref02_TakeKey.l0]
    have e : (256 : Int) ^ 8 = 18446744073709551616 := by decide +kernel
    rw [if_neg (by decide), w64_id (x := (p : Int) + 8) (by omega) (by omega)]
    have : wrap64 (IntKind.u64.wrap (u - 9223372036854775808)) = u - 9223372036854775808 := by rw [u64w]; unfold wrap64; omega
    rw [this]
    rfl
  | cons x xs ih =>
    intro i u k hd hi h0 h1 hk
    have hx : 0 ≤ x ∧ x ≤ 255 := (((hb.drop p).take 8).drop i) x (by rw [hd]; simp)
    simp only [List.length_cons] at hi
    simp only [grapevineref02_TakeKey.l0]
    have hrd : rd b ((p : Int) + i) = x := by
      have : (b.drop (p + i))[0]? = some x := by
        have h1 : (((b.drop p).take 8).drop i)[0]? = some x := by rw [hd]; rfl
        rw [List.getElem?_drop, List.getElem?_take, List.getElem?_drop] at h1
        rw [List.getElem?_drop]
        simp at h1 ⊢
        exact h1.2
      rw [List.getElem?_drop] at this
      unfold rd
      rw [show ((p : Int) + i).toNat = p + i from by omega, List.getD_eq_getElem?_getD]
      simp at this
      simp [this]
    rw [if_pos (by omega), w64_id (x := (p : Int) + i) (by omega) (by omega), if_pos (by omega), if_pos (by omega), hrd, w64_id (x := (i : Int) + 1) (by omega) (by omega)]
    have h7 : u < 72057594037927936 := by
      have e : (256 : Int) ^ 7 = 72057594037927936 := by decide +kernel
      have : ((256 ^ i : Nat) : Int) ≤ ((256 ^ 7 : Nat) : Int) := Int.ofNat_le.mpr (Nat.pow_le_pow_right (by decide) (by omega))
      rw [Int.natCast_pow, Int.natCast_pow] at this
      have e2 : ((256 : Nat) : Int) ^ i = (256 : Int) ^ i := rfl
      have e3 : ((256 : Nat) : Int) ^ 7 = (256 : Int) ^ 7 := rfl
      omega
    rw [u64w_id (x := 256 * u) (by omega) (by omega), u64w_id (x := x) (by omega) (by omega), u64w_id (x := 256 * u + x) (by omega) (by omega), Int.mul_comm 256 u]
    obtain ⟨k, rfl⟩ : ∃ m, k = m + 1 := ⟨k - 1, by omega⟩
    have := ih (i + 1) (u * 256 + x) k (drop_succ hd) (by omega) (by omega) (by rw [Int.pow_succ]; omega) (by omega)
    rw [show ((i : Int) + 1) = ((i + 1 : Nat) : Int) from by omega, this]
    rfl
theorem refTakeKey_f (b : List Int) (hb : Bs b) (hl : b.length ≤ 140737488355328) (p : Int) (k : Nat) (hp : -9223372036854775808 ≤ p) (hk : 30 ≤ k) : grapevineref02_TakeKey.f k b p = some (TK b p) := by
  unfold grapevineref02_TakeKey.f TK
  obtain ⟨k, rfl⟩ : ∃ m, k = m + 2 := ⟨k - 2, by omega⟩
  by_cases h : p < 0
  · rw [if_pos h, if_pos (.inl h)]; rfl
  · rw [if_neg h]
    simp only [grapevineref02_TakeKey.j0]
    by_cases h2 : p > (b.length : Int)
    · rw [if_pos (by simpa using h2), if_pos (.inr h2)]
    · rw [if_neg (by simpa using h2), w64_id (x := (b.length : Int) - p) (by omega) (by omega), if_neg (show ¬ (p < 0 ∨ p > (b.length : Int)) by omega)]
      by_cases h3 : (b.length : Int) - p < 8
      · rw [if_pos h3, if_pos h3]
      · rw [if_neg h3, if_neg h3]
        obtain ⟨q, rfl⟩ : ∃ q : Nat, p = q := ⟨p.toNat, by omega⟩
        have len : ((b.drop q).take 8).length = 8 := by rw [List.length_take, List.length_drop]; omega
        exact refTakeKey_l0 b hb hl q (by omega) _ 0 0 k rfl (by rw [Int.toNat_natCast, len]) (by omega) (by decide) (by omega)
/-- a key is taken as it was, whatever stands around it -/
theorem TK_back (n : Int) (h0 : -9223372036854775808 ≤ n) (h1 : n ≤ 9223372036854775807) (a c : List Int) :
    TK (a ++ kB (n + 9223372036854775808) ++ c) a.length = (n, (a.length : Int) + 8, 0) := by
  unfold TK
  have len : (a ++ kB (n + 9223372036854775808) ++ c).length = a.length + 8 + c.length := by simp [kB_len]; omega
  rw [len, if_neg (by omega), if_neg (by omega), Int.toNat_natCast, List.append_assoc, List.drop_left, List.take_left' (kB_len _), kV_kB _ (by omega) (by omega)]
  congr 1; omega
end Go.Proofs.Ytchanabiobcbhaa.Oct
namespace Go.Proofs.Ytchanabiobcbhaa.Oct
open Go Go.RowKit Go.Proofs.YtchanabiobcbhaaW.PrintWords Go.Proofs.YtchanabiobcbhaaW.PrintMore Go.Proofs.Ytchanabiobcbhaa.Q
set_option linter.unusedVariables false

/-- as many bytes as the number at a place says -/
def PT (b : List Int) (p most : Int) : List Int × Int × Int :=
  if (TU b p).2.2 = 0 then
    if (TU b p).1 > most then ([], 0, 6)
    else if (TU b p).1 > (b.length : Int) - (TU b p).2.1 then ([], 0, 3)
    else ((b.drop (TU b p).2.1.toNat).take (TU b p).1.toNat, (TU b p).2.1 + (TU b p).1, 0)
  else ([], 0, (TU b p).2.2)
def TX (s : ByteArray) : List Int × Int := if (s.size : Int) > 200 then ([], 6) else (uB 9 s.size ++ bytesOf s, 0)

theorem part_f (b : List Int) (hb : Bs b) (hl : b.length ≤ 140737488355328) (p most : Int) (hm0 : 0 ≤ most) (hm1 : most ≤ 140737488355328) (k : Nat) (hk : 30 ≤ k) : octet_part.f k b p most = some (PT b p most) := by
  unfold octet_part.f PT
  rw [TakeUint_f b hb hl p k hk]
  simp only [Option.bind_some]
  obtain ⟨r1, r2, r3, r4, r5, r6⟩ := TU_range b hb p
  generalize TU b p = t at *
  by_cases h : t.2.2 = 0
  · rw [if_pos h, if_pos h, u64w_id (x := most) hm0 (by omega)]
    by_cases h1 : t.1 > most
    · rw [if_pos h1, if_pos h1]
    · rw [if_neg h1, if_neg h1, w64_id (x := (b.length : Int) - t.2.1) (by omega) (by omega), u64w_id (x := (b.length : Int) - t.2.1) (by omega) (by omega)]
      by_cases h2 : t.1 > (b.length : Int) - t.2.1
      · rw [if_pos h2, if_pos h2]
      · rw [if_neg h2, if_neg h2, w64_id (x := t.1) (by omega) (by omega), w64_id (x := t.2.1 + t.1) (by omega) (by omega), if_pos (by omega), if_pos (by omega), if_pos (by omega)]
        have e : (t.2.1 + t.1).toNat - t.2.1.toNat = t.1.toNat := by omega
        rw [List.drop_take, e]
  · rw [if_neg h, if_neg h]
theorem some_f (b : List Int) (hb : Bs b) (hl : b.length ≤ 140737488355327) (p most : Int) (hm0 : 0 ≤ most) (hm1 : most ≤ 140737488355328) (k : Nat) (hk : 30 ≤ k) : grapevineref02_some.f k b p most = some (PT b p most) := by
  unfold grapevineref02_some.f PT
  rw [refTakeUint_f b hb (by omega) p k hk]
  simp only [Option.bind_some]
  obtain ⟨r1, r2, r3, r4, r5, r6⟩ := TU_range b hb p
  generalize TU b p = t at *
  by_cases h : t.2.2 = 0
  · rw [if_pos h, if_pos h, u64w_id (x := most) hm0 (by omega)]
    by_cases h1 : t.1 > most
    · rw [if_pos h1, if_pos h1]
    · rw [if_neg h1, if_neg h1, w64_id (x := (b.length : Int) - t.2.1) (by omega) (by omega), w64_id (x := t.1) (by omega) (by omega)]
      by_cases h2 : t.1 > (b.length : Int) - t.2.1
      · rw [if_pos (by omega), if_pos h2]
      · rw [if_neg (by omega), if_neg h2, w64_id (x := t.2.1 + t.1) (by omega) (by omega), if_pos (by omega), if_pos (by omega), if_pos (by omega)]
        have e : (t.2.1 + t.1).toNat - t.2.1.toNat = t.1.toNat := by omega
        rw [List.drop_take, e]
        simp only [List.nil_append, List.length_nil, Nat.zero_add]
        rw [if_pos (by rw [List.length_take, List.length_drop]; omega)]
  · rw [if_neg h, if_neg h]
theorem TakeText_f (b : List Int) (hb : Bs b) (hl : b.length ≤ 140737488355328) (p : Int) (k : Nat) (hk : 30 ≤ k) : octet_TakeText.f k b p = some (strOfNums (PT b p 200).1, (PT b p 200).2.1, (PT b p 200).2.2) := by
  unfold octet_TakeText.f
  rw [part_f b hb hl p 200 (by omega) (by omega) k hk]
  rfl
theorem refTakeText_f (b : List Int) (hb : Bs b) (hl : b.length ≤ 140737488355327) (p : Int) (k : Nat) (hk : 30 ≤ k) : grapevineref02_TakeText.f k b p = some (strOfNums (PT b p 200).1, (PT b p 200).2.1, (PT b p 200).2.2) := by
  unfold grapevineref02_TakeText.f
  rw [some_f b hb hl p 200 (by omega) (by omega) k hk]
  rfl
theorem Text_f (s : ByteArray) (k : Nat) (hk : 20 ≤ k) : octet_Text.f k s = some (TX s) := by
  unfold octet_Text.f TX
  by_cases h : (s.size : Int) > 200
  · rw [if_pos h, if_pos h]
  · rw [if_neg h, if_neg h, u64w_id (x := (s.size : Int)) (by omega) (by omega), Uint_f _ k (by omega) (by omega) hk]
    simp only [Option.bind_some]
    have := uB_len 9 (s.size : Int)
    rw [if_pos (by omega)]
theorem refText_f (s : ByteArray) (k : Nat) (hk : 20 ≤ k) : grapevineref02_Text.f k s = some (TX s) := by
  unfold grapevineref02_Text.f TX
  by_cases h : (s.size : Int) > 200
  · rw [if_pos h, if_pos h]
  · rw [if_neg h, if_neg h, u64w_id (x := (s.size : Int)) (by omega) (by omega), refUint_f _ k (by omega) (by omega) hk]
    simp only [Option.bind_some]
    have := uB_len 9 (s.size : Int)
    rw [if_pos (by omega)]
theorem str_bytes (s : ByteArray) : strOfNums (bytesOf s) = s := by
  cases s with
  | mk d =>
    unfold strOfNums bytesOf
    congr 1
    simp only [List.map_map]
    have : (fun n : Int => UInt8.ofNat n.toNat) ∘ (fun b : UInt8 => (b.toNat : Int)) = id := by
      funext b
      simp
    rw [this]
    simp
theorem bytesOf_bs (s : ByteArray) : Bs (bytesOf s) := by
  intro x hx
  unfold bytesOf at hx
  obtain ⟨b, _, rfl⟩ := List.mem_map.mp hx
  have := b.toNat_lt
  omega
/-- bytes that are put behind their length are taken as they were -/
theorem PT_back (l : List Int) (most : Int) (hl : (l.length : Int) ≤ most) (hm : most ≤ 140737488355328) (a c : List Int) :
    PT (a ++ (uB 9 l.length ++ l) ++ c) a.length most = (l, (a.length : Int) + (uB 9 l.length ++ l).length, 0) := by
  have hT : TU (a ++ (uB 9 l.length ++ l) ++ c) a.length = ((l.length : Int), (a.length : Int) + (uB 9 l.length).length, 0) := by
    unfold TU
    rw [if_neg (by simp; omega), Int.toNat_natCast, List.append_assoc, List.drop_left, List.append_assoc, tk_uB 9 0 _ 0 (l ++ c) (by decide) (by omega) (by rw [pow64]; omega) (.inl rfl)]
    simp [fin]
  unfold PT
  rw [hT]
  simp only [if_true]
  rw [if_neg (by omega), if_neg (by simp; omega)]
  congr 1
  · rw [show ((a.length : Int) + (uB 9 l.length).length).toNat = (a ++ uB 9 l.length).length from by simp; omega]
    rw [show a ++ (uB 9 l.length ++ l) ++ c = (a ++ uB 9 l.length) ++ (l ++ c) from by simp, List.drop_left, Int.toNat_natCast, List.take_left]
  · congr 1
    simp
    omega
end Go.Proofs.Ytchanabiobcbhaa.Oct
namespace Go.Proofs.Ytchanabiobcbhaa.Oct
open Go Go.RowKit Go.Proofs.YtchanabiobcbhaaW.PrintWords Go.Proofs.YtchanabiobcbhaaW.PrintMore Go.Proofs.Ytchanabiobcbhaa.Q
set_option linter.unusedVariables false

def jn : List (List Int) → List Int → List Int × Int
  | [], acc => (acc, 0)
  | p :: ps, acc => if (p.length : Int) > 4096 then ([], 6) else jn ps (acc ++ uB 9 p.length ++ p)
def JN (l : List (List Int)) : List Int × Int := if (l.length : Int) > 64 then ([], 6) else jn l (uB 9 l.length)
def tj : Nat → List Int → Int → List (List Int) → List (List Int) × Int × Int
  | 0, _, p, acc => (acc, p, 0)
  | n + 1, b, p, acc => if (PT b p 4096).2.2 = 0 then tj n b (PT b p 4096).2.1 (acc ++ [(PT b p 4096).1]) else ([], 0, (PT b p 4096).2.2)
def TJ (b : List Int) (p : Int) : List (List Int) × Int × Int :=
  if (TU b p).2.2 = 0 then if (TU b p).1 > 64 then ([], 0, 6) else tj (TU b p).1.toNat b (TU b p).2.1 [] else ([], 0, (TU b p).2.2)

theorem rdL_drop {l : List (List Int)} {p : Nat} {x : List Int} {xs : List (List Int)} (h : l.drop p = x :: xs) : rd_L1 l (p : Int) = x := by
  unfold rd_L1
  rw [Int.toNat_natCast, List.getD_eq_getElem?_getD]
  have : (l.drop p)[0]? = some x := by rw [h]; rfl
  rw [List.getElem?_drop] at this
  simp at this
  simp [this]
theorem dropL_succ {α : Type} {b : List α} {p : Nat} {x : α} {xs : List α} (h : b.drop p = x :: xs) : b.drop (p + 1) = xs := by
  rw [← List.drop_drop, h]; rfl
theorem dropL_lt {α : Type} {b : List α} {p : Nat} {x : α} {xs : List α} (h : b.drop p = x :: xs) : p < b.length := by
  rcases Nat.lt_or_ge p b.length with h' | h'
  · exact h'
  · rw [List.drop_of_length_le h'] at h; cases h

theorem Join_l0 (l : List (List Int)) (hl : l.length ≤ 64) (hz : ∀ z ∈ l, z.length ≤ 140737488351232) : ∀ (rest : List (List Int)) (i : Nat) (acc : List Int) (k : Nat), l.drop i = rest → acc.length + rest.length * 5000 ≤ 1000000 → i ≤ l.length → 30 + rest.length ≤ k →
    octet_Join.l0 k acc l (l.length : Int) i = some (jn rest acc) := by
  intro rest
  induction rest with
  | nil =>
    intro i acc k hd ha hi hk
    obtain ⟨k, rfl⟩ : ∃ m, k = m + 1 := ⟨k - 1, by omega⟩
    have : l.length ≤ i := by simpa using hd
    simp only [octet_Join.l0]
    rw [if_neg (by omega)]; rfl
  | cons p ps ih =>
    intro i acc k hd ha hi hk
    obtain ⟨k, rfl⟩ : ∃ m, k = m + 1 := ⟨k - 1, by omega⟩
    have hlt := dropL_lt hd
    have hp := hz p (List.mem_of_mem_drop (by rw [hd]; simp))
    simp only [List.length_cons] at ha hk
    simp only [octet_Join.l0]
    rw [if_pos (by omega), if_pos (by omega), if_pos (by omega), rdL_drop hd]
    unfold jn
    by_cases h : (p.length : Int) > 4096
    · rw [if_pos h, if_pos h]
    · rw [if_neg h, if_neg h, u64w_id (x := (p.length : Int)) (by omega) (by omega), Uint_f _ k (by omega) (by omega) (by omega)]
      have hu := uB_len 9 (p.length : Int)
      simp only [Option.bind_some]
      rw [if_pos (by omega), if_pos (by simp; omega), w64_id (x := (i : Int) + 1) (by omega) (by omega)]
      exact ih (i + 1) _ k (dropL_succ hd) (by simp; omega) (by omega) (by omega)
theorem Join_f (l : List (List Int)) (hz : ∀ z ∈ l, z.length ≤ 140737488351232) (hll : l.length ≤ 140737488355328) (k : Nat) (hk : 100 ≤ k) : octet_Join.f k l = some (JN l) := by
  unfold octet_Join.f JN
  by_cases h : (l.length : Int) > 64
  · rw [if_pos h, if_pos h]
  · rw [if_neg h, if_neg h, u64w_id (x := (l.length : Int)) (by omega) (by omega), Uint_f _ k (by omega) (by omega) (by omega)]
    have hu := uB_len 9 (l.length : Int)
    simp only [Option.bind_some]
    exact Join_l0 l (by omega) hz l 0 _ k rfl (by omega) (by omega) (by omega)
theorem refJoin_l0 (l : List (List Int)) (hl : l.length ≤ 64) (hz : ∀ z ∈ l, z.length ≤ 140737488351232) : ∀ (rest : List (List Int)) (i : Nat) (acc : List Int) (k : Nat), l.drop i = rest → acc.length + rest.length * 5000 ≤ 1000000 → i ≤ l.length → 30 + rest.length ≤ k →
    grapevineref02_Join.l0 k l acc i = some (jn rest acc) := by
  intro rest
  induction rest with
  | nil =>
    intro i acc k hd ha hi hk
    obtain ⟨k, rfl⟩ : ∃ m, k = m + 1 := ⟨k - 1, by omega⟩
    have : l.length ≤ i := by simpa using hd
    simp only [grapevineref02_Join.l0]
    rw [if_neg (by omega)]; rfl
  | cons p ps ih =>
    intro i acc k hd ha hi hk
    obtain ⟨k, rfl⟩ : ∃ m, k = m + 1 := ⟨k - 1, by omega⟩
    have hlt := dropL_lt hd
    have hp := hz p (List.mem_of_mem_drop (by rw [hd]; simp))
    simp only [List.length_cons] at ha hk
    simp only [grapevineref02_Join.l0]
    rw [if_pos (by omega), if_pos (by omega), rdL_drop hd]
    unfold jn
    by_cases h : (p.length : Int) > 4096
    · rw [if_pos h, if_pos h]
    · rw [if_neg h, if_neg h, u64w_id (x := (p.length : Int)) (by omega) (by omega), refUint_f _ k (by omega) (by omega) (by omega)]
      have hu := uB_len 9 (p.length : Int)
      simp only [Option.bind_some]
      rw [if_pos (by omega), if_pos (by simp; omega), w64_id (x := (i : Int) + 1) (by omega) (by omega)]
      exact ih (i + 1) _ k (dropL_succ hd) (by simp; omega) (by omega) (by omega)
theorem refJoin_f (l : List (List Int)) (hz : ∀ z ∈ l, z.length ≤ 140737488351232) (hll : l.length ≤ 140737488355328) (k : Nat) (hk : 100 ≤ k) : grapevineref02_Join.f k l = some (JN l) := by
  unfold grapevineref02_Join.f JN
  by_cases h : (l.length : Int) > 64
  · rw [if_pos h, if_pos h]
  · rw [if_neg h, if_neg h, u64w_id (x := (l.length : Int)) (by omega) (by omega), refUint_f _ k (by omega) (by omega) (by omega)]
    have hu := uB_len 9 (l.length : Int)
    simp only [Option.bind_some]
    exact refJoin_l0 l (by omega) hz l 0 _ k rfl (by omega) (by omega) (by omega)

theorem PT_short (b : List Int) (hb : Bs b) (p most : Int) (h0 : 0 ≤ most) : ((PT b p most).1.length : Int) ≤ most := by
  unfold PT
  have hr := TU_range b hb p
  split
  · split
    · simp; omega
    · split
      · simp; omega
      · simp only [List.length_take]; omega
  · simp; omega
theorem TakeJoin_l0 (b : List Int) (hb : Bs b) (hl : b.length ≤ 140737488355327) (N : Nat) (hN : N ≤ 64) : ∀ (n i : Nat) (p : Int) (acc : List (List Int)) (k : Nat), i + n = N → acc.length + n ≤ 1000 → 40 + n ≤ k →
    octet_TakeJoin.l0 k b p acc (N : Int) i = some (tj n b p acc) := by
  intro n
  induction n with
  | zero =>
    intro i p acc k hi ha hk
    obtain ⟨k, rfl⟩ : ∃ m, k = m + 1 := ⟨k - 1, by omega⟩
    simp only [octet_TakeJoin.l0]
    rw [if_neg (by omega)]; rfl
  | succ n ih =>
    intro i p acc k hi ha hk
    obtain ⟨k, rfl⟩ : ∃ m, k = m + 1 := ⟨k - 1, by omega⟩
    simp only [octet_TakeJoin.l0]
    rw [if_pos (by omega), part_f b hb (by omega) p 4096 (by omega) (by omega) k (by omega)]
    simp only [Option.bind_some]
    unfold tj
    have hs := PT_short b hb p 4096 (by omega)
    by_cases h : (PT b p 4096).2.2 = 0
    · rw [if_pos h, if_pos h, if_pos (by simp only [List.length_nil]; omega), if_pos (by omega), w64_id (x := (i : Int) + 1) (by omega) (by omega)]
      exact ih (i + 1) _ _ k (by omega) (by simp; omega) (by omega)
    · rw [if_neg h, if_neg h]
theorem TakeJoin_f (b : List Int) (hb : Bs b) (hl : b.length ≤ 140737488355327) (p : Int) (k : Nat) (hk : 200 ≤ k) : octet_TakeJoin.f k b p = some (TJ b p) := by
  unfold octet_TakeJoin.f TJ
  rw [TakeUint_f b hb (by omega) p k (by omega)]
  simp only [Option.bind_some]
  obtain ⟨r1, r2, r3, r4, r5, r6⟩ := TU_range b hb p
  by_cases h : (TU b p).2.2 = 0
  · rw [if_pos h, if_pos h]
    by_cases h1 : (TU b p).1 > 64
    · rw [if_pos h1, if_pos h1]
    · rw [if_neg h1, if_neg h1, w64_id (x := (TU b p).1) (by omega) (by omega), if_pos (by omega), if_pos (by omega)]
      obtain ⟨N, hN⟩ : ∃ N : Nat, (TU b p).1 = N := ⟨_, (Int.toNat_of_nonneg r1).symm⟩
      rw [hN, Int.toNat_natCast]
      exact TakeJoin_l0 b hb hl N (by omega) N 0 _ [] k (by omega) (by simp; omega) (by omega)
  · rw [if_neg h, if_neg h]
theorem refTakeJoin_l0 (b : List Int) (hb : Bs b) (hl : b.length ≤ 140737488355327) (N : Nat) (hN : N ≤ 64) : ∀ (n i : Nat) (p : Int) (acc : List (List Int)) (k : Nat), i + n = N → acc.length + n ≤ 1000 → 40 + n ≤ k →
    grapevineref02_TakeJoin.l0 k b (N : Int) p acc i = some (tj n b p acc) := by
  intro n
  induction n with
  | zero =>
    intro i p acc k hi ha hk
    obtain ⟨k, rfl⟩ : ∃ m, k = m + 1 := ⟨k - 1, by omega⟩
    simp only [grapevineref02_TakeJoin.l0]
    rw [w64_id (x := (N : Int)) (by omega) (by omega), if_neg (by omega)]; rfl
  | succ n ih =>
    intro i p acc k hi ha hk
    obtain ⟨k, rfl⟩ : ∃ m, k = m + 1 := ⟨k - 1, by omega⟩
    simp only [grapevineref02_TakeJoin.l0]
    rw [w64_id (x := (N : Int)) (by omega) (by omega), if_pos (by omega), some_f b hb (by omega) p 4096 (by omega) (by omega) k (by omega)]
    simp only [Option.bind_some]
    unfold tj
    by_cases h : (PT b p 4096).2.2 = 0
    · rw [if_pos h, if_pos h, if_pos (by omega), w64_id (x := (i : Int) + 1) (by omega) (by omega)]
      exact ih (i + 1) _ _ k (by omega) (by simp; omega) (by omega)
    · rw [if_neg h, if_neg h]
theorem refTakeJoin_f (b : List Int) (hb : Bs b) (hl : b.length ≤ 140737488355327) (p : Int) (k : Nat) (hk : 200 ≤ k) : grapevineref02_TakeJoin.f k b p = some (TJ b p) := by
  unfold grapevineref02_TakeJoin.f TJ
  rw [refTakeUint_f b hb (by omega) p k (by omega)]
  simp only [Option.bind_some]
  obtain ⟨r1, r2, r3, r4, r5, r6⟩ := TU_range b hb p
  by_cases h : (TU b p).2.2 = 0
  · rw [if_pos h, if_pos h]
    by_cases h1 : (TU b p).1 > 64
    · rw [if_pos h1, if_pos h1]
    · rw [if_neg h1, if_neg h1]
      obtain ⟨N, hN⟩ : ∃ N : Nat, (TU b p).1 = N := ⟨_, (Int.toNat_of_nonneg r1).symm⟩
      rw [hN, Int.toNat_natCast]
      exact refTakeJoin_l0 b hb hl N (by omega) N 0 _ [] k (by omega) (by simp; omega) (by omega)
  · rw [if_neg h, if_neg h]
theorem SameRows_l0 (l : List (List Int)) (hl : l.length ≤ 140737488355328) : ∀ (n i k : Nat), i + n = l.length → n < k → grapevineref02_SameRows.l0 k l l i = some true := by
  intro n
  induction n with
  | zero =>
    intro i k hi hk
    obtain ⟨k, rfl⟩ : ∃ m, k = m + 1 := ⟨k - 1, by omega⟩
    simp only [grapevineref02_SameRows.l0]
    rw [if_neg (by omega)]
  | succ n ih =>
    intro i k hi hk
    obtain ⟨k, rfl⟩ : ∃ m, k = m + 1 := ⟨k - 1, by omega⟩
    simp only [grapevineref02_SameRows.l0]
    rw [if_pos (by omega), if_pos (by omega), if_pos (by omega), if_pos trivial, w64_id (x := (i : Int) + 1) (by omega) (by omega)]
    exact ih (i + 1) k (by omega) (by omega)
theorem SameRows_f (l : List (List Int)) (hl : l.length ≤ 140737488355328) (k : Nat) (hk : l.length < k) : grapevineref02_SameRows.f k l l = some true := by
  unfold grapevineref02_SameRows.f
  rw [if_pos rfl]
  exact SameRows_l0 l hl l.length 0 k (by omega) hk
theorem tj_length : ∀ (n : Nat) (b : List Int) (p : Int) (acc : List (List Int)), (tj n b p acc).1.length ≤ acc.length + n := by
  intro n
  induction n with
  | zero => intro b p acc; simp [tj]
  | succ n ih =>
    intro b p acc
    unfold tj
    split
    · have := ih b (PT b p 4096).2.1 (acc ++ [(PT b p 4096).1])
      simp at this
      omega
    · simp
theorem TJ_length (b : List Int) (p : Int) : (TJ b p).1.length ≤ 64 := by
  unfold TJ
  split
  · split
    · simp
    · have := tj_length (TU b p).1.toNat b (TU b p).2.1 []
      simp at this
      omega
  · simp
/-- bytes that stand behind their length are taken, whatever stands around -/
theorem PT_back' (a l c : List Int) (most : Int) (hl : (l.length : Int) ≤ most) (hm : most ≤ 140737488355328) (q : Int) (hq : q = a.length) :
    PT (a ++ uB 9 l.length ++ l ++ c) q most = (l, (a.length : Int) + (uB 9 l.length).length + l.length, 0) := by
  subst hq
  have := PT_back l most hl hm a c
  rw [show a ++ (uB 9 l.length ++ l) ++ c = a ++ uB 9 l.length ++ l ++ c from by simp] at this
  rw [this]
  simp
  omega
/-- the parts that are joined are taken -/
theorem tj_back : ∀ (l : List (List Int)) (a c : List Int) (acc : List (List Int)) (out : List Int), jn l a = (out, 0) →
    tj l.length (out ++ c) a.length acc = (acc ++ l, (out.length : Int), 0) := by
  intro l
  induction l with
  | nil => intro a c acc out h; simp [jn] at h; subst h; simp [tj]
  | cons p ps ih =>
    intro a c acc out h
    unfold jn at h
    by_cases h1 : (p.length : Int) > 4096
    · rw [if_pos h1] at h; simp at h
    · rw [if_neg h1] at h
      have key : ∃ t, out = a ++ uB 9 p.length ++ p ++ t := by
        have : ∀ (l : List (List Int)) (a out : List Int), jn l a = (out, 0) → ∃ t, out = a ++ t := by
          intro l
          induction l with
          | nil => intro a out h; simp [jn] at h; exact ⟨[], by simp [h]⟩
          | cons q qs ih2 =>
            intro a out h
            unfold jn at h
            by_cases h1 : (q.length : Int) > 4096
            · rw [if_pos h1] at h; simp at h
            · rw [if_neg h1] at h
              obtain ⟨t, ht⟩ := ih2 _ _ h
              exact ⟨uB 9 q.length ++ q ++ t, by rw [ht]; simp⟩
        exact this _ _ _ h
      obtain ⟨t, ht⟩ := key
      have hP : PT (out ++ c) (a.length : Int) 4096 = (p, (a.length : Int) + (uB 9 p.length).length + p.length, 0) := by
        rw [ht, List.append_assoc (a ++ uB 9 p.length ++ p) t c]
        exact PT_back' a p (t ++ c) 4096 (by omega) (by omega) _ rfl
      simp only [List.length_cons]
      unfold tj
      rw [hP]
      simp only [if_true]
      have := ih _ c (acc ++ [p]) out h
      rw [show ((a ++ uB 9 p.length ++ p).length : Int) = (a.length : Int) + (uB 9 p.length).length + p.length from by simp; omega] at this
      rw [this]
      simp
theorem jn_bs : ∀ (l : List (List Int)) (a out : List Int), (∀ z ∈ l, Bs z) → Bs a → jn l a = (out, 0) → Bs out := by
  intro l
  induction l with
  | nil => intro a out _ ha h; simp [jn] at h; exact h ▸ ha
  | cons p ps ih =>
    intro a out hl ha h
    unfold jn at h
    by_cases h1 : (p.length : Int) > 4096
    · rw [if_pos h1] at h; simp at h
    · rw [if_neg h1] at h
      exact ih _ _ (fun z hz => hl z (by simp [hz])) ((ha.append (uB_bytes 9 _ (by omega) (by rw [pow128]; omega))).append (hl p (by simp))) h
theorem jn_len : ∀ (l : List (List Int)) (a out : List Int) (e : Int), jn l a = (out, e) → out.length ≤ a.length + l.length * 4106 := by
  intro l
  induction l with
  | nil => intro a out e h; simp [jn] at h; simp [← h.1]
  | cons p ps ih =>
    intro a out e h
    unfold jn at h
    by_cases h1 : (p.length : Int) > 4096
    · rw [if_pos h1] at h; simp at h; obtain ⟨h2, h3⟩ := h; subst h2; simp
    · rw [if_neg h1] at h
      have := ih _ _ _ h
      have hu := uB_len 9 (p.length : Int)
      simp only [List.length_append] at this
      simp only [List.length_cons]
      omega
theorem jn_err : ∀ (l : List (List Int)) (a : List Int), (jn l a).2 = 0 ∨ jn l a = ([], 6) := by
  intro l
  induction l with
  | nil => intro a; left; rfl
  | cons p ps ih =>
    intro a
    unfold jn
    split
    · right; rfl
    · exact ih _
theorem JN_err (l : List (List Int)) : (JN l).2 = 0 ∨ JN l = ([], 6) := by
  unfold JN
  split
  · right; rfl
  · exact jn_err _ _
end Go.Proofs.Ytchanabiobcbhaa.Oct
namespace Go.Proofs.Ytchanabiobcbhaa.Oct
open Go Go.RowKit Go.Proofs.YtchanabiobcbhaaW.PrintWords Go.Proofs.YtchanabiobcbhaaW.PrintMore Go.Proofs.Ytchanabiobcbhaa.Q
set_option linter.unusedVariables false

theorem mem_flatten_len {l : List (List Int)} {z : List Int} (h : z ∈ l) : z.length ≤ l.flatten.length := by
  induction l with
  | nil => simp at h
  | cons y l ih =>
    rw [List.flatten_cons, List.length_append]
    rcases List.mem_cons.1 h with rfl | h
    · omega
    · have := ih h; omega
theorem jn_pre (a : List Int) : ∀ (l : List (List Int)) (acc out : List Int), jn l acc = (out, 0) → jn l (a ++ acc) = (a ++ out, 0) := by
  intro l
  induction l with
  | nil => intro acc out h; simp [jn] at h; subst h; simp [jn]
  | cons p ps ih =>
    intro acc out h
    unfold jn at h ⊢
    by_cases h1 : (p.length : Int) > 4096
    · rw [if_pos h1] at h; simp at h
    · rw [if_neg h1] at h
      rw [if_neg h1]
      have := ih _ _ h
      simpa [List.append_assoc] using this
theorem jn_ext : ∀ (l : List (List Int)) (a out : List Int), jn l a = (out, 0) → ∃ t, out = a ++ t := by
  intro l
  induction l with
  | nil => intro a out h; simp [jn] at h; exact ⟨[], by simp [h]⟩
  | cons q qs ih =>
    intro a out h
    unfold jn at h
    by_cases h1 : (q.length : Int) > 4096
    · rw [if_pos h1] at h; simp at h
    · rw [if_neg h1] at h
      obtain ⟨t, ht⟩ := ih _ _ h
      exact ⟨uB 9 q.length ++ q ++ t, by rw [ht]; simp⟩
/-- a number that stands anywhere is read -/
theorem TU_at (n : Int) (h0 : 0 ≤ n) (h1 : n < 18446744073709551616) (a c : List Int) : TU (a ++ (uB 9 n ++ c)) a.length = (n, (a.length : Int) + (uB 9 n).length, 0) := by
  unfold TU
  rw [if_neg (by simp; omega), Int.toNat_natCast, List.drop_left, tk_uB 9 0 _ 0 c (by decide) (by omega) (by rw [pow64]; omega) (.inl rfl)]
  simp [fin]
theorem TJ_back (l : List (List Int)) (out : List Int) (h : JN l = (out, 0)) (a c : List Int) : TJ (a ++ out ++ c) a.length = (l, (a.length : Int) + out.length, 0) := by
  unfold JN at h
  by_cases h6 : (l.length : Int) > 64
  · rw [if_pos h6] at h; simp at h
  · rw [if_neg h6] at h
    obtain ⟨t, ht⟩ := jn_ext l _ _ h
    have hT : TU (a ++ out ++ c) a.length = ((l.length : Int), (a.length : Int) + (uB 9 (l.length : Int)).length, 0) := by
      rw [ht, show a ++ (uB 9 (l.length : Int) ++ t) ++ c = a ++ (uB 9 (l.length : Int) ++ (t ++ c)) from by simp]
      exact TU_at _ (by omega) (by omega) a (t ++ c)
    unfold TJ
    rw [hT]
    simp only [if_true]
    rw [if_neg h6, Int.toNat_natCast]
    have := tj_back l (a ++ uB 9 (l.length : Int)) c [] (a ++ out) (jn_pre a l _ _ h)
    rw [show ((a ++ uB 9 (l.length : Int)).length : Int) = (a.length : Int) + (uB 9 (l.length : Int)).length from by simp] at this
    rw [this]
    simp
theorem JN_bs (l : List (List Int)) (hl : ∀ z ∈ l, Bs z) (hll : l.length ≤ 140737488355328) (out : List Int) (h : JN l = (out, 0)) : Bs out := by
  unfold JN at h
  by_cases h6 : (l.length : Int) > 64
  · rw [if_pos h6] at h; simp at h
  · rw [if_neg h6] at h
    exact jn_bs l _ _ hl (uB_bytes 9 _ (by omega) (by rw [pow128]; omega)) h
theorem JN_len (l : List (List Int)) : (JN l).1.length ≤ 300000 := by
  unfold JN
  by_cases h6 : (l.length : Int) > 64
  · rw [if_pos h6]; simp
  · rw [if_neg h6]
    have := jn_len l (uB 9 (l.length : Int)) (jn l (uB 9 l.length)).1 (jn l (uB 9 l.length)).2 rfl
    have hu := uB_len 9 (l.length : Int)
    omega
end Go.Proofs.Ytchanabiobcbhaa.Oct
namespace Go.Proofs.Ytchanabiobcbhaa.Oct
open Go Go.RowKit Go.Proofs.YtchanabiobcbhaaW.PrintWords Go.Proofs.YtchanabiobcbhaaW.PrintMore Go.Proofs.Ytchanabiobcbhaa.Q
set_option linter.unusedVariables false

theorem TU_cut (n : Int) (h0 : 0 ≤ n) (h1 : n < 18446744073709551616) (a : List Int) (m : Nat) (hm : m < (uB 9 n).length) (q : Int) (hq : q = a.length) : TU (a ++ (uB 9 n).take m) q = (0, 0, 3) := by
  subst hq
  unfold TU
  rw [if_neg (by simp; omega), Int.toNat_natCast, List.drop_left, tk_cut 9 0 _ 0 m (by decide) (by omega) (by rw [pow64]; omega) hm]
  simp [fin]
theorem PT_cut (l : List Int) (most : Int) (hl : (l.length : Int) ≤ most) (hm : most ≤ 140737488355328) (a : List Int) (m : Nat) (hc : m < (uB 9 l.length).length + l.length) (q : Int) (hq : q = a.length) :
    PT (a ++ (uB 9 l.length ++ l).take m) q most = ([], 0, 3) := by
  unfold PT
  by_cases h : m < (uB 9 l.length).length
  · rw [List.take_append, show m - (uB 9 (l.length : Int)).length = 0 from by omega, List.take_zero, List.append_nil, TU_cut _ (by omega) (by omega) a m h q hq]
    simp
  · rw [List.take_append, List.take_of_length_le (by omega)]
    subst hq
    rw [TU_at _ (by omega) (by omega) a _]
    simp only [if_true]
    rw [if_neg (by omega), if_pos (by simp; omega)]
theorem tj_cut : ∀ (l : List (List Int)) (a : List Int) (acc : List (List Int)) (out : List Int) (m : Nat), jn l a = (out, 0) → a.length ≤ m → m < out.length →
    tj l.length (out.take m) a.length acc = ([], 0, 3) := by
  intro l
  induction l with
  | nil => intro a acc out m h h1 h2; simp [jn] at h; subst h; omega
  | cons p ps ih =>
    intro a acc out m h h1 h2
    unfold jn at h
    by_cases h3 : (p.length : Int) > 4096
    · rw [if_pos h3] at h; simp at h
    · rw [if_neg h3] at h
      obtain ⟨t, ht⟩ := jn_ext _ _ _ h
      simp only [List.length_cons]
      unfold tj
      by_cases h4 : m < (a ++ uB 9 p.length ++ p).length
      · have e : out.take m = a ++ (uB 9 p.length ++ p).take (m - a.length) := by
          rw [ht, List.append_assoc, List.append_assoc, List.take_append, List.take_of_length_le h1]
          congr 1
          rw [← List.append_assoc, List.take_append]
          rw [show m - a.length - (uB 9 (p.length : Int) ++ p).length = 0 from by simp at h4 ⊢; omega]
          simp
        rw [e, PT_cut p 4096 (by omega) (by omega) a _ (by simp at h4; omega) _ rfl]
        simp
      · have e : out.take m = a ++ uB 9 p.length ++ p ++ t.take (m - (a ++ uB 9 p.length ++ p).length) := by
          rw [ht, List.take_append, List.take_of_length_le (by omega)]
        have hP : PT (out.take m) (a.length : Int) 4096 = (p, (a.length : Int) + (uB 9 p.length).length + p.length, 0) := by
          rw [e]
          exact PT_back' a p _ 4096 (by omega) (by omega) _ rfl
        rw [hP]
        simp only [if_true]
        have := ih _ (acc ++ [p]) out m h (by omega) h2
        rw [show ((a ++ uB 9 p.length ++ p).length : Int) = (a.length : Int) + (uB 9 p.length).length + p.length from by simp; omega] at this
        exact this
theorem TJ_cut (l : List (List Int)) (out : List Int) (h : JN l = (out, 0)) (m : Nat) (hm : m < out.length) : TJ (out.take m) 0 = ([], 0, 3) := by
  unfold JN at h
  by_cases h6 : (l.length : Int) > 64
  · rw [if_pos h6] at h; simp at h
  · rw [if_neg h6] at h
    obtain ⟨t, ht⟩ := jn_ext l _ _ h
    unfold TJ
    by_cases h4 : m < (uB 9 (l.length : Int)).length
    · have e : out.take m = [] ++ (uB 9 (l.length : Int)).take m := by
        rw [ht, List.take_append, show m - (uB 9 (l.length : Int)).length = 0 from by omega]
        simp
      rw [e, TU_cut _ (by omega) (by omega) [] m h4 0 rfl]
      simp
    · have e : out.take m = [] ++ (uB 9 (l.length : Int) ++ t.take (m - (uB 9 (l.length : Int)).length)) := by
        rw [ht, List.take_append, List.take_of_length_le (by omega)]
        simp
      have hT : TU (out.take m) 0 = ((l.length : Int), ((uB 9 (l.length : Int)).length : Int), 0) := by
        rw [e]
        have := TU_at (l.length : Int) (by omega) (by omega) [] (t.take (m - (uB 9 (l.length : Int)).length))
        simpa using this
      rw [hT]
      simp only [if_true]
      rw [if_neg h6, Int.toNat_natCast]
      exact tj_cut l _ [] out m h (by omega) hm
theorem tm (K n : Int) (h0 : 0 ≤ K) (h1 : 0 < n) : ∃ m : Nat, Int.tmod K n = m ∧ (m : Int) < n := by
  rw [Int.tmod_eq_emod_of_nonneg h0]
  exact ⟨(K % n).toNat, (Int.toNat_of_nonneg (Int.emod_nonneg _ (by omega))).symm, by rw [Int.toNat_of_nonneg (Int.emod_nonneg _ (by omega))]; exact Int.emod_lt_of_pos _ h1⟩
end Go.Proofs.Ytchanabiobcbhaa.Oct
namespace Go.Proofs.Ytchanabiobcbhaa.Pure
open Go Go.RowKit Go.Proofs.Ytchanabiobcbhaa.Q Go.Proofs.Ytchanabiobcbhaa.Oct Go.Proofs.YtchanabiobcbhaaW.PrintWords Go.Proofs.YtchanabiobcbhaaW.PrintMore
set_option linter.unusedVariables false
theorem Cuts_j1 (l : List (List Int)) (K : Int) (h0 : 0 ≤ K) (h1 : K ≤ 65535) (hn : l.length ≤ 5864062014634 ∧ ∀ z ∈ l, z.length ≤ 140737488351232) (hb : ∀ z ∈ l, Bs z) (k : Nat) (hk : 1000 ≤ k) : grapevinelaw02_OctetCuts.j1 k l K = some true := by
  obtain ⟨k, rfl⟩ : ∃ m, k = m + 1 := ⟨k - 1, by omega⟩
  simp only [grapevinelaw02_OctetCuts.j1]
  rw [Join_f l hn.2 (by omega) k (by omega)]
  simp only [Option.bind_some]
  by_cases h : (JN l).2 = 0
  · have hJ : JN l = ((JN l).1, 0) := by rw [← h]
    have hL := JN_len l
    rw [if_pos h]
    by_cases h2 : ((JN l).1.length : Int) > 0
    · rw [if_pos h2, if_neg (by omega), w64_id (x := K) (by omega) (by omega)]
      obtain ⟨m, hm, hm2⟩ := tm K ((JN l).1.length : Int) h0 h2
      rw [hm, if_pos (by omega), if_pos (by omega), Int.toNat_natCast, TakeJoin_f _ ((JN_bs l hb (by omega) _ hJ).take _) (by rw [List.length_take]; omega) _ k (by omega), TJ_cut l _ hJ m (by omega)]
      rfl
    · rw [if_neg h2]
  · rw [if_neg h]
theorem OctetCuts (n : Int) (s : ByteArray) (l : List (List Int)) (K : Int) (hn : (Lit.int .i64 n).wf = true) (hs : s.size ≤ 140737488351232) (hl : l.length ≤ 5864062014634 ∧ ∀ z ∈ l, z.length ≤ 140737488351232) (hb : ∀ z ∈ l, ∀ x ∈ z, (Lit.int .u8 x).wf = true) (hK : (Lit.int .u16 K).wf = true) :
    ∃ k, grapevinelaw02_OctetCuts.f k n s l K = some true := by
  obtain ⟨k, hk⟩ : ∃ k : Nat, 5000 ≤ k := ⟨_, Nat.le_refl _⟩
  refine ⟨k, ?_⟩
  have hn' := wf_i64 hn
  have hK0 : 0 ≤ K ∧ K ≤ 65535 := by
    simp [Lit.wf, IntKind.min, IntKind.max, IntKind.signed, IntKind.bits] at hK
    omega
  have hf := fold_range hn'.1 hn'.2
  have hu := uB_len 9 (fold n)
  have hB : Bs (uB 9 (fold n)) := uB_bytes 9 _ (by omega) (by rw [pow128]; omega)
  unfold grapevinelaw02_OctetCuts.f
  rw [Int_f n k hn'.1 hn'.2 (by omega)]
  simp only [Option.bind_some]
  have hmx : mx 1 ((uB 9 (fold n)).length : Int) = ((uB 9 (fold n)).length : Int) := by unfold mx; split <;> omega
  rw [hmx, if_neg (by omega), w64_id (x := K) (by omega) (by omega)]
  obtain ⟨m, hm, hm2⟩ := tm K ((uB 9 (fold n)).length : Int) hK0.1 (by omega)
  rw [hm, if_pos (by omega), if_pos (by omega), Int.toNat_natCast, TakeInt_f _ (hB.take _) (by rw [List.length_take]; omega) _ k (by omega)]
  have hT := TU_cut (fold n) hf.1 hf.2 [] m (by omega) 0 rfl
  rw [List.nil_append] at hT
  unfold TI
  rw [hT]
  simp only [Option.bind_some, if_true]
  rw [Key_f n k hn'.1 hn'.2 (by omega)]
  simp only [Option.bind_some]
  obtain ⟨q, hq, hq2⟩ := tm K 8 hK0.1 (by omega)
  have hkl := kB_len (n + 9223372036854775808)
  rw [hq, if_pos (by omega), if_pos (by omega), Int.toNat_natCast, TakeKey_f _ ((kB_bytes _).take _) (by rw [List.length_take]; omega) _ k (by omega) (by omega)]
  have hTK : TK ((kB (n + 9223372036854775808)).take q) 0 = (0, 0, 3) := by
    unfold TK
    rw [if_neg (by omega), if_pos (by rw [List.length_take]; omega)]
  rw [hTK]
  simp only [Option.bind_some, if_true]
  rw [Text_f s k (by omega)]
  simp only [Option.bind_some]
  have hj1 : ∀ k, 1000 ≤ k → grapevinelaw02_OctetCuts.j1 k l K = some true := fun k hk => Cuts_j1 l K hK0.1 hK0.2 hl (fun z hz => Bs.of_wf (hb z hz)) k hk
  obtain ⟨k, rfl⟩ : ∃ m, k = m + 1 := ⟨k - 1, by omega⟩
  by_cases h : (s.size : Int) > 200
  · have e : TX s = ([], 6) := by unfold TX; rw [if_pos h]
    rw [e]
    rw [if_neg (by decide)]
    simp only [grapevinelaw02_OctetCuts.j0]
    rw [if_neg (by decide)]
    exact hj1 k (by omega)
  · have e : TX s = (uB 9 s.size ++ bytesOf s, 0) := by unfold TX; rw [if_neg h]
    have hbl := bytesOf_length s
    have hu2 := uB_len 9 (s.size : Int)
    have hlen : (uB 9 (s.size : Int) ++ bytesOf s).length = (uB 9 (s.size : Int)).length + s.size := by rw [List.length_append, hbl]
    have hBB : Bs (uB 9 (s.size : Int) ++ bytesOf s) := (uB_bytes 9 _ (by omega) (by rw [pow128]; omega)).append (bytesOf_bs s)
    rw [e]
    simp only [if_true, grapevinelaw02_OctetCuts.j0]
    rw [if_pos (by simp; omega), if_neg (by omega), w64_id (x := K) (by omega) (by omega)]
    obtain ⟨z, hz, hz2⟩ := tm K ((uB 9 (s.size : Int) ++ bytesOf s).length : Int) hK0.1 (by omega)
    rw [hz, if_pos (by omega), if_pos (by omega), Int.toNat_natCast, TakeText_f _ (hBB.take _) (by rw [List.length_take]; omega) _ k (by omega)]
    have := PT_cut (bytesOf s) 200 (by omega) (by omega) [] z (by rw [hbl]; omega) 0 rfl
    rw [hbl, List.nil_append] at this
    rw [this]
    simp only [Option.bind_some, if_true]
    exact hj1 k (by omega)
end Go.Proofs.Ytchanabiobcbhaa.Pure
