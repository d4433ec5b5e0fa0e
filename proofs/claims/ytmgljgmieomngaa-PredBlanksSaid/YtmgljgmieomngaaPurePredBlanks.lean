/- Blanks ahead of a text and behind it change nothing but the place of an error: for every text. -/
import Derived.Laws.BitsAllLaws
import Derived.RowKit
import Derived.Test.YtmgljgmieomngaaWd
import Derived.Test.YtmgljgmieomngaaQx0
import Derived.Test.YtmgljgmieomngaaFl
import Derived.Test.YtmgljgmieomngaaQx6
import Derived.Test.YtmgljgmieomngaaQx4
import Derived.Test.YtmgljgmieomngaaQx5
import Derived.Test.YtmgljgmieomngaaQx3
import Derived.Test.YtmgljgmieomngaaQx27
import Derived.Test.YtmgljgmieomngaaQx7
import Derived.Test.YtmgljgmieomngaaQx2
import Derived.Test.YtmgljgmieomngaaQx8
import Derived.Test.YtmgljgmieomngaaQx9
import Derived.Test.YtmgljgmieomngaaQx41
import Derived.Test.YtmgljgmieomngaaPy5
import Derived.Test.YtmgljgmieomngaaQx42
namespace Go.Proofs.Ytmgljgmieomngaa.Oct
open Go Go.RowKit Go.Proofs.YtmgljgmieomngaaW.PrintWords Go.Proofs.YtmgljgmieomngaaW.PrintMore
set_option linter.unusedVariables false

theorem u64w (x : Int) : IntKind.u64.wrap x = x % 18446744073709551616 := IntKind.wrap_u64 x
theorem u64w_id {x : Int} (h0 : 0 ≤ x) (h1 : x < 18446744073709551616) : IntKind.u64.wrap x = x := by rw [u64w]; omega
theorem w64_id {x : Int} (h0 : -9223372036854775808 ≤ x) (h1 : x < 9223372036854775808) : wrap64 x = x := by unfold wrap64; omega

/-- bytes: all from 0 to 255 -/
def Bs (l : List Int) : Prop := ∀ x ∈ l, 0 ≤ x ∧ x ≤ 255
theorem Bs.of_wf {l : List Int} (h : ∀ x ∈ l, (Lit.int .u8 x).wf = true) : Bs l := by
  intro x hx
  have := h x hx
  simp [Lit.wf, IntKind.min, IntKind.max, IntKind.signed, IntKind.bits] at this
  omega
theorem Bs.nil : Bs [] := by intro x hx; simp at hx
theorem Bs.cons {x : Int} {l : List Int} (h : 0 ≤ x ∧ x ≤ 255) (hl : Bs l) : Bs (x :: l) := by
  intro y hy
  rcases List.mem_cons.mp hy with rfl | hy
  · exact h
  · exact hl y hy
theorem Bs.append {a b : List Int} (ha : Bs a) (hb : Bs b) : Bs (a ++ b) := by
  intro x hx
  rcases List.mem_append.mp hx with h | h
  · exact ha x h
  · exact hb x h
theorem Bs.drop {l : List Int} (h : Bs l) (n : Nat) : Bs (l.drop n) := fun x hx => h x (List.mem_of_mem_drop hx)
theorem Bs.take {l : List Int} (h : Bs l) (n : Nat) : Bs (l.take n) := fun x hx => h x (List.mem_of_mem_take hx)

/-! ### a number's bytes -/
def uB : Nat → Int → List Int
  | 0, n => [n]
  | f + 1, n => if n ≥ 128 then (n % 128 + 128) :: uB f (n / 128) else [n]

theorem or128 (x : Int) (h0 : 0 ≤ x) (h1 : x < 256) : Go.bits .or .u8 x 128 = x % 128 + 128 := by
  rw [u8_or x 128 h0 h1 (by decide) (by decide)]
  have key : ∀ n : Fin 256, (n.val ||| 128) = n.val % 128 + 128 := by decide +kernel
  have := key ⟨x.toNat, by omega⟩
  simp only at this
  rw [show (128 : Int).toNat = 128 from rfl, this]
  omega
theorem and127 (x : Int) (h0 : 0 ≤ x) (h1 : x < 256) : Go.bits .and .u8 x 127 = x % 128 := by
  rw [u8_and x 127 h0 h1 (by decide) (by decide)]
  rw [show (127 : Int).toNat = 127 from rfl, nat_mask7]
  omega

theorem uB_len (f : Nat) (n : Int) : 1 ≤ (uB f n).length ∧ (uB f n).length ≤ f + 1 := by
  induction f generalizing n with
  | zero => simp [uB]
  | succ f ih =>
    unfold uB
    split
    · have := ih (n / 128)
      simp only [List.length_cons]
      omega
    · simp
theorem uB_small (f : Nat) (n : Int) (h : n < 128) : uB f n = [n] := by
  cases f with
  | zero => rfl
  | succ f => unfold uB; rw [if_neg (by omega)]
theorem uB_bytes (f : Nat) (n : Int) (h0 : 0 ≤ n) (h1 : n < 128 ^ (f + 1)) : Bs (uB f n) := by
  induction f generalizing n with
  | zero => exact Bs.cons ⟨h0, by simp at h1; omega⟩ Bs.nil
  | succ f ih =>
    unfold uB
    split
    · refine Bs.cons ⟨by omega, by omega⟩ (ih _ (by omega) ?_)
      rw [Int.pow_succ] at h1
      exact Int.ediv_lt_of_lt_mul (by decide) h1
    · exact Bs.cons ⟨h0, by omega⟩ Bs.nil

theorem uB_mono (f : Nat) : ∀ a b : Int, 0 ≤ a → a ≤ b → b < 128 ^ (f + 1) → (uB f a).length ≤ (uB f b).length := by
  induction f with
  | zero => intro a b _ _ _; simp [uB]
  | succ f ih =>
    intro a b ha hab hb
    unfold uB
    by_cases h1 : a ≥ 128
    · rw [if_pos h1, if_pos (by omega)]
      simp only [List.length_cons]
      have hb' : b / 128 < 128 ^ (f + 1) := by
        rw [Int.pow_succ] at hb
        exact Int.ediv_lt_of_lt_mul (by decide) hb
      have := ih (a / 128) (b / 128) (by omega) (by omega) hb'
      omega
    · rw [if_neg h1]
      have := (uB_len (f + 1) b).1
      unfold uB at this
      exact this

/-- what stands for a number: the value, how many bytes, the error -/
def tk : List Int → Nat → Int → Int × Int × Int
  | [], _, _ => (0, 0, 3)
  | x :: xs, i, n =>
    if i = 9 ∧ x > 1 then (0, 0, 6)
    else if x ≥ 128 then tk xs (i + 1) (n + x % 128 * 2 ^ (7 * i))
    else if x = 0 ∧ i > 0 then (0, 0, 4)
    else (n + x % 128 * 2 ^ (7 * i), (i : Int) + 1, 0)
def fin (at' : Int) (r : Int × Int × Int) : Int × Int × Int := (r.1, if r.2.2 = 0 then at' + r.2.1 else 0, r.2.2)
/-- the number at a place, and the place behind it, or the error -/
def TU (b : List Int) (at' : Int) : Int × Int × Int :=
  if at' < 0 ∨ at' > (b.length : Int) then (0, 0, 2) else fin at' (tk (b.drop at'.toNat) 0 0)

theorem pow2_le {a b : Nat} (h : a ≤ b) : (2 : Int) ^ a ≤ 2 ^ b := by
  have : ((2 ^ a : Nat) : Int) ≤ ((2 ^ b : Nat) : Int) := Int.ofNat_le.mpr (Nat.pow_le_pow_right (by decide) h)
  rw [Int.natCast_pow, Int.natCast_pow] at this
  exact this
theorem pow7 (i : Nat) : (2 : Int) ^ (7 * (i + 1)) = 2 ^ (7 * i) * 128 := by
  rw [Nat.mul_add, Int.pow_add]; rfl
theorem pow7pos (i : Nat) : (0 : Int) < 2 ^ (7 * i) := Int.pow_pos (by decide)
theorem pow_le9 {i : Nat} (h : i ≤ 9) : (2 : Int) ^ (7 * i) ≤ 9223372036854775808 := by
  have : (2 : Int) ^ (7 * i) ≤ 2 ^ (7 * 9) := pow2_le (by omega)
  exact this

/-- the digit's share, beside what was there -/
theorem or_shl (n x : Int) (i : Nat) (hi : i ≤ 9) (hn0 : 0 ≤ n) (hn : n < 2 ^ (7 * i)) (hx0 : 0 ≤ x) (hx : x ≤ 255) (h9 : i = 9 → x ≤ 1) :
    Go.bits .or .u64 n (shl .u64 (IntKind.u64.wrap (Go.bits .and .u8 x 127)) (wrap64 (7 * (i : Int)))) = n + x % 128 * 2 ^ (7 * i) ∧
      n + x % 128 * 2 ^ (7 * i) < 18446744073709551616 ∧ (i < 9 → n + x % 128 * 2 ^ (7 * i) < 2 ^ (7 * (i + 1))) := by
  have hp := pow7pos i
  have hp9 := pow_le9 hi
  have hm : x % 128 * 2 ^ (7 * i) + n < 18446744073709551616 := by
    by_cases h : i = 9
    · subst h
      have : x % 128 ≤ 1 := by have := h9 rfl; omega
      have e : (2 : Int) ^ (7 * 9) = 9223372036854775808 := by decide +kernel
      rw [e] at hn ⊢
      omega
    · have h8 : (2 : Int) ^ (7 * i) ≤ 2 ^ (7 * 8) := pow2_le (by omega)
      have e : (2 : Int) ^ (7 * 8) = 72057594037927936 := by decide +kernel
      rw [e] at h8
      have : x % 128 * 2 ^ (7 * i) ≤ 127 * 2 ^ (7 * i) := Int.mul_le_mul_of_nonneg_right (by omega) (by omega)
      omega
  have hlt : i < 9 → n + x % 128 * 2 ^ (7 * i) < 2 ^ (7 * (i + 1)) := by
    intro _
    rw [pow7]
    have : x % 128 * 2 ^ (7 * i) ≤ 127 * 2 ^ (7 * i) := Int.mul_le_mul_of_nonneg_right (by omega) (by omega)
    omega
  refine ⟨?_, by omega, hlt⟩
  rw [and127 x hx0 (by omega), u64w_id (by omega) (by omega), w64_id (by omega) (by omega)]
  have hs : min (7 * (i : Int)).toNat (IntKind.u64).bits = 7 * i := by
    have : (7 * (i : Int)).toNat = 7 * i := by omega
    rw [this]
    show min (7 * i) 64 = 7 * i
    omega
  unfold shl
  rw [hs]
  have hnn : 0 ≤ x % 128 * 2 ^ (7 * i) := Int.mul_nonneg (by omega) (by omega)
  rw [u64w_id hnn (by omega)]
  rw [u64_or n _ hn0 (by omega) hnn (by omega)]
  have e1 : (x % 128 * 2 ^ (7 * i)).toNat = 2 ^ (7 * i) * (x % 128).toNat := by
    have : x % 128 * 2 ^ (7 * i) = ((2 ^ (7 * i) * (x % 128).toNat : Nat) : Int) := by
      rw [Int.natCast_mul, Int.natCast_pow, Int.toNat_of_nonneg (by omega), Int.mul_comm]; rfl
    rw [this]; rfl
  have hnlt : n.toNat < 2 ^ (7 * i) := by
    have : (n.toNat : Int) < ((2 ^ (7 * i) : Nat) : Int) := by
      rw [Int.toNat_of_nonneg hn0, Int.natCast_pow]; exact hn
    omega
  rw [e1, Nat.or_comm, ← Nat.two_pow_add_eq_or_of_lt hnlt, Int.natCast_add, Int.natCast_mul, Int.natCast_pow, Int.toNat_of_nonneg (by omega), Int.toNat_of_nonneg hn0]
  have : ((2 : Nat) : Int) ^ (7 * i) = 2 ^ (7 * i) := rfl
  rw [this, Int.mul_comm]; omega

/-- what is told of a number's bytes, whatever stands behind -/
theorem tk_uB : ∀ (f i : Nat) (n acc : Int) (rest : List Int), i + f = 9 → 0 ≤ n → n < 2 ^ (64 - 7 * i) → (i = 0 ∨ n > 0) →
    tk (uB f n ++ rest) i acc = (acc + n * 2 ^ (7 * i), (i : Int) + (uB f n).length, 0) := by
  intro f
  induction f with
  | zero =>
    intro i n acc rest hi h0 h1 hz
    obtain rfl : i = 9 := by omega
    have hn : n < 2 := h1
    simp only [uB, List.singleton_append, tk]
    rw [if_neg (by omega), if_neg (by omega), if_neg (by omega)]
    rw [Int.emod_eq_of_lt h0 (by omega)]
    simp
  | succ f ih =>
    intro i n acc rest hi h0 h1 hz
    unfold uB
    by_cases h : n ≥ 128
    · rw [if_pos h]
      simp only [List.cons_append, tk]
      rw [if_neg (by omega), if_pos (by omega)]
      have e64 : 64 - 7 * i = 7 + (64 - 7 * (i + 1)) := by omega
      have hd : n / 128 < 2 ^ (64 - 7 * (i + 1)) := by
        rw [e64, Int.pow_add] at h1
        exact Int.ediv_lt_of_lt_mul (by decide) (by rw [Int.mul_comm]; exact h1)
      rw [ih (i + 1) (n / 128) _ rest (by omega) (by omega) hd (by omega)]
      have e1 : (n % 128 + 128) % 128 = n % 128 := by omega
      rw [e1, pow7]
      have e2 : n = n % 128 + 128 * (n / 128) := by omega
      have e3 : acc + n % 128 * 2 ^ (7 * i) + n / 128 * (2 ^ (7 * i) * 128) = acc + n * 2 ^ (7 * i) := by
        have : n * 2 ^ (7 * i) = n % 128 * 2 ^ (7 * i) + n / 128 * (2 ^ (7 * i) * 128) := by
          conv => lhs; rw [e2]
          rw [Int.add_mul, Int.mul_comm (2 ^ (7 * i)) 128, ← Int.mul_assoc, Int.mul_comm 128 (n / 128)]
        omega
      rw [e3]
      simp only [List.length_cons]
      congr 2
      omega
    · rw [if_neg h]
      simp only [List.singleton_append, tk]
      rw [if_neg (by omega), if_neg (by omega), if_neg (by omega), Int.emod_eq_of_lt h0 (by omega)]
      simp

/-- what is taken for a number are just its bytes -/
theorem tk_once : ∀ (l : List Int) (i : Nat) (acc v c : Int), Bs l → i ≤ 9 → tk l i acc = (v, c, 0) →
    ∃ (m : Int) (rest : List Int), l = uB (9 - i) m ++ rest ∧ v = acc + m * 2 ^ (7 * i) ∧ c = (i : Int) + (uB (9 - i) m).length ∧ 0 ≤ m ∧ m < 2 ^ (64 - 7 * i) ∧ (i > 0 → m > 0) := by
  intro l
  induction l with
  | nil => intro i acc v c _ _ h; simp [tk] at h
  | cons x xs ih =>
    intro i acc v c hb hi h
    have hx := hb x (by simp)
    unfold tk at h
    by_cases h1 : i = 9 ∧ x > 1
    · rw [if_pos h1] at h; simp at h
    · rw [if_neg h1] at h
      by_cases h2 : x ≥ 128
      · rw [if_pos h2] at h
        have hi' : i + 1 ≤ 9 := by omega
        obtain ⟨m, rest, hl, hv, hc, hm0, hm1, hmp⟩ := ih (i + 1) _ v c (fun y hy => hb y (by simp [hy])) hi' h
        have hmp := hmp (by omega)
        refine ⟨128 * m + x % 128, rest, ?_, ?_, ?_, by omega, ?_, by omega⟩
        · obtain ⟨f, hf⟩ : ∃ f, 9 - i = f + 1 := ⟨8 - i, by omega⟩
          rw [hf]
          unfold uB
          rw [if_pos (by omega)]
          have e1 : (128 * m + x % 128) % 128 + 128 = x := by omega
          have e2 : (128 * m + x % 128) / 128 = m := by omega
          rw [e1, e2, List.cons_append, hl, show f = 9 - (i + 1) from by omega]
        · rw [hv, pow7, Int.add_mul, Int.mul_comm (2 ^ (7 * i)) 128, ← Int.mul_assoc, Int.mul_comm m 128]
          omega
        · rw [hc]
          obtain ⟨f, hf⟩ : ∃ f, 9 - i = f + 1 := ⟨8 - i, by omega⟩
          rw [hf]
          conv => rhs; unfold uB
          rw [if_pos (by omega)]
          have e2 : (128 * m + x % 128) / 128 = m := by omega
          rw [e2, List.length_cons, show 9 - (i + 1) = f from by omega]
          omega
        · have e64 : 64 - 7 * i = 7 + (64 - 7 * (i + 1)) := by omega
          rw [e64, Int.pow_add]
          have : (2 : Int) ^ 7 = 128 := by decide
          rw [this]
          omega
      · rw [if_neg h2] at h
        by_cases h3 : x = 0 ∧ i > 0
        · rw [if_pos h3] at h; simp at h
        · rw [if_neg h3] at h
          simp only [Prod.mk.injEq] at h
          obtain ⟨hv, hc, _⟩ := h
          refine ⟨x, xs, ?_, ?_, ?_, by omega, ?_, by omega⟩
          · rw [uB_small _ _ (by omega)]; rfl
          · rw [← hv, Int.emod_eq_of_lt (by omega) (by omega)]
          · rw [uB_small _ _ (by omega), ← hc]; rfl
          · by_cases h9 : i = 9
            · subst h9
              show x < 2
              omega
            · have : (2 : Int) ^ 8 ≤ 2 ^ (64 - 7 * i) := pow2_le (by omega)
              have e : (2 : Int) ^ 8 = 256 := by decide
              omega

/-- cut short -/
theorem tk_cut : ∀ (f i : Nat) (n acc : Int) (m : Nat), i + f = 9 → 0 ≤ n → n < 2 ^ (64 - 7 * i) → m < (uB f n).length → tk ((uB f n).take m) i acc = (0, 0, 3) := by
  intro f
  induction f with
  | zero =>
    intro i n acc m hi h0 h1 hm
    simp [uB] at hm
    subst hm
    simp [tk]
  | succ f ih =>
    intro i n acc m hi h0 h1 hm
    cases m with
    | zero => simp [tk]
    | succ m =>
      unfold uB at hm ⊢
      by_cases h : n ≥ 128
      · rw [if_pos h] at hm ⊢
        simp only [List.take_succ_cons, tk]
        rw [if_neg (by omega), if_pos (by omega)]
        have e64 : 64 - 7 * i = 7 + (64 - 7 * (i + 1)) := by omega
        refine ih (i + 1) (n / 128) _ m (by omega) (by omega) ?_ (by simpa using hm)
        rw [e64, Int.pow_add] at h1
        exact Int.ediv_lt_of_lt_mul (by decide) (by rw [Int.mul_comm]; exact h1)
      · rw [if_neg h] at hm
        simp at hm
theorem tk_range : ∀ (l : List Int) (i : Nat) (acc : Int), Bs l → i ≤ 9 → 0 ≤ acc → acc < 2 ^ (7 * i) →
    0 ≤ (tk l i acc).1 ∧ (tk l i acc).1 < 18446744073709551616 ∧ 0 ≤ (tk l i acc).2.1 ∧ (tk l i acc).2.1 ≤ (i : Int) + l.length ∧ ((tk l i acc).2.2 ≠ 0 → (tk l i acc).1 = 0 ∧ (tk l i acc).2.1 = 0) ∧ ((tk l i acc).2.2 = 0 → (i : Int) < (tk l i acc).2.1) := by
  intro l
  induction l with
  | nil => intro i acc _ _ _ _; simp [tk] <;> omega
  | cons x xs ih =>
    intro i acc hb hi h0 h1
    have hx := hb x (by simp)
    unfold tk
    by_cases c1 : i = 9 ∧ x > 1
    · rw [if_pos c1]; simp; omega
    · rw [if_neg c1]
      obtain ⟨_, r1, r2⟩ := or_shl acc x i hi h0 h1 hx.1 hx.2 (by omega)
      have hnn : 0 ≤ x % 128 * 2 ^ (7 * i) := Int.mul_nonneg (by omega) (by have := pow7pos i; omega)
      by_cases c2 : x ≥ 128
      · rw [if_pos c2]
        have := ih (i + 1) (acc + x % 128 * 2 ^ (7 * i)) (fun y hy => hb y (by simp [hy])) (by omega) (by omega) (r2 (by omega))
        simp only [List.length_cons]
        refine ⟨this.1, this.2.1, this.2.2.1, by have := this.2.2.2.1; omega, this.2.2.2.2.1, fun h => by have := this.2.2.2.2.2 h; omega⟩
      · rw [if_neg c2]
        by_cases c3 : x = 0 ∧ i > 0
        · rw [if_pos c3]; simp; omega
        · rw [if_neg c3]
          simp only [List.length_cons]
          refine ⟨by omega, r1, by omega, by omega, by simp, by omega⟩
theorem pow64 : (2 : Int) ^ (64 - 7 * 0) = 18446744073709551616 := by decide +kernel
theorem pow128 : (128 : Int) ^ (9 + 1) = 1180591620717411303424 := by decide +kernel

/-! ### numbers that may be below 0 -/
def fold (n : Int) : Int := if n ≥ 0 then 2 * n else -2 * n - 1
def unfold' (u : Int) : Int := if u % 2 = 0 then u / 2 else -(u / 2) - 1
theorem fold_range {n : Int} (h0 : -9223372036854775808 ≤ n) (h1 : n ≤ 9223372036854775807) : 0 ≤ fold n ∧ fold n < 18446744073709551616 := by
  unfold fold; split <;> omega
theorem unfold_fold (n : Int) : unfold' (fold n) = n := by
  unfold unfold' fold
  split
  · rw [if_pos (by omega)]; omega
  · rw [if_neg (by omega)]; omega
theorem fold_unfold (u : Int) (h : 0 ≤ u) : fold (unfold' u) = u := by
  unfold unfold' fold
  split
  · rw [if_pos (by omega)]; omega
  · rw [if_neg (by omega)]; omega
theorem unfold_range {u : Int} (h0 : 0 ≤ u) (h1 : u < 18446744073709551616) : -9223372036854775808 ≤ unfold' u ∧ unfold' u ≤ 9223372036854775807 := by
  unfold unfold'; split <;> omega
theorem xor_all64 (a : Nat) (h : a < 18446744073709551616) : a ^^^ 18446744073709551615 = 18446744073709551615 - a := by
  have h1 : (BitVec.ofNat 64 a ^^^ BitVec.allOnes 64).toNat = a ^^^ 18446744073709551615 := by
    rw [BitVec.toNat_xor, BitVec.toNat_allOnes, BitVec.toNat_ofNat, Nat.mod_eq_of_lt h]
  have h2 : (BitVec.ofNat 64 a ^^^ BitVec.allOnes 64).toNat = 18446744073709551615 - a := by
    rw [BitVec.xor_allOnes, BitVec.toNat_not, BitVec.toNat_ofNat, Nat.mod_eq_of_lt h]
  omega
theorem xor_fold (n : Int) (h0 : -9223372036854775808 ≤ n) (h1 : n ≤ 9223372036854775807) :
    Go.bits .xor .u64 (IntKind.u64.wrap ((IntKind.u64.wrap n) * 2)) (IntKind.u64.wrap (n / 9223372036854775808)) = fold n := by
  rw [u64w, u64w, u64w]
  have hr : 0 ≤ (n % 18446744073709551616 * 2) % 18446744073709551616 ∧ (n % 18446744073709551616 * 2) % 18446744073709551616 < 18446744073709551616 := by omega
  by_cases h : n ≥ 0
  · have e : n / 9223372036854775808 = 0 := by omega
    rw [e]
    have e2 : (n % 18446744073709551616 * 2) % 18446744073709551616 = 2 * n := by omega
    rw [e2]
    obtain ⟨m, hm⟩ : ∃ m : Nat, 2 * n = m := ⟨(2 * n).toNat, by omega⟩
    rw [hm]
    have := bits_xor_u64_nat m 0 (by omega) (by omega)
    simp only [Int.ofNat_zero, Nat.xor_zero] at this
    rw [show ((0 : Int) % 18446744073709551616) = ((0 : Nat) : Int) from rfl]
    have := bits_xor_u64_nat m 0 (by omega) (by omega)
    rw [this, Nat.xor_zero]
    unfold fold; rw [if_pos h, hm]
  · have e : n / 9223372036854775808 = -1 := by omega
    rw [e]
    obtain ⟨m, hm⟩ : ∃ m : Nat, (n % 18446744073709551616 * 2) % 18446744073709551616 = m := ⟨_, (Int.toNat_of_nonneg hr.1).symm⟩
    rw [hm]
    rw [show ((-1 : Int) % 18446744073709551616) = ((18446744073709551615 : Nat) : Int) from rfl]
    rw [bits_xor_u64_nat m 18446744073709551615 (by omega) (by omega), xor_all64 m (by omega)]
    unfold fold; rw [if_neg h]
    omega
theorem xor_unfold (u : Int) (h0 : 0 ≤ u) (h1 : u < 18446744073709551616) :
    Go.bits .xor .i64 (wrap64 (u / 2)) (wrap64 (-(wrap64 (Go.bits .and .u64 u 1)))) = unfold' u := by
  rw [u64_and u 1 h0 h1 (by decide) (by decide), show (1 : Int).toNat = 1 from rfl, nat_mask1]
  rw [w64_id (x := u / 2) (by omega) (by omega)]
  have e0 : ((u.toNat % 2 : Nat) : Int) = u % 2 := by omega
  rw [e0, w64_id (x := u % 2) (by omega) (by omega), w64_id (x := -(u % 2)) (by omega) (by omega)]
  obtain ⟨m, hm⟩ : ∃ m : Nat, u / 2 = m := ⟨_, (Int.toNat_of_nonneg (by omega)).symm⟩
  unfold unfold'
  rw [hm]
  show IntKind.i64.wrap ((BitVec.ofInt 64 (m : Int) ^^^ BitVec.ofInt 64 (-(u % 2))).toNat : Int) = _
  by_cases h : u % 2 = 0
  · rw [if_pos h, h]
    have : BitVec.ofInt 64 (-0) = 0#64 := by decide
    rw [this, BitVec.xor_zero, ofInt_u64 m (by omega), IntKind.wrap_i64]
    omega
  · rw [if_neg h, show u % 2 = 1 from by omega]
    have : BitVec.ofInt 64 (-1) = BitVec.allOnes 64 := by decide
    rw [this, BitVec.xor_allOnes, BitVec.toNat_not, ofInt_u64 m (by omega), IntKind.wrap_i64]
    omega
end Go.Proofs.Ytmgljgmieomngaa.Oct
namespace Go.Proofs.Ytmgljgmieomngaa.Oct
open Go Go.RowKit Go.Proofs.YtmgljgmieomngaaW.PrintWords Go.Proofs.YtmgljgmieomngaaW.PrintMore Go.Proofs.Ytmgljgmieomngaa.Q
set_option linter.unusedVariables false

theorem wf_u64 {n : Int} (h : (Lit.int .u64 n).wf = true) : 0 ≤ n ∧ n < 18446744073709551616 := by
  simp [Lit.wf, IntKind.min, IntKind.max, IntKind.signed, IntKind.bits] at h
  omega
theorem wf_i64 {n : Int} (h : (Lit.int .i64 n).wf = true) : -9223372036854775808 ≤ n ∧ n ≤ 9223372036854775807 := by
  simp [Lit.wf, IntKind.min, IntKind.max, IntKind.signed, IntKind.bits] at h
  omega
end Go.Proofs.Ytmgljgmieomngaa.Oct
namespace Go.Proofs.Ytmgljgmieomngaa.Oct
open Go Go.RowKit Go.Proofs.YtmgljgmieomngaaW.PrintWords Go.Proofs.YtmgljgmieomngaaW.PrintMore Go.Proofs.Ytmgljgmieomngaa.Q
set_option linter.unusedVariables false

theorem rd_drop {b : List Int} {p : Nat} {x : Int} {xs : List Int} (h : b.drop p = x :: xs) {j : Int} (hj : j = p) : rd b j = x := by
  subst hj
  unfold rd
  rw [Int.toNat_natCast, List.getD_eq_getElem?_getD]
  have : (b.drop p)[0]? = some x := by rw [h]; rfl
  rw [List.getElem?_drop] at this
  simp at this
  simp [this]
theorem drop_succ {b : List Int} {p : Nat} {x : Int} {xs : List Int} (h : b.drop p = x :: xs) : b.drop (p + 1) = xs := by
  rw [← List.drop_drop, h]; rfl
theorem drop_lt {b : List Int} {p : Nat} {x : Int} {xs : List Int} (h : b.drop p = x :: xs) : p < b.length := by
  rcases Nat.lt_or_ge p b.length with h' | h'
  · exact h'
  · rw [List.drop_of_length_le h'] at h; cases h

theorem TU_range (b : List Int) (hb : Bs b) (p : Int) : 0 ≤ (TU b p).1 ∧ (TU b p).1 < 18446744073709551616 ∧ 0 ≤ (TU b p).2.1 ∧ (TU b p).2.1 ≤ b.length ∧ ((TU b p).2.2 ≠ 0 → (TU b p).1 = 0 ∧ (TU b p).2.1 = 0) ∧ ((TU b p).2.2 = 0 → 0 ≤ p ∧ p < (TU b p).2.1) := by
  unfold TU
  by_cases h : p < 0 ∨ p > (b.length : Int)
  · rw [if_pos h]; simp
  · rw [if_neg h]
    obtain ⟨r1, r2, r3, r4, r5, r6⟩ := tk_range (b.drop p.toNat) 0 0 (hb.drop _) (by omega) (by omega) (by decide)
    rw [List.length_drop] at r4
    unfold fin
    generalize tk (b.drop p.toNat) 0 0 = t at *
    by_cases e : t.2.2 = 0
    · rw [if_pos e]
      have := r6 e
      dsimp only
      refine ⟨r1, r2, by omega, by omega, fun h => absurd e h, fun _ => by omega⟩
    · rw [if_neg e]
      dsimp only
      refine ⟨r1, r2, by omega, by omega, fun h => ⟨(r5 h).1, rfl⟩, fun h => absurd h e⟩
end Go.Proofs.Ytmgljgmieomngaa.Oct
namespace Go.Proofs.Ytmgljgmieomngaa.Oct
open Go Go.RowKit Go.Proofs.YtmgljgmieomngaaW.PrintWords Go.Proofs.YtmgljgmieomngaaW.PrintMore Go.Proofs.Ytmgljgmieomngaa.Q
set_option linter.unusedVariables false

/-- the number that may be below 0 at a place -/
def TI (b : List Int) (p : Int) : Int × Int × Int := (unfold' (TU b p).1, (TU b p).2.1, (TU b p).2.2)

end Go.Proofs.Ytmgljgmieomngaa.Oct
namespace Go.Proofs.Ytmgljgmieomngaa.Oct
open Go Go.RowKit Go.Proofs.YtmgljgmieomngaaW.PrintWords Go.Proofs.YtmgljgmieomngaaW.PrintMore Go.Proofs.Ytmgljgmieomngaa.Q
set_option linter.unusedVariables false

/-- as many bytes as the number at a place says -/
def PT (b : List Int) (p most : Int) : List Int × Int × Int :=
  if (TU b p).2.2 = 0 then
    if (TU b p).1 > most then ([], 0, 6)
    else if (TU b p).1 > (b.length : Int) - (TU b p).2.1 then ([], 0, 3)
    else ((b.drop (TU b p).2.1.toNat).take (TU b p).1.toNat, (TU b p).2.1 + (TU b p).1, 0)
  else ([], 0, (TU b p).2.2)
def TX (s : ByteArray) : List Int × Int := if (s.size : Int) > 200 then ([], 6) else (uB 9 s.size ++ bytesOf s, 0)

theorem str_bytes (s : ByteArray) : strOfNums (bytesOf s) = s := by
  cases s with
  | mk d =>
    unfold strOfNums bytesOf
    congr 1
    simp only [List.map_map]
    have : (fun n : Int => UInt8.ofNat n.toNat) ∘ (fun b : UInt8 => (b.toNat : Int)) = id := by
      funext b
      simp
    rw [this]
    simp
theorem bytesOf_bs (s : ByteArray) : Bs (bytesOf s) := by
  intro x hx
  unfold bytesOf at hx
  obtain ⟨b, _, rfl⟩ := List.mem_map.mp hx
  have := b.toNat_lt
  omega
/-- bytes that are put behind their length are taken as they were -/
theorem PT_back (l : List Int) (most : Int) (hl : (l.length : Int) ≤ most) (hm : most ≤ 140737488355328) (a c : List Int) :
    PT (a ++ (uB 9 l.length ++ l) ++ c) a.length most = (l, (a.length : Int) + (uB 9 l.length ++ l).length, 0) := by
  have hT : TU (a ++ (uB 9 l.length ++ l) ++ c) a.length = ((l.length : Int), (a.length : Int) + (uB 9 l.length).length, 0) := by
    unfold TU
    rw [if_neg (by simp; omega), Int.toNat_natCast, List.append_assoc, List.drop_left, List.append_assoc, tk_uB 9 0 _ 0 (l ++ c) (by decide) (by omega) (by rw [pow64]; omega) (.inl rfl)]
    simp [fin]
  unfold PT
  rw [hT]
  simp only [if_true]
  rw [if_neg (by omega), if_neg (by simp; omega)]
  congr 1
  · rw [show ((a.length : Int) + (uB 9 l.length).length).toNat = (a ++ uB 9 l.length).length from by simp; omega]
    rw [show a ++ (uB 9 l.length ++ l) ++ c = (a ++ uB 9 l.length) ++ (l ++ c) from by simp, List.drop_left, Int.toNat_natCast, List.take_left]
  · congr 1
    simp
    omega
end Go.Proofs.Ytmgljgmieomngaa.Oct
namespace Go.Proofs.Ytmgljgmieomngaa.Oct
open Go Go.RowKit Go.Proofs.YtmgljgmieomngaaW.PrintWords
set_option linter.unusedVariables false
theorem order_self (w : Nat) (h : ((FloatKind.f64.format.read w).isNaN) = false) : FloatKind.f64.format.order w w = some .eq := by
  unfold Ieee.Format.order
  generalize FloatKind.f64.format.read w = d at *
  cases d with
  | number s m e => simp [Ieee.Datum.order]
  | infinity s => simp [Ieee.Datum.order]
  | nan s f => simp [Ieee.Datum.isNaN] at h
theorem fmt_sw : FloatKind.f64.format.signWeight = 9223372036854775808 := by decide +kernel
theorem fmt_bin : FloatKind.f64.format.binade = 4503599627370496 := by decide +kernel
theorem fmt_inf : FloatKind.f64.format.infRung = 9218868437227405312 := by decide +kernel
theorem fmt_lp : FloatKind.f64.format.leastPlace = -1074 := by decide +kernel
theorem read_word (neg : Bool) (rung : Nat) (h : rung ≤ 9218868437227405312) : ((FloatKind.f64.format.read (FloatKind.f64.format.word neg rung)).isNaN) = false := by
  unfold Ieee.Format.read Ieee.Format.word
  rw [fmt_sw, fmt_bin, fmt_inf]
  have e : (if neg = true then 9223372036854775808 + rung else rung) % 9223372036854775808 = rung := by split <;> omega
  simp only [e]
  split
  · rfl
  · split
    · rfl
    · rw [if_pos (by omega)]; rfl
theorem float_self (n : Int) : FloatKind.f64.format.order (floatOfInt .f64 n) (floatOfInt .f64 n) = some .eq := by
  apply order_self
  unfold floatOfInt FloatKind.nearest FloatKind.encode Ieee.Format.write Ieee.Format.nearest
  simp only
  split
  · exact read_word _ _ (by omega)
  · refine read_word _ _ ?_
    rw [fmt_inf]
    exact Nat.min_le_right _ _
end Go.Proofs.Ytmgljgmieomngaa.Oct
namespace Go.Proofs.Ytmgljgmieomngaa.Oct
open Go Go.RowKit Go.Proofs.YtmgljgmieomngaaW.PrintWords Go.Proofs.YtmgljgmieomngaaW.PrintMore Go.Proofs.Ytmgljgmieomngaa.Q
set_option linter.unusedVariables false
abbrev T7 := Int × Int × ByteArray × Bool × Cx × Int × Int
def Z7 (e : Int) : T7 := (0, 0, (⟨#[]⟩ : ByteArray), false, (⟨0, 0⟩ : Cx), 0, e)
/-- a point's part -/
def SD (b : List Int) (p : Int) : Int × Int × Int :=
  if (TI b p).2.2 = 0 then if (TI b p).1 < -1048576 ∨ (TI b p).1 > 1048576 then (0, 0, 6) else TI b p else (0, 0, (TI b p).2.2)
/-- the value at a place -/
def VT (b : List Int) (p : Int) : T7 :=
  if p < 0 ∨ p > (b.length : Int) then Z7 2
  else if p = (b.length : Int) then Z7 3
  else if rd b p = 1 then (if (TI b (p + 1)).2.2 = 0 then (1, (TI b (p + 1)).1, (⟨#[]⟩ : ByteArray), false, (⟨0, 0⟩ : Cx), (TI b (p + 1)).2.1, 0) else Z7 (TI b (p + 1)).2.2)
  else if rd b p = 2 then (if (PT b (p + 1) 200).2.2 = 0 then (2, 0, strOfNums (PT b (p + 1) 200).1, false, (⟨0, 0⟩ : Cx), (PT b (p + 1) 200).2.1, 0) else Z7 (PT b (p + 1) 200).2.2)
  else if rd b p = 3 then (if p + 1 = (b.length : Int) then Z7 3 else if rd b (p + 1) > 1 then Z7 4 else (3, 0, (⟨#[]⟩ : ByteArray), rd b (p + 1) == 1, (⟨0, 0⟩ : Cx), p + 2, 0))
  else if rd b p = 4 then (if (SD b (p + 1)).2.2 = 0 then
      (if (SD b (SD b (p + 1)).2.1).2.2 = 0 then (4, 0, (⟨#[]⟩ : ByteArray), false, (⟨floatOfInt .f64 (SD b (p + 1)).1, floatOfInt .f64 (SD b (SD b (p + 1)).2.1).1⟩ : Cx), (SD b (SD b (p + 1)).2.1).2.1, 0) else Z7 (SD b (SD b (p + 1)).2.1).2.2)
    else Z7 (SD b (p + 1)).2.2)
  else Z7 12
theorem rd_range (b : List Int) (hb : Bs b) (p : Int) (h0 : 0 ≤ p) (h1 : p < b.length) : 0 ≤ rd b p ∧ rd b p ≤ 255 := by
  obtain ⟨n, rfl⟩ : ∃ n : Nat, p = n := ⟨_, (Int.toNat_of_nonneg h0).symm⟩
  have hn : n < b.length := by omega
  have : rd b (n : Int) = b[n] := by unfold rd; rw [Int.toNat_natCast]; simp [List.getD_eq_getElem?_getD, hn]
  rw [this]
  exact hb _ (List.getElem_mem hn)
theorem SD_bad {b : List Int} {p : Int} (h : (TI b p).2.2 = 0) (h1 : (TI b p).1 < -1048576 ∨ (TI b p).1 > 1048576) : SD b p = (0, 0, 6) := by unfold SD; rw [if_pos h, if_pos h1]
theorem SD_ok {b : List Int} {p : Int} (h : (TI b p).2.2 = 0) (h1 : ¬ ((TI b p).1 < -1048576 ∨ (TI b p).1 > 1048576)) : SD b p = TI b p := by unfold SD; rw [if_pos h, if_neg h1]
theorem SD_err {b : List Int} {p : Int} (h : (TI b p).2.2 ≠ 0) : SD b p = (0, 0, (TI b p).2.2) := by unfold SD; rw [if_neg h]
theorem VT_cx (b : List Int) (p : Int) : FloatKind.f64.format.order (VT b p).2.2.2.2.1.re (VT b p).2.2.2.2.1.re = some .eq ∧ FloatKind.f64.format.order (VT b p).2.2.2.2.1.im (VT b p).2.2.2.2.1.im = some .eq := by
  have z : FloatKind.f64.format.order 0 0 = some .eq := by decide +kernel
  unfold VT
  repeat' split
  all_goals first | exact ⟨z, z⟩ | exact ⟨float_self _, float_self _⟩
end Go.Proofs.Ytmgljgmieomngaa.Oct
namespace Go.Proofs.Ytmgljgmieomngaa.Oct
open Go Go.RowKit Go.Proofs.YtmgljgmieomngaaW.PrintWords
set_option linter.unusedVariables false
theorem cut_even_one (neg : Bool) (n : Nat) : Ieee.Toward.even.cut neg n 0 = n := by
  unfold Ieee.Toward.cut
  simp [Nat.mod_one]
theorem cut_zero_pow (neg : Bool) (m d : Nat) : Ieee.Toward.zero.cut neg (m * 2 ^ d) d = m := by
  unfold Ieee.Toward.cut
  simp only [Bool.toNat_false, Nat.add_zero, Nat.shiftLeft_eq, Nat.one_mul]
  by_cases hm : m = 0
  · subst hm; simp
  · have h : d ≤ (m * 2 ^ d).log2 := by
      rw [Nat.le_log2 (Nat.mul_ne_zero hm (Nat.pos_iff_ne_zero.mp (Nat.pow_pos (by decide))))]
      exact Nat.le_mul_of_pos_left _ (by omega)
    rw [Nat.min_eq_left (by omega)]
    exact Nat.mul_div_cancel _ (Nat.pow_pos (by decide))
/-- what a whole number's float stands for -/
theorem read_float (n : Int) (h0 : -1048576 ≤ n) (h1 : n ≤ 1048576) :
    ∃ d : Nat, FloatKind.f64.format.read (floatOfInt .f64 n) = .number (decide (n < 0)) (n.natAbs * 2 ^ d) (-(d : Int)) := by
  unfold floatOfInt FloatKind.nearest FloatKind.encode Ieee.Format.write
  simp only
  by_cases hz : n = 0
  · subst hz
    exact ⟨1074, by decide +kernel⟩
  · have hm : n.natAbs ≠ 0 := by omega
    have hm2 : n.natAbs ≤ 1048576 := by omega
    generalize n.natAbs = m at hm hm2
    generalize decide (n < 0) = neg
    have hL : m.log2 ≤ 20 := by
      have : ¬ 21 ≤ m.log2 := by rw [Nat.le_log2 hm]; omega
      omega
    have hlo : 2 ^ m.log2 ≤ m := by have := (Nat.le_log2 hm (k := m.log2)).1 (Nat.le_refl _); exact this
    have hhi : m < 2 ^ (m.log2 + 1) := Nat.lt_log2_self
    refine ⟨52 - m.log2, ?_⟩
    unfold Ieee.Format.nearest
    rw [if_neg hm]
    generalize m.log2 = L at *
    have hfb : FloatKind.f64.format.fractionBits = 52 := rfl
    simp only [fmt_lp, hfb]
    rw [show max ((0 : Int) + (L : Int) - ((52 : Nat) : Int)) (-1074) = (L : Int) - 52 by omega]
    rw [show ((0 : Int) - ((L : Int) - 52)).toNat = 52 - L by omega, show ((L : Int) - 52 - 0).toNat = 0 by omega, cut_even_one, Nat.shiftLeft_eq]
    rw [show ((L : Int) - 52 - -1074).toNat = L + 1022 by omega, fmt_bin, fmt_inf]
    have k1 : 2 ^ L * 2 ^ (52 - L) = 4503599627370496 := by rw [← Nat.pow_add, show L + (52 - L) = 52 by omega]
    have k2 : 2 ^ (L + 1) * 2 ^ (52 - L) = 9007199254740992 := by rw [← Nat.pow_add, show L + 1 + (52 - L) = 53 by omega]
    have hlo' : 4503599627370496 ≤ m * 2 ^ (52 - L) := by rw [← k1]; exact Nat.mul_le_mul_right _ hlo
    have hhi' : m * 2 ^ (52 - L) < 9007199254740992 := by rw [← k2]; exact Nat.mul_lt_mul_of_pos_right hhi (Nat.pow_pos (by decide))
    generalize m * 2 ^ (52 - L) = K at *
    rw [Nat.min_eq_left (by omega)]
    unfold Ieee.Format.read Ieee.Format.word
    rw [fmt_sw, fmt_bin, fmt_inf, fmt_lp]
    have hr : (L + 1022) * 4503599627370496 + K < 9218868437227405312 := by omega
    obtain ⟨R, hR⟩ : ∃ R, R = (L + 1022) * 4503599627370496 + K := ⟨_, rfl⟩
    rw [← hR] at hr ⊢
    have e : (if neg = true then 9223372036854775808 + R else R) % 9223372036854775808 = R := by split <;> omega
    have e2 : ((if neg = true then 9223372036854775808 + R else R) / 9223372036854775808 % 2 == 1) = neg := by
      cases neg
      · simp; omega
      · simp; omega
    simp only [e, e2]
    rw [if_neg (by omega), if_pos hr]
    congr 1
    · omega
    · omega
theorem signed_pow (n : Int) (d e : Nat) : Ieee.signed (decide (n < 0)) (n.natAbs * 2 ^ d) e = n * 2 ^ (d + e) := by
  unfold Ieee.signed
  rw [Nat.shiftLeft_eq, Nat.mul_assoc, ← Nat.pow_add]
  have : ((n.natAbs * 2 ^ (d + e) : Nat) : Int) = (n.natAbs : Int) * 2 ^ (d + e) := by simp
  rw [this]
  by_cases h : n < 0
  · rw [if_pos (by simp [h]), show (n.natAbs : Int) = -n by omega, Int.neg_mul, Int.neg_neg]
  · rw [if_neg (by simp [h]), show (n.natAbs : Int) = n by omega]
theorem compare_scale (a b c : Int) (hc : 0 < c) : compare (a * c) (b * c) = compare a b := by
  have h1 : a * c < b * c ↔ a < b := Int.mul_lt_mul_right hc
  have h2 : a * c = b * c ↔ a = b := ⟨fun h => Int.eq_of_mul_eq_mul_right (by omega) h, fun h => by rw [h]⟩
  simp only [compare, compareOfLessAndEq, h1, h2]
theorem order_float (a b : Int) (ha0 : -1048576 ≤ a) (ha1 : a ≤ 1048576) (hb0 : -1048576 ≤ b) (hb1 : b ≤ 1048576) :
    FloatKind.f64.format.order (floatOfInt .f64 a) (floatOfInt .f64 b) = some (compare a b) := by
  obtain ⟨d, hd⟩ := read_float a ha0 ha1
  obtain ⟨e, he⟩ := read_float b hb0 hb1
  unfold Ieee.Format.order
  rw [hd, he]
  unfold Ieee.Datum.order
  simp only
  rw [signed_pow, signed_pow]
  by_cases h : d ≤ e
  · rw [show d + (-(d : Int) - min (-(d : Int)) (-(e : Int))).toNat = e by omega, show e + (-(e : Int) - min (-(d : Int)) (-(e : Int))).toNat = e by omega, compare_scale _ _ _ (Int.pow_pos (by decide))]
  · rw [show d + (-(d : Int) - min (-(d : Int)) (-(e : Int))).toNat = d by omega, show e + (-(e : Int) - min (-(d : Int)) (-(e : Int))).toNat = d by omega, compare_scale _ _ _ (Int.pow_pos (by decide))]
theorem toInt_float (n : Int) (h0 : -1048576 ≤ n) (h1 : n ≤ 1048576) : floatToIntVal .f64 (floatOfInt .f64 n) .i64 = some n := by
  obtain ⟨d, hd⟩ := read_float n h0 h1
  unfold floatToIntVal FloatKind.decode
  rw [hd]
  unfold Ieee.Datum.toInt Ieee.Datum.integral
  simp only [Int.neg_neg, Int.toNat_natCast]
  rw [show (-(d : Int)).toNat = 0 by omega, Nat.shiftLeft_zero, cut_zero_pow]
  have := signed_pow n 0 0
  simp only [Nat.pow_zero, Nat.mul_one, Nat.add_zero, Int.pow_zero, Int.mul_one] at this
  rw [this]
  show (if _ then _ else _) = _
  rw [if_pos]
  simp [IntKind.min, IntKind.max, IntKind.signed, IntKind.bits]
  omega
theorem fok_float (n : Int) (h0 : -1048576 ≤ n) (h1 : n ≤ 1048576) : fok (floatOfInt .f64 n) = true := by unfold fok; rw [toInt_float n h0 h1]; rfl
theorem ftoi_float (n : Int) (h0 : -1048576 ≤ n) (h1 : n ≤ 1048576) : ftoi (floatOfInt .f64 n) = n := by unfold ftoi; rw [toInt_float n h0 h1]; rfl
theorem bits_low : (13920626448202203136 : Nat) = floatOfInt .f64 (-1048576) := by decide +kernel
theorem bits_high : (4697254411347427328 : Nat) = floatOfInt .f64 1048576 := by decide +kernel
theorem compare_eq (n : Int) : compare n n = .eq := by simp [compare, compareOfLessAndEq]
theorem compare_lt_iff (a b : Int) : compare a b = .lt ↔ a < b := by
  simp only [compare, compareOfLessAndEq]
  by_cases h : a < b
  · simp [h]
  · by_cases h2 : a = b <;> simp [h, h2]
theorem compare_gt_iff (a b : Int) : compare a b = .gt ↔ b < a := by
  simp only [compare, compareOfLessAndEq]
  by_cases h : a < b
  · simp [h]; omega
  · by_cases h2 : a = b
    · simp [h2]
    · simp [h, h2]; omega
end Go.Proofs.Ytmgljgmieomngaa.Oct
namespace Go.Proofs.Ytmgljgmieomngaa.Oct
open Go Go.RowKit Go.Proofs.YtmgljgmieomngaaW.PrintWords Go.Proofs.YtmgljgmieomngaaW.PrintMore Go.Proofs.Ytmgljgmieomngaa.Q
set_option linter.unusedVariables false
theorem TU_once (b : List Int) (hb : Bs b) (p : Int) (h : (TU b p).2.2 = 0) : uB 9 (TU b p).1 = (b.take (TU b p).2.1.toNat).drop p.toNat := by
  unfold TU at *
  by_cases h1 : p < 0 ∨ p > (b.length : Int)
  · rw [if_pos h1] at h; simp at h
  · rw [if_neg h1] at h ⊢
    obtain ⟨v, c, e, hr⟩ : ∃ v c e, tk (b.drop p.toNat) 0 0 = (v, c, e) := ⟨_, _, _, rfl⟩
    rw [hr] at h ⊢
    simp only [fin] at h ⊢
    subst h
    obtain ⟨m, rest, e1, e2, e3, _, _, _⟩ := tk_once _ 0 0 v c (hb.drop _) (by omega) hr
    simp only [if_true]
    have e4 : v = m := by rw [e2]; simp
    rw [e4, List.drop_take, e1, show (p + c).toNat - p.toNat = (uB 9 m).length from by rw [e3]; simp; omega]
    simp
theorem TU_cut (n : Int) (h0 : 0 ≤ n) (h1 : n < 18446744073709551616) (a : List Int) (m : Nat) (hm : m < (uB 9 n).length) (q : Int) (hq : q = a.length) : TU (a ++ (uB 9 n).take m) q = (0, 0, 3) := by
  subst hq
  unfold TU
  rw [if_neg (by simp; omega), Int.toNat_natCast, List.drop_left, tk_cut 9 0 _ 0 m (by decide) (by omega) (by rw [pow64]; omega) hm]
  simp [fin]
theorem TU_at (n : Int) (h0 : 0 ≤ n) (h1 : n < 18446744073709551616) (a c : List Int) (q : Int) (hq : q = a.length) : TU (a ++ (uB 9 n ++ c)) q = (n, q + (uB 9 n).length, 0) := by
  subst hq
  unfold TU
  rw [if_neg (by simp; omega), Int.toNat_natCast, List.drop_left, tk_uB 9 0 _ 0 c (by decide) (by omega) (by rw [pow64]; omega) (.inl rfl)]
  simp [fin]
theorem PT_at (l : List Int) (most : Int) (hl : (l.length : Int) ≤ most) (hm : most ≤ 140737488355328) (a c : List Int) (q : Int) (hq : q = a.length) :
    PT (a ++ (uB 9 l.length ++ l ++ c)) q most = (l, q + (uB 9 l.length ++ l).length, 0) := by
  subst hq
  have := PT_back l most hl hm a c
  rwa [List.append_assoc] at this
theorem PT_cut (l : List Int) (most : Int) (hl : (l.length : Int) ≤ most) (hm : most ≤ 140737488355328) (a : List Int) (m : Nat) (hc : m < (uB 9 l.length ++ l).length) (q : Int) (hq : q = a.length) :
    PT (a ++ (uB 9 l.length ++ l).take m) q most = ([], 0, 3) := by
  rw [List.length_append] at hc
  unfold PT
  by_cases h : m < (uB 9 l.length).length
  · rw [List.take_append, show m - (uB 9 (l.length : Int)).length = 0 from by omega, List.take_zero, List.append_nil, TU_cut _ (by omega) (by omega) a m h q hq]
    simp
  · rw [List.take_append, List.take_of_length_le (by omega)]
    rw [TU_at _ (by omega) (by omega) a _ q hq]
    subst hq
    simp only [if_true]
    rw [if_neg (by omega), if_pos (by simp; omega)]
theorem split_at {b : List Int} {p n : Nat} (h : p ≤ n) (h2 : n ≤ b.length) : b = b.take p ++ ((b.take n).drop p ++ b.drop n) := by
  conv => lhs; rw [← List.take_append_drop n b]
  rw [← List.append_assoc]
  congr 1
  conv => lhs; rw [← List.take_append_drop p (b.take n)]
  rw [List.take_take, Nat.min_eq_left h]
theorem TU_word (b : List Int) (hb : Bs b) (p : Int) (h : (TU b p).2.2 = 0) : 0 ≤ p ∧ p ≤ b.length ∧ ∃ c, b = b.take p.toNat ++ (uB 9 (TU b p).1 ++ c) ∧ (TU b p).2.1 = p + (uB 9 (TU b p).1).length := by
  obtain ⟨r1, r2, r3, r4, _, r6⟩ := TU_range b hb p
  obtain ⟨r6, r7⟩ := r6 h
  have o := TU_once b hb p h
  refine ⟨r6, by omega, b.drop (TU b p).2.1.toNat, ?_, ?_⟩
  · rw [o]; exact split_at (by omega) (by omega)
  · rw [o, List.length_drop, List.length_take]; omega
theorem PT_word (b : List Int) (hb : Bs b) (p most : Int) (h : (PT b p most).2.2 = 0) :
    0 ≤ p ∧ p ≤ b.length ∧ ∃ c, b = b.take p.toNat ++ (uB 9 (PT b p most).1.length ++ (PT b p most).1 ++ c) ∧ (PT b p most).2.1 = p + (uB 9 (PT b p most).1.length ++ (PT b p most).1).length ∧ ((PT b p most).1.length : Int) ≤ most := by
  unfold PT at *
  by_cases e : (TU b p).2.2 = 0
  · obtain ⟨r1, r2, r3, r4, _, r6⟩ := TU_range b hb p
    obtain ⟨k0, k1, c, k2, k3⟩ := TU_word b hb p e
    rw [if_pos e] at h ⊢
    by_cases e1 : (TU b p).1 > most
    · rw [if_pos e1] at h; simp at h
    · rw [if_neg e1] at h ⊢
      by_cases e2 : (TU b p).1 > (b.length : Int) - (TU b p).2.1
      · rw [if_pos e2] at h; simp at h
      · rw [if_neg e2] at h ⊢
        refine ⟨k0, k1, b.drop ((TU b p).2.1.toNat + (TU b p).1.toNat), ?_, ?_, ?_⟩
        · have hl : (((b.drop (TU b p).2.1.toNat).take (TU b p).1.toNat).length : Int) = (TU b p).1 := by rw [List.length_take, List.length_drop]; omega
          simp only [hl]
          have hc : c = b.drop (TU b p).2.1.toNat := by
            have := congrArg (List.drop (TU b p).2.1.toNat) k2
            rw [this, ← List.append_assoc, List.drop_append, List.drop_of_length_le (by simp; omega)]
            rw [show (TU b p).2.1.toNat - (b.take p.toNat ++ uB 9 (TU b p).1).length = 0 by simp; omega]
            rfl
          rw [List.append_assoc, ← List.drop_drop, List.take_append_drop, ← hc]
          exact k2
        · have hl : ((b.drop (TU b p).2.1.toNat).take (TU b p).1.toNat).length = (TU b p).1.toNat := by rw [List.length_take, List.length_drop]; omega
          simp only [hl, List.length_append]
          rw [show (((TU b p).1.toNat : Nat) : Int) = (TU b p).1 by omega]
          omega
        · rw [List.length_take, List.length_drop]; omega
  · rw [if_neg e] at h; exact absurd h e
theorem rd_at (a : List Int) (x : Int) (t : List Int) (q : Int) (hq : q = a.length) : rd (a ++ (x :: t)) q = x := by
  subst hq
  unfold rd
  rw [Int.toNat_natCast]
  simp [List.getD_eq_getElem?_getD]
theorem cons_at {b : List Int} {p : Int} (h0 : 0 ≤ p) (h1 : p < b.length) : b = b.take p.toNat ++ (rd b p :: b.drop (p + 1).toNat) := by
  have h : p.toNat < b.length := by omega
  conv => lhs; rw [← List.take_append_drop p.toNat b]
  congr 1
  rw [List.drop_eq_getElem_cons h, show (p + 1).toNat = p.toNat + 1 by omega]
  congr 1
  unfold rd
  simp [List.getD_eq_getElem?_getD, h]
theorem take_succ_at {b : List Int} {p : Int} (h0 : 0 ≤ p) (h1 : p < b.length) : b.take (p + 1).toNat = b.take p.toNat ++ [rd b p] := by
  have h : p.toNat < b.length := by omega
  rw [show (p + 1).toNat = p.toNat + 1 by omega, List.take_add_one, List.getElem?_eq_getElem h]
  congr 1
  simp [rd, List.getD_eq_getElem?_getD, h]
/-- a right value without idle fields, and its bytes -/
inductive VC : Int → Int → ByteArray → Bool → Cx → List Int → Prop
  | whole (n : Int) (h0 : -9223372036854775808 ≤ n) (h1 : n ≤ 9223372036854775807) : VC 1 n (⟨#[]⟩ : ByteArray) false ⟨0, 0⟩ (1 :: uB 9 (fold n))
  | words (s : ByteArray) (l : List Int) (hl : l = bytesOf s) (h : (l.length : Int) ≤ 200) : VC 2 0 s false ⟨0, 0⟩ (2 :: (uB 9 l.length ++ l))
  | truth (x : Int) (t : Bool) (h : x = if t = true then 1 else 0) : VC 3 0 (⟨#[]⟩ : ByteArray) t ⟨0, 0⟩ [3, x]
  | point (x y : Int) (h0 : -1048576 ≤ x) (h1 : x ≤ 1048576) (h2 : -1048576 ≤ y) (h3 : y ≤ 1048576) : VC 4 0 (⟨#[]⟩ : ByteArray) false ⟨floatOfInt .f64 x, floatOfInt .f64 y⟩ (4 :: (uB 9 (fold x) ++ uB 9 (fold y)))
theorem bytes_str (l : List Int) (h : Bs l) : bytesOf (strOfNums l) = l := by
  unfold bytesOf strOfNums
  simp only [List.map_map]
  conv => rhs; rw [← List.map_id l]
  apply List.map_congr_left
  intro x hx
  have := h x hx
  simp
  omega
theorem PT_bs (b : List Int) (hb : Bs b) (p most : Int) : Bs (PT b p most).1 := by
  unfold PT
  split
  · split
    · exact Bs.nil
    · split
      · exact Bs.nil
      · exact (hb.drop _).take _
  · exact Bs.nil
theorem TI_word (b : List Int) (hb : Bs b) (p : Int) (h : (TI b p).2.2 = 0) :
    0 ≤ p ∧ p ≤ b.length ∧ -9223372036854775808 ≤ (TI b p).1 ∧ (TI b p).1 ≤ 9223372036854775807 ∧ ∃ c, b = b.take p.toNat ++ (uB 9 (fold (TI b p).1) ++ c) ∧ (TI b p).2.1 = p + (uB 9 (fold (TI b p).1)).length := by
  obtain ⟨r1, r2, _⟩ := TU_range b hb p
  obtain ⟨k0, k1, c, k2, k3⟩ := TU_word b hb p h
  have hu := unfold_range r1 r2
  refine ⟨k0, k1, hu.1, hu.2, c, ?_, ?_⟩
  · show b = b.take p.toNat ++ (uB 9 (fold (unfold' (TU b p).1)) ++ c)
    rw [fold_unfold _ r1]; exact k2
  · show (TU b p).2.1 = p + (uB 9 (fold (unfold' (TU b p).1))).length
    rw [fold_unfold _ r1]; exact k3
theorem TI_at (n : Int) (h0 : -9223372036854775808 ≤ n) (h1 : n ≤ 9223372036854775807) (a c : List Int) (q : Int) (hq : q = a.length) : TI (a ++ (uB 9 (fold n) ++ c)) q = (n, q + (uB 9 (fold n)).length, 0) := by
  have hf := fold_range h0 h1
  unfold TI
  rw [TU_at _ hf.1 hf.2 a c q hq, unfold_fold]
theorem TI_cut (n : Int) (h0 : -9223372036854775808 ≤ n) (h1 : n ≤ 9223372036854775807) (a : List Int) (m : Nat) (hm : m < (uB 9 (fold n)).length) (q : Int) (hq : q = a.length) : TI (a ++ (uB 9 (fold n)).take m) q = (0, 0, 3) := by
  have hf := fold_range h0 h1
  unfold TI
  rw [TU_cut _ hf.1 hf.2 a m hm q hq]
  rfl
theorem SD_word (b : List Int) (hb : Bs b) (p : Int) (h : (SD b p).2.2 = 0) :
    0 ≤ p ∧ p ≤ b.length ∧ -1048576 ≤ (SD b p).1 ∧ (SD b p).1 ≤ 1048576 ∧ ∃ c, b = b.take p.toNat ++ (uB 9 (fold (SD b p).1) ++ c) ∧ (SD b p).2.1 = p + (uB 9 (fold (SD b p).1)).length := by
  by_cases e : (TI b p).2.2 = 0
  · by_cases g : (TI b p).1 < -1048576 ∨ (TI b p).1 > 1048576
    · rw [SD_bad e g] at h; simp at h
    · rw [SD_ok e g]
      obtain ⟨k0, k1, _, _, c, k2⟩ := TI_word b hb p e
      exact ⟨k0, k1, by omega, by omega, c, k2⟩
  · rw [SD_err e] at h; exact absurd h e
theorem SD_at (n : Int) (h0 : -1048576 ≤ n) (h1 : n ≤ 1048576) (a c : List Int) (q : Int) (hq : q = a.length) : SD (a ++ (uB 9 (fold n) ++ c)) q = (n, q + (uB 9 (fold n)).length, 0) := by
  have := TI_at n (by omega) (by omega) a c q hq
  rw [SD_ok (by rw [this]) (by rw [this]; simp; omega), this]
theorem SD_cut (n : Int) (h0 : -1048576 ≤ n) (h1 : n ≤ 1048576) (a : List Int) (m : Nat) (hm : m < (uB 9 (fold n)).length) (q : Int) (hq : q = a.length) : SD (a ++ (uB 9 (fold n)).take m) q = (0, 0, 3) := by
  have := TI_cut n (by omega) (by omega) a m hm q hq
  rw [SD_err (by rw [this]; decide), this]
theorem next_at {b : List Int} {p : Nat} {w c : List Int} (h : b = b.take p ++ (w ++ c)) (hp : p ≤ b.length) : b.take (p + w.length) = b.take p ++ w := by
  have e : (b.take p ++ w).length = p + w.length := by simp; omega
  conv => lhs; rw [h, ← List.append_assoc, ← e, List.take_left]
theorem VT_ne {b : List Int} {p : Int} (h : (VT b p).2.2.2.2.2.2 = 0) : 0 ≤ p ∧ p < b.length := by
  unfold VT at h
  by_cases h0 : p < 0 ∨ p > (b.length : Int)
  · rw [if_pos h0] at h; exact absurd h (by decide)
  · rw [if_neg h0] at h
    by_cases h1 : p = (b.length : Int)
    · rw [if_pos h1] at h; exact absurd h (by decide)
    · omega
theorem Z7_err {e : Int} (h : (Z7 e).2.2.2.2.2.2 = 0) : e = 0 := h
/-- a value that is taken, its bytes, and what stands around them -/
theorem VT_word (b : List Int) (hb : Bs b) (p : Int) (h : (VT b p).2.2.2.2.2.2 = 0) :
    0 ≤ p ∧ p ≤ b.length ∧ ∃ w c, VC (VT b p).1 (VT b p).2.1 (VT b p).2.2.1 (VT b p).2.2.2.1 (VT b p).2.2.2.2.1 w ∧ b = b.take p.toNat ++ (w ++ c) ∧ (VT b p).2.2.2.2.2.1 = p + w.length := by
  obtain ⟨p0, p1⟩ := VT_ne h
  refine ⟨p0, by omega, ?_⟩
  have hc := cons_at p0 p1
  have ht := take_succ_at p0 p1
  unfold VT at h ⊢
  have n0 : ¬ (p < 0 ∨ p > (b.length : Int)) := by omega
  have n1 : ¬ p = (b.length : Int) := by omega
  rw [if_neg n0, if_neg n1] at h ⊢
  by_cases k1 : rd b p = 1
  · rw [if_pos k1] at h ⊢
    by_cases e : (TI b (p + 1)).2.2 = 0
    · rw [if_pos e] at h ⊢
      obtain ⟨_, _, g0, g1, c, g2, g3⟩ := TI_word b hb _ e
      refine ⟨_, c, VC.whole _ g0 g1, ?_, ?_⟩
      · rw [ht, k1] at g2
        conv => lhs; rw [g2]
        simp
      · simp only [List.length_cons]; rw [g3]; omega
    · rw [if_neg e] at h; exact absurd (Z7_err h) e
  · rw [if_neg k1] at h ⊢
    by_cases k2 : rd b p = 2
    · rw [if_pos k2] at h ⊢
      by_cases e : (PT b (p + 1) 200).2.2 = 0
      · rw [if_pos e] at h ⊢
        obtain ⟨_, _, c, g2, g3, g4⟩ := PT_word b hb _ _ e
        refine ⟨_, c, VC.words _ _ (bytes_str _ (PT_bs b hb _ _)).symm g4, ?_, ?_⟩
        · rw [ht, k2] at g2
          conv => lhs; rw [g2]
          simp
        · simp only [List.length_cons]; rw [g3]; omega
      · rw [if_neg e] at h; exact absurd (Z7_err h) e
    · rw [if_neg k2] at h ⊢
      by_cases k3 : rd b p = 3
      · rw [if_pos k3] at h ⊢
        by_cases e : p + 1 = (b.length : Int)
        · rw [if_pos e] at h; exact absurd h (by decide)
        · rw [if_neg e] at h ⊢
          by_cases g : rd b (p + 1) > 1
          · rw [if_pos g] at h; exact absurd h (by decide)
          · rw [if_neg g] at h ⊢
            have hc2 := cons_at (b := b) (p := p + 1) (by omega) (by omega)
            have hr := rd_range b hb (p + 1) (by omega) (by omega)
            refine ⟨_, b.drop (p + 1 + 1).toNat, VC.truth (rd b (p + 1)) _ ?_, ?_, ?_⟩
            · by_cases q : rd b (p + 1) = 1
              · simp [q]
              · simp [q]; omega
            · rw [ht, k3] at hc2
              conv => lhs; rw [hc2]
              simp
            · show p + 2 = p + (([3, rd b (p + 1)] : List Int).length : Int)
              simp
      · rw [if_neg k3] at h ⊢
        by_cases k4 : rd b p = 4
        · rw [if_pos k4] at h ⊢
          by_cases e : (SD b (p + 1)).2.2 = 0
          · rw [if_pos e] at h ⊢
            by_cases e2 : (SD b (SD b (p + 1)).2.1).2.2 = 0
            · rw [if_pos e2] at h ⊢
              obtain ⟨_, q1, g0, g1, c, g2, g3⟩ := SD_word b hb _ e
              obtain ⟨_, q2, g0', g1', c', g2', g3'⟩ := SD_word b hb _ e2
              refine ⟨_, c', VC.point _ _ g0 g1 g0' g1', ?_, ?_⟩
              · have hn : (SD b (p + 1)).2.1.toNat = (p + 1).toNat + (uB 9 (fold (SD b (p + 1)).1)).length := by omega
                have hh : b.take (SD b (p + 1)).2.1.toNat = b.take (p + 1).toNat ++ uB 9 (fold (SD b (p + 1)).1) := by
                  rw [hn]; exact next_at g2 (by omega)
                rw [hh, ht, k4] at g2'
                conv => lhs; rw [g2']
                simp
              · simp only [List.length_cons, List.length_append]; rw [g3', g3]; omega
            · rw [if_neg e2] at h; exact absurd (Z7_err h) e2
          · rw [if_neg e] at h; exact absurd (Z7_err h) e
        · rw [if_neg k4] at h; exact absurd h (by decide)
theorem VC.at {k n : Int} {s : ByteArray} {t : Bool} {c : Cx} {w : List Int} (h : VC k n s t c w) (a r : List Int) (q : Int) (hq : q = a.length) :
    VT (a ++ (w ++ r)) q = (k, n, s, t, c, q + w.length, 0) := by
  have hne : ∃ x u, w = x :: u := by cases h <;> exact ⟨_, _, rfl⟩
  obtain ⟨x, u, rfl⟩ := hne
  have n0 : ¬ (q < 0 ∨ q > ((a ++ (x :: u ++ r)).length : Int)) := by simp; omega
  have n1 : ¬ q = ((a ++ (x :: u ++ r)).length : Int) := by simp; omega
  have hr : rd (a ++ (x :: u ++ r)) q = x := by rw [List.cons_append]; exact rd_at a x _ q hq
  have hs : a ++ (x :: u ++ r) = (a ++ [x]) ++ (u ++ r) := by simp
  have hq1 : q + 1 = ((a ++ [x]).length : Int) := by simp; omega
  unfold VT
  rw [if_neg n0, if_neg n1, hr]
  cases h with
  | whole _ h0 h1 =>
    rw [if_pos rfl, hs, TI_at n h0 h1 _ r _ hq1, if_pos rfl]
    simp
    omega
  | words _ l hl h =>
    rw [if_neg (by decide), if_pos rfl, hs, PT_at l 200 h (by decide) _ r _ hq1, if_pos rfl]
    subst hl
    rw [str_bytes]
    simp
    omega
  | truth x t hx =>
    rw [if_neg (by decide), if_neg (by decide), if_pos rfl, if_neg (by simp; omega), hs, List.cons_append, rd_at (a ++ [3]) x _ _ hq1]
    have : ¬ x > 1 := by subst hx; split <;> omega
    rw [if_neg this]
    subst hx
    cases t <;> simp
  | point x y h0 h1 h2 h3 =>
    rw [if_neg (by decide), if_neg (by decide), if_neg (by decide), if_pos rfl, hs, List.append_assoc (uB 9 (fold x)), SD_at x h0 h1 _ _ _ hq1, if_pos rfl]
    simp only
    rw [show a ++ [4] ++ (uB 9 (fold x) ++ (uB 9 (fold y) ++ r)) = (a ++ [4] ++ uB 9 (fold x)) ++ (uB 9 (fold y) ++ r) by simp]
    rw [SD_at y h2 h3 _ r _ (by simp; omega), if_pos rfl]
    simp
    omega
theorem VC.cut {k n : Int} {s : ByteArray} {t : Bool} {c : Cx} {w : List Int} (h : VC k n s t c w) (a : List Int) (m : Nat) (hm : m < w.length) (q : Int) (hq : q = a.length) :
    VT (a ++ w.take m) q = Z7 3 := by
  have hne : ∃ x u, w = x :: u := by cases h <;> exact ⟨_, _, rfl⟩
  obtain ⟨x, u, rfl⟩ := hne
  by_cases hm0 : m = 0
  · subst hm0
    unfold VT
    rw [if_neg (by simp; omega), if_pos (by simp; omega)]
  obtain ⟨m, rfl⟩ : ∃ j, m = j + 1 := ⟨m - 1, by omega⟩
  rw [List.take_succ_cons]
  have n0 : ¬ (q < 0 ∨ q > ((a ++ (x :: u.take m)).length : Int)) := by simp; omega
  have n1 : ¬ q = ((a ++ (x :: u.take m)).length : Int) := by simp; omega
  have hr : rd (a ++ (x :: u.take m)) q = x := rd_at a x _ q hq
  have hs : a ++ (x :: u.take m) = (a ++ [x]) ++ u.take m := by simp
  have hq1 : q + 1 = ((a ++ [x]).length : Int) := by simp; omega
  have hm' : m < u.length := by simpa using hm
  unfold VT
  rw [if_neg n0, if_neg n1, hr]
  cases h with
  | whole _ h0 h1 => rw [if_pos rfl, hs, TI_cut n h0 h1 _ m hm' _ hq1, if_neg (by decide)]
  | words _ l hl h => rw [if_neg (by decide), if_pos rfl, hs, PT_cut l 200 h (by decide) _ m hm' _ hq1, if_neg (by decide)]
  | truth x t hx =>
    have : m = 0 := by simp at hm'; omega
    subst this
    rw [if_neg (by decide), if_neg (by decide), if_pos rfl, if_pos (by simp; omega)]
  | point x y h0 h1 h2 h3 =>
    rw [if_neg (by decide), if_neg (by decide), if_neg (by decide), if_pos rfl, hs]
    by_cases g : m < (uB 9 (fold x)).length
    · rw [List.take_append, show m - (uB 9 (fold x)).length = 0 by omega, List.take_zero, List.append_nil, SD_cut x h0 h1 _ m g _ hq1, if_neg (by decide)]
    · rw [List.take_append, List.take_of_length_le (by omega), SD_at x h0 h1 _ _ _ hq1, if_pos rfl]
      simp only
      rw [← List.append_assoc, SD_cut y h2 h3 _ _ (by simp at hm'; omega) _ (by simp; omega), if_neg (by decide)]
theorem VC.len {k n : Int} {s : ByteArray} {t : Bool} {c : Cx} {w : List Int} (h : VC k n s t c w) : 1 ≤ w.length ∧ w.length ≤ 300 := by
  cases h with
  | whole _ _ _ => have := uB_len 9 (fold n); simp; omega
  | words _ l _ h => have := uB_len 9 (l.length : Int); simp; omega
  | truth => simp
  | point x y => have := uB_len 9 (fold x); have := uB_len 9 (fold y); simp; omega
theorem VC.bs {k n : Int} {s : ByteArray} {t : Bool} {c : Cx} {w : List Int} (h : VC k n s t c w) : Bs w := by
  have hB : ∀ n : Int, -9223372036854775808 ≤ n → n ≤ 9223372036854775807 → Bs (uB 9 (fold n)) := fun n h0 h1 => by
    have hf := fold_range h0 h1
    exact uB_bytes 9 _ (by omega) (by rw [pow128]; omega)
  cases h with
  | whole _ h0 h1 => exact (hB n h0 h1).cons (by omega)
  | words _ l hl h => exact Bs.cons (by omega) ((uB_bytes 9 _ (by omega) (by rw [pow128]; omega)).append (by rw [hl]; exact bytesOf_bs s))
  | truth x t hx => exact Bs.cons (by omega) (Bs.cons (by subst hx; split <;> omega) Bs.nil)
  | point x y h0 h1 h2 h3 => exact Bs.cons (by omega) ((hB x (by omega) (by omega)).append (hB y (by omega) (by omega)))
theorem part_float (n : Int) (h0 : -1048576 ≤ n) (h1 : n ≤ 1048576) : value_part.f (floatOfInt .f64 n) = some (n, true) := by
  unfold value_part.f
  rw [bits_low, bits_high, order_float n _ h0 h1 (by decide) (by decide), order_float n _ h0 h1 (by decide) (by decide), order_float n n h0 h1 h0 h1, fok_float n h0 h1, ftoi_float n h0 h1, order_float n n h0 h1 h0 h1, compare_eq]
  have c1 : ¬ ((some (compare n (-1048576)) == some Ordering.lt) = true) := by
    intro h
    have h := eq_of_beq h
    have := (compare_lt_iff n (-1048576)).1 (Option.some.inj h)
    omega
  have c2 : ¬ ((some (compare n 1048576) == some Ordering.gt) = true) := by
    intro h
    have h := eq_of_beq h
    have := (compare_gt_iff n 1048576).1 (Option.some.inj h)
    omega
  rw [if_neg c1, if_neg c2]
  simp
theorem VC.check {k' n : Int} {s : ByteArray} {t : Bool} {c : Cx} {w : List Int} (h : VC k' n s t c w) (k : Nat) (hk : 1 ≤ k) : value_Check.f k k' n s t c = some 0 := by
  obtain ⟨k, rfl⟩ : ∃ m, k = m + 1 := ⟨k - 1, by omega⟩
  unfold value_Check.f
  cases h with
  | whole => simp [value_Check.j0]
  | words _ l hl h =>
    have : s.size = l.length := by rw [hl, bytesOf_length]
    simp [value_Check.j0]
    omega
  | truth => simp [value_Check.j0]
  | point x y h0 h1 h2 h3 =>
    simp only [value_Check.j0, value_parts.f, part_float x h0 h1, part_float y h2 h3]
    simp
end Go.Proofs.Ytmgljgmieomngaa.Oct
namespace Go.Proofs.Ytmgljgmieomngaa.Oct
open Go Go.RowKit Go.Proofs.YtmgljgmieomngaaW.PrintWords Go.Proofs.YtmgljgmieomngaaW.PrintMore Go.Proofs.Ytmgljgmieomngaa.Q
set_option linter.unusedVariables false
/-- a byte that may stand in a name, first or not -/
def okc (i c : Int) : Bool := decide (c ≥ 97 ∧ c ≤ 122) || decide (i > 0 ∧ (c ≥ 48 ∧ c ≤ 57 ∨ c = 45))
def nm (s : ByteArray) : Nat → Int → Bool
  | 0, _ => true
  | d + 1, i => okc i (bt s i) && nm s d (i + 1)
/-- which names are right -/
def NM (s : ByteArray) : Bool := decide (1 ≤ s.size ∧ s.size ≤ 16) && nm s s.size 0
theorem Name_l0 (s : ByteArray) (hs : s.size ≤ 16) : ∀ (d : Nat) (i : Nat) (k : Nat), i + d = s.size → 2 * d < k → event_Name.l0 k s (s.size : Int) (i : Int) = some (nm s d i)
  | 0, i, k, h, hk => by
    obtain ⟨k, rfl⟩ : ∃ m, k = m + 1 := ⟨k - 1, by omega⟩
    rw [event_Name.l0, if_neg (by omega)]
    rfl
  | d + 1, i, k, h, hk => by
    obtain ⟨k, rfl⟩ : ∃ m, k = m + 2 := ⟨k - 2, by omega⟩
    have ih := Name_l0 s hs d (i + 1) k (by omega) (by omega)
    have hw : wrap64 ((i : Int) + 1) = ((i + 1 : Nat) : Int) := by unfold wrap64; omega
    rw [event_Name.l0, if_pos (by omega), if_pos (by omega), if_pos (by omega)]
    have e : event_Name.l0 k s (s.size : Int) (wrap64 ((i : Int) + 1)) = some (nm s d ((i : Int) + 1)) := by
      rw [hw, ih]; simp
    simp only [event_Name.j2, e, nm]
    generalize bt s (i : Int) = c
    generalize nm s d ((i : Int) + 1) = r
    unfold okc
    repeat' split
    all_goals (simp at *; try omega)
    all_goals (intros; first | omega | (exfalso; omega) | skip)
theorem Name_f (s : ByteArray) (k : Nat) (hk : 40 ≤ k) : event_Name.f k s = some (NM s) := by
  obtain ⟨k, rfl⟩ : ∃ m, k = m + 1 := ⟨k - 1, by omega⟩
  unfold event_Name.f NM
  by_cases h0 : (s.size : Int) < 1
  · rw [if_pos h0, event_Name.j0, if_pos rfl, decide_eq_false (by omega)]
    rfl
  · rw [if_neg h0, event_Name.j0]
    by_cases h1 : (s.size : Int) > 16
    · rw [if_pos (decide_eq_true h1), decide_eq_false (by omega)]
      rfl
    · rw [if_neg (by simpa using h1), decide_eq_true (by omega)]
      have := Name_l0 s (by omega) s.size 0 k (by omega) (by omega)
      simpa using this
/-- what is wrong with a name behind another one -/
def NE (a s : ByteArray) : Int := if NM s = true then (if Op.bytesLess a.toList s.toList = true then 0 else 4) else 11
theorem name_f (a s : ByteArray) (k : Nat) (hk : 40 ≤ k) : event_name.f k a s = some (NE a s) := by
  unfold event_name.f NE
  rw [Name_f s k hk]
  simp only [Option.bind_some]
  repeat' split
  all_goals rfl
theorem NM_ne {s : ByteArray} (h : NM s = true) : s.toList ≠ [] := by
  intro e
  unfold NM at h
  have h1 := (Bool.and_eq_true _ _ ▸ h).1
  have h2 := of_decide_eq_true h1
  have h3 : s.toList.length = s.size := by rw [ByteArray.toList_eq, Array.length_toList]; rfl
  rw [e] at h3
  simp at h3
  omega
theorem nil_toList : (⟨#[]⟩ : ByteArray).toList = [] := by rw [ByteArray.toList_eq]
theorem less_nil {l : List UInt8} (h : l ≠ []) : Op.bytesLess [] l = true := by
  cases l with
  | nil => exact absurd rfl h
  | cons x xs => rfl
end Go.Proofs.Ytmgljgmieomngaa.Oct
namespace Go.Proofs.Ytmgljgmieomngaa.Oct
open Go Go.RowKit Go.Proofs.YtmgljgmieomngaaW.PrintWords Go.Proofs.YtmgljgmieomngaaW.PrintMore Go.Proofs.Ytmgljgmieomngaa.Q
set_option linter.unusedVariables false
set_option linter.unusedSimpArgs false
theorem VC.cx {k n : Int} {s : ByteArray} {t : Bool} {c : Cx} {w : List Int} (h : VC k n s t c w) : FloatKind.f64.format.order c.re c.re = some .eq ∧ FloatKind.f64.format.order c.im c.im = some .eq := by
  have z : FloatKind.f64.format.order 0 0 = some .eq := by decide +kernel
  cases h with
  | whole => exact ⟨z, z⟩
  | words => exact ⟨z, z⟩
  | truth => exact ⟨z, z⟩
  | point x y => exact ⟨float_self x, float_self y⟩

/-- may a comparison stand with a value of that kind -/
def KD (c kd : Int) : Bool := if c = 5 ∨ c = 6 ∨ c = 7 ∨ c = 8 then kd == 1 || kd == 2 else if c = 9 then kd == 2 else if c = 10 then kd == 4 else true
theorem one_two (kd : Int) : (if kd = 1 then some true else some (kd == 2)) = some (kd == 1 || kd == 2) := by
  by_cases h : kd = 1
  · subst h; rfl
  · rw [if_neg h]; have : (kd == 1) = false := by simpa using h
    rw [this]; rfl
theorem bare_f (c : Int) : pred_bare.f c = some (c == 1 || c == 2) := by
  unfold pred_bare.f
  exact one_two c
theorem kind_f (c kd : Int) (k : Nat) (hk : 1 ≤ k) : pred_kind.f k c kd = some (KD c kd) := by
  obtain ⟨k, rfl⟩ : ∃ m, k = m + 1 := ⟨k - 1, by omega⟩
  unfold pred_kind.f
  simp only [pred_kind.j0, one_two]
  by_cases h5 : c = 5
  · subst h5; rfl
  by_cases h6 : c = 6
  · subst h6; rfl
  by_cases h7 : c = 7
  · subst h7; rfl
  by_cases h8 : c = 8
  · subst h8; rfl
  have e8 : ¬ ((c == 8) = true) := by simpa using h8
  rw [if_neg h5, if_neg h6, if_neg h7, if_neg e8]
  unfold KD
  rw [if_neg (by omega : ¬ (c = 5 ∨ c = 6 ∨ c = 7 ∨ c = 8))]
  by_cases h9 : c = 9
  · rw [if_pos h9, if_pos h9]
  · rw [if_neg h9, if_neg h9]
    by_cases h10 : c = 10
    · rw [if_pos h10, if_pos h10]
    · rw [if_neg h10, if_neg h10]
/-- an atom that is right -/
def AT (c : Int) (nm : ByteArray) (kd n : Int) (s : ByteArray) (t : Bool) (x : Cx) (r : Int) : Prop :=
  NM nm = true ∧ 1 ≤ c ∧ c ≤ 10 ∧ (((c = 1 ∨ c = 2) ∧ x = ⟨0, 0⟩) ∨ (2 < c ∧ (∃ w, VC kd n s t x w) ∧ KD c kd = true ∧ (c = 10 → 0 ≤ r ∧ r ≤ 1048576)))
theorem atom_f {c : Int} {nm : ByteArray} {kd n : Int} {s : ByteArray} {t : Bool} {x : Cx} {r : Int} (h : AT c nm kd n s t x r) (k : Nat) (hk : 60 ≤ k) (o : Int) : pred_atom.f k o nm c kd n s t x r = some 0 := by
  obtain ⟨k, rfl⟩ : ∃ m, k = m + 1 := ⟨k - 1, by omega⟩
  obtain ⟨h1, h2, h3, h4⟩ := h
  unfold pred_atom.f
  rw [Name_f nm (k + 1) (by omega)]
  simp only [Option.bind_some, pred_atom.j0, bare_f]
  rw [if_pos h1, if_neg (by omega), if_neg (by simp; omega)]
  rcases h4 with ⟨h4, -⟩ | ⟨h4, ⟨w, hw⟩, h5, h6⟩
  · rw [if_pos (by simpa using h4)]
  · rw [if_neg (by simp; omega), hw.check k (by omega)]
    simp only [Option.bind_some, if_true, kind_f c kd k (by omega)]
    rw [if_pos h5]
    by_cases h10 : c = 10
    · obtain ⟨h7, h8⟩ := h6 h10
      rw [if_pos h10, if_neg (by omega), if_neg (by omega)]
    · rw [if_neg h10]
/-- a term that was taken -/
def OKT (t : S54) : Prop := 1 ≤ t.f0 ∧ t.f0 ≤ 6 ∧ (t.f0 ≠ 3 → t.f3.f4 = ⟨0, 0⟩) ∧ (t.f0 = 3 → AT t.f2 t.f1 t.f3.f0 t.f3.f1 t.f3.f2 t.f3.f3 t.f3.f4 t.f4)
theorem OKT.cx {t : S54} (h : OKT t) : FloatKind.f64.format.order t.f3.f4.re t.f3.f4.re = some .eq ∧ FloatKind.f64.format.order t.f3.f4.im t.f3.f4.im = some .eq := by
  have z : FloatKind.f64.format.order 0 0 = some .eq := by decide +kernel
  by_cases e : t.f0 = 3
  · obtain ⟨_, _, _, h4⟩ := h.2.2.2 e
    rcases h4 with ⟨_, h4⟩ | ⟨_, ⟨w, hw⟩, _⟩
    · rw [h4]; exact ⟨z, z⟩
    · exact hw.cx
  · rw [h.2.2.1 e]; exact ⟨z, z⟩
/-- what is wrong with a row of right terms -/
def CK : List S54 → Int → Int
  | [], n => if n = 1 then 0 else 4
  | t :: ts, n =>
    if t.f0 = 4 then (if n < 1 then 4 else CK ts n)
    else if t.f0 = 5 ∨ t.f0 = 6 then (if n < 2 then 4 else CK ts (n - 1))
    else (if n + 1 > 16 then 6 else CK ts (n + 1))
theorem rdT_drop {xs : List S54} {i : Nat} {t : S54} {ts : List S54} (h : xs.drop i = t :: ts) : rd_T54 xs (i : Int) = t ∧ i < xs.length ∧ xs.drop (i + 1) = ts := by
  have hi : i < xs.length := by
    rcases Nat.lt_or_ge i xs.length with h1 | h1
    · exact h1
    · rw [List.drop_eq_nil_of_le h1] at h; simp at h
  rw [List.drop_eq_getElem_cons hi] at h
  injection h with h1 h2
  refine ⟨?_, hi, h2⟩
  unfold rd_T54
  simp [List.getD_eq_getElem?_getD, hi, h1]
theorem Check_l0 (xs : List S54) (hx : ∀ t ∈ xs, OKT t) (hl : xs.length ≤ 48) : ∀ (rest : List S54) (i k : Nat) (n : Int), xs.drop i = rest → 0 ≤ n → n ≤ 16 → 100 + 3 * rest.length < k →
    pred_Check.l0 k n xs (xs.length : Int) (i : Int) = some (CK rest n)
  | [], i, k, n, h, h0, h1, hk => by
    obtain ⟨k, rfl⟩ : ∃ m, k = m + 1 := ⟨k - 1, by omega⟩
    have hi : xs.length ≤ i := List.drop_eq_nil_iff.1 h
    rw [pred_Check.l0, if_neg (by omega), CK]
    split <;> rfl
  | t :: ts, i, k, n, h, h0, h1, hk => by
    obtain ⟨k, rfl⟩ : ∃ m, k = m + 3 := ⟨k - 3, by simp at hk; omega⟩
    simp only [List.length_cons] at hk
    obtain ⟨e1, e2, e3⟩ := rdT_drop h
    have hw : wrap64 ((i : Int) + 1) = ((i + 1 : Nat) : Int) := by unfold wrap64; omega
    have ih := fun (m : Int) (hm0 : 0 ≤ m) (hm1 : m ≤ 16) => Check_l0 xs hx hl ts (i + 1) k m e3 hm0 hm1 (by omega)
    have hj : ∀ need : Int, 0 ≤ need → need ≤ 2 → pred_Check.j2 (k + 1) n need xs (xs.length : Int) (i : Int) = some (if n < need then 4 else if n + 1 - need > 16 then 6 else CK ts (n + 1 - need)) := by
      intro need g0 g1
      rw [pred_Check.j2, w64_id (x := 1 - need) (by omega) (by omega), w64_id (x := n + (1 - need)) (by omega) (by omega), hw, show n + (1 - need) = n + 1 - need by omega]
      by_cases c1 : n < need
      · rw [if_pos c1, if_pos c1]
      · rw [if_neg c1, if_neg c1]
        by_cases c2 : n + 1 - need > 16
        · rw [if_pos c2, if_pos c2]
        · rw [if_neg c2, if_neg c2]; exact ih _ (by omega) (by omega)
    have hj1 : pred_Check.j2 (k + 1) n 0 xs (xs.length : Int) (i : Int) = some (if n + 1 > 16 then 6 else CK ts (n + 1)) := by
      rw [hj 0 (by omega) (by omega), if_neg (by omega), Int.sub_zero]
    have hj4 : pred_Check.j2 (k + 1) n 1 xs (xs.length : Int) (i : Int) = some (if n < 1 then 4 else CK ts n) := by
      rw [hj 1 (by omega) (by omega), show n + 1 - 1 = n by omega, if_neg (by omega : ¬ (n > 16))]
    have hj5 : pred_Check.j2 (k + 1) n 2 xs (xs.length : Int) (i : Int) = some (if n < 2 then 4 else CK ts (n - 1)) := by
      rw [hj 2 (by omega) (by omega), show n + 1 - 2 = n - 1 by omega, if_neg (by omega : ¬ (n - 1 > 16))]
    have ho := hx t (by have : t ∈ xs.drop i := by rw [h]; exact List.mem_cons_self
                        exact List.mem_of_mem_drop this)
    rw [pred_Check.l0, if_pos (by omega), if_pos (by omega), if_pos (by omega), e1, CK]
    have hc : t.f0 = 1 ∨ t.f0 = 2 ∨ t.f0 = 3 ∨ t.f0 = 4 ∨ t.f0 = 5 ∨ t.f0 = 6 := by have := ho.1; have := ho.2.1; omega
    have hat : t.f0 = 3 → ∀ o, pred_atom.f (k + 1) o t.f1 t.f2 t.f3.f0 t.f3.f1 t.f3.f2 t.f3.f3 t.f3.f4 t.f4 = some 0 := fun e o => atom_f (ho.2.2.2 e) _ (by omega) o
    rcases hc with e | e | e | e | e | e
    · rw [e]; simp only [pred_Check.j1]; simp [hj1, hj4, hj5]
    · rw [e]; simp only [pred_Check.j1]; simp [hj1, hj4, hj5]
    · rw [e]; simp only [pred_Check.j1, hat e]; simp [hj1, hj4, hj5]
    · rw [e]; simp only [pred_Check.j1]; simp [hj1, hj4, hj5]
    · rw [e]; simp only [pred_Check.j1]; simp [hj1, hj4, hj5]
    · rw [e]; simp only [pred_Check.j1]; simp [hj1, hj4, hj5]
end Go.Proofs.Ytmgljgmieomngaa.Oct
namespace Go.Proofs.Ytmgljgmieomngaa.Oct
open Go Go.RowKit Go.Proofs.YtmgljgmieomngaaW.PrintWords Go.Proofs.YtmgljgmieomngaaW.PrintMore Go.Proofs.Ytmgljgmieomngaa.Q
set_option linter.unusedVariables false
set_option linter.unusedSimpArgs false
theorem Same_l0 (xs : List S54) (hx : ∀ t ∈ xs, OKT t) (hl : xs.length ≤ 48) : ∀ (rest : List S54) (i k : Nat), xs.drop i = rest → rest.length < k → grapevineref05_Same.l0 k xs xs (i : Int) = some true
  | [], i, k, h, hk => by
    obtain ⟨k, rfl⟩ : ∃ m, k = m + 1 := ⟨k - 1, by omega⟩
    have hi : xs.length ≤ i := List.drop_eq_nil_iff.1 h
    rw [grapevineref05_Same.l0, if_neg (by omega)]
  | t :: ts, i, k, h, hk => by
    obtain ⟨k, rfl⟩ : ∃ m, k = m + 1 := ⟨k - 1, by omega⟩
    simp only [List.length_cons] at hk
    obtain ⟨e1, e2, e3⟩ := rdT_drop h
    have hw : wrap64 ((i : Int) + 1) = ((i + 1 : Nat) : Int) := by unfold wrap64; omega
    have ho := (hx t (by have : t ∈ xs.drop i := by rw [h]; exact List.mem_cons_self
                         exact List.mem_of_mem_drop this)).cx
    rw [grapevineref05_Same.l0, if_pos (by omega), if_pos (by omega), if_pos (by omega), e1, ho.1, ho.2, if_neg (by simp), hw]
    exact Same_l0 xs hx hl ts (i + 1) k e3 (by omega)
theorem Same_f (xs : List S54) (hx : ∀ t ∈ xs, OKT t) (hl : xs.length ≤ 48) (k : Nat) (hk : 60 ≤ k) : grapevineref05_Same.f k xs xs = some true := by
  unfold grapevineref05_Same.f
  rw [if_pos rfl]
  exact Same_l0 xs hx hl xs 0 k rfl (by omega)
end Go.Proofs.Ytmgljgmieomngaa.Oct
namespace Go.Proofs.Ytmgljgmieomngaa.Pz
open Go Go.RowKit Go.Proofs.YtmgljgmieomngaaW.PrintWords Go.Proofs.YtmgljgmieomngaaW.PrintLast Go.Proofs.YtmgljgmieomngaaW.PrintMore Go.Proofs.Ytmgljgmieomngaa.Q Go.Proofs.Ytmgljgmieomngaa.Oct
set_option linter.unusedVariables false
theorem bt_ext (s : ByteArray) (a b : Nat) (hb : b ≤ s.size) (i : Int) (h0 : 0 ≤ i) (h1 : (a : Int) + i < b) : bt (s.extract a b) i = bt s (a + i) := by
  have hs : (s.extract a b).size = min b s.size - a := ByteArray.size_extract
  have hi : i.toNat < (s.extract a b).size := by rw [hs]; omega
  have hi2 : ((a : Int) + i).toNat < s.size := by omega
  rw [← bt_at (s.extract a b) i hi, ← bt_at s (a + i) hi2, ByteArray.getElem_extract]
  have e : ((a : Int) + i).toNat = a + i.toNat := by omega
  simp only [e]
theorem scan_all (f : Int → Bool) (s : ByteArray) : ∀ (d : Nat) (p i : Int), p ≤ i → i < scan f s d p → f (bt s i) = true
  | 0, p, i, h0, h1 => by rw [scan] at h1; omega
  | d + 1, p, i, h0, h1 => by
    rw [scan] at h1
    by_cases c : p < (s.size : Int)
    · rw [if_pos c] at h1
      by_cases e : f (bt s p) = true
      · rw [if_pos e] at h1
        by_cases g : i = p
        · rw [g]; exact e
        · exact scan_all f s d (p + 1) i (by omega) h1
      · rw [if_neg e] at h1; omega
    · rw [if_neg c] at h1; omega
theorem nm_of (s : ByteArray) : ∀ (d : Nat) (i : Int), (∀ j : Int, i ≤ j → j < i + d → okc j (bt s j) = true) → nm s d i = true
  | 0, i, h => rfl
  | d + 1, i, h => by
    rw [nm, h i (Int.le_refl _) (by omega), Bool.true_and]
    exact nm_of s d (i + 1) (fun j h0 h1 => h j (by omega) (by omega))
theorem nameF_nm {s : ByteArray} {p : Int} {r : Int × Wd} (h0 : 0 ≤ p) (h1 : p < (s.size : Int)) (hc : 97 ≤ bt s p ∧ bt s p ≤ 122) (h : nameF s p = .ok r) : NM r.2.tx = true := by
  unfold nameF at h
  simp only at h
  have hr := scan_bnd isNm s s.size p (by omega)
  have ha := scan_all isNm s s.size p
  have hx : p + 1 ≤ scan isNm s s.size p := by
    obtain ⟨d, hd⟩ : ∃ d, s.size = d + 1 := ⟨s.size - 1, by omega⟩
    have hi : isNm (bt s p) = true := by unfold isNm; simp; omega
    have e : scan isNm s s.size p = scan isNm s d (p + 1) := by
      conv => lhs; rw [hd]
      rw [scan, if_pos h1, if_pos hi]
    rw [e]
    exact (scan_bnd isNm s d (p + 1) (by omega)).1
  generalize scan isNm s s.size p = q at *
  by_cases c : 16 < q - p
  · rw [if_pos c] at h; simp at h
  · rw [if_neg c] at h
    injection h with h
    rw [← h]
    simp only
    have hsz : ((s.extract p.toNat q.toNat).size : Int) = q - p := by rw [ByteArray.size_extract]; omega
    unfold NM
    rw [Bool.and_eq_true]
    refine ⟨decide_eq_true (by omega), nm_of _ _ _ (fun j j0 j1 => ?_)⟩
    rw [bt_ext s p.toNat q.toNat (by omega) j j0 (by omega)]
    have e := ha ((p.toNat : Int) + j) (by omega) (by omega)
    unfold isNm at e
    unfold okc
    by_cases g : j = 0
    · subst g
      rw [show ((p.toNat : Int) + 0) = p by omega]
      simp; omega
    · simp at e ⊢; omega
/-- a right word -/
def Wk (w : Wd) : Prop := (w.kd = 110 → NM w.tx = true) ∧ (w.kd = 100 → -9223372036854775808 ≤ w.n ∧ w.n ≤ 9223372036854775807) ∧ (w.kd = 115 → (w.tx.size : Int) ≤ 200)
theorem w64_rng (x : Int) : -9223372036854775808 ≤ wrap64 x ∧ wrap64 x ≤ 9223372036854775807 := by unfold wrap64; omega
theorem strOfNums_size (l : List Int) : (strOfNums l).size = l.length := by
  unfold strOfNums
  simp [ByteArray.size]
theorem nextF_wk {s : ByteArray} {p : Int} {t : St} (h0 : 0 ≤ p) (h1 : p ≤ (s.size : Int)) (h : nextF s p = .ok t) : Wk t.w := by
  unfold nextF at h
  have hs := scan_bnd (fun c => c == 32) s s.size p h1
  simp only at h
  generalize scan (fun c => c == 32) s s.size p = q at *
  split at h
  · rename_i hq
    obtain ⟨a, e1, e2⟩ := Out.bind_ok h
    injection e2 with e2
    rw [← e2]
    simp only
    split at e1
    · rename_i hc
      have hn := nameF_nm (by omega) hq hc e1
      unfold nameF at e1
      simp only at e1
      split at e1
      · simp at e1
      · injection e1 with e1
        rw [← e1] at hn ⊢
        exact ⟨fun _ => hn, fun h => absurd h (by show ¬ (110 : Int) = 100; decide), fun h => absurd h (by show ¬ (110 : Int) = 115; decide)⟩
    · split at e1
      · unfold numF at e1
        simp only at e1
        generalize (if (bt s q == 45) = true then q + 1 else q) = f at e1
        generalize digs s s.size f 0 false = R at e1
        split at e1
        · simp at e1
        · split at e1
          · simp at e1
          · injection e1 with e1
            rw [← e1]
            refine ⟨fun h => absurd h (by show ¬ (100 : Int) = 110; decide), fun _ => ?_, fun h => absurd h (by show ¬ (100 : Int) = 115; decide)⟩
            show -9223372036854775808 ≤ (if (bt s q == 45) = true then wrap64 (IntKind.u64.wrap (-R.2.1)) else wrap64 R.2.1) ∧ (if (bt s q == 45) = true then wrap64 (IntKind.u64.wrap (-R.2.1)) else wrap64 R.2.1) ≤ 9223372036854775807
            split
            · exact w64_rng _
            · exact w64_rng _
      · split at e1
        · unfold strF at e1
          obtain ⟨b, e3, e4⟩ := Out.bind_ok e1
          split at e4
          · simp at e4
          · injection e4 with e4
            rw [← e4]
            refine ⟨fun h => absurd h (by show ¬ (115 : Int) = 110; decide), fun h => absurd h (by show ¬ (115 : Int) = 100; decide), fun _ => ?_⟩
            show ((strOfNums b.2).size : Int) ≤ 200
            rw [strOfNums_size]; omega
        · unfold markF at e1
          have hk : ∀ c : Int, (long3 c = true ∨ sign12 c = true) → c ≠ 110 ∧ c ≠ 100 ∧ c ≠ 115 := by
            intro c hc
            simp only [long3, sign12, Bool.or_eq_true, beq_iff_eq] at hc
            omega
          split at e1
          · rename_i h3
            have := hk _ (.inl h3)
            split at e1
            · injection e1 with e1; rw [← e1]; exact ⟨fun h => absurd h this.1, fun h => absurd h this.2.1, fun h => absurd h this.2.2⟩
            · injection e1 with e1; rw [← e1]; exact ⟨fun h => absurd h this.1, fun h => absurd h this.2.1, fun h => absurd h this.2.2⟩
          · split at e1
            · rename_i h12
              have := hk _ (.inr h12)
              injection e1 with e1; rw [← e1]; exact ⟨fun h => absurd h this.1, fun h => absurd h this.2.1, fun h => absurd h this.2.2⟩
            · simp at e1
  · injection h with h
    rw [← h]
    exact ⟨fun h => absurd h (by show ¬ (101 : Int) = 110; decide), fun h => absurd h (by show ¬ (101 : Int) = 100; decide), fun h => absurd h (by show ¬ (101 : Int) = 115; decide)⟩
theorem isF_wk {s : ByteArray} {c : Int} {t t' : St} {b : Bool} (hi : In s t) (hw : Wk t.w) (h : isF s c t = .ok (b, t')) : Wk t'.w := by
  unfold isF at h
  split at h
  · obtain ⟨a, e1, e2⟩ := Out.bind_ok h
    injection e2 with e2; injection e2 with _ e2; rw [← e2]; exact nextF_wk hi.1 hi.2 e1
  · injection h with h; injection h with _ h; rw [← h]; exact hw
theorem wantF_wk {s : ByteArray} {c : Int} {t t' : St} {u : Wd} (hi : In s t) (h : wantF s c t = .ok (u, t')) : Wk t'.w ∧ u = t.w ∧ u.kd = c := by
  unfold wantF at h
  split at h
  · rename_i hc
    obtain ⟨a, e1, e2⟩ := Out.bind_ok h
    injection e2 with e2; injection e2 with e3 e2; rw [← e2, ← e3]; exact ⟨nextF_wk hi.1 hi.2 e1, rfl, hc.1⟩
  · simp at h
theorem partF_wk {s : ByteArray} {t t' : St} {n : Int} (hi : In s t) (h : partF s t = .ok (n, t')) : Wk t'.w ∧ -1048576 ≤ n ∧ n ≤ 1048576 := by
  unfold partF at h
  split at h
  · split at h
    · simp at h
    · obtain ⟨a, e1, e2⟩ := Out.bind_ok h
      injection e2 with e2; injection e2 with e3 e2; rw [← e2, ← e3]; exact ⟨nextF_wk hi.1 hi.2 e1, by omega⟩
  · simp at h
/-- a right value -/
def VK (x : S43) : Prop := ∃ w, VC x.f0 x.f1 x.f2 x.f3 x.f4 w
theorem pointF_wk {s : ByteArray} {t t' : St} {x : S43} (hi : In s t) (h : pointF s t = .ok (x, t')) : Wk t'.w ∧ VK x ∧ x.f0 = 4 := by
  unfold pointF at h
  obtain ⟨⟨a1, t1⟩, e1, h⟩ := Out.bind_ok h
  obtain ⟨⟨a2, t2⟩, e2, h⟩ := Out.bind_ok h
  obtain ⟨⟨a3, t3⟩, e3, h⟩ := Out.bind_ok h
  obtain ⟨⟨a4, t4⟩, e4, h⟩ := Out.bind_ok h
  obtain ⟨⟨a5, t5⟩, e5, h⟩ := Out.bind_ok h
  injection h with h; injection h with h' h; subst h h'
  have i1 := wantF_in hi e1
  have i2 := partF_in i1.1 e2
  have i3 := wantF_in i2.1 e3
  have i4 := partF_in i3.1 e4
  have p2 := (partF_wk i1.1 e2).2
  have p4 := (partF_wk i3.1 e4).2
  exact ⟨(wantF_wk i4.1 e5).1, ⟨_, VC.point a2 a4 p2.1 p2.2 p4.1 p4.2⟩, rfl⟩
theorem plainF_wk {s : ByteArray} {b : Bool} {t t' : St} {x : S43} (hi : In s t) (hw : Wk t.w) (h : plainF s b t = .ok (x, t')) : Wk t'.w ∧ VK x ∧ (x.f0 = 1 ∨ x.f0 = 2) ∧ (b = true → x.f0 = 2) := by
  unfold plainF at h
  split at h
  · rename_i hc
    obtain ⟨a, e1, e2⟩ := Out.bind_ok h
    injection e2 with e2; injection e2 with e3 e2; rw [← e2, ← e3]
    have := hw.2.1 hc.1
    exact ⟨nextF_wk hi.1 hi.2 e1, ⟨_, VC.whole _ this.1 this.2⟩, .inl rfl, fun h => by rw [hc.2] at h; simp at h⟩
  · obtain ⟨⟨a1, t1⟩, e1, h⟩ := Out.bind_ok h
    injection h with h; injection h with h' h; subst h h'
    obtain ⟨w1, w2, w3⟩ := wantF_wk hi e1
    refine ⟨w1, ⟨_, VC.words _ _ rfl ?_⟩, .inr rfl, fun _ => rfl⟩
    rw [bytesOf_length]
    rw [w2] at w3 ⊢
    exact hw.2.2 w3
theorem anyF_wk {s : ByteArray} {t t' : St} {x : S43} (hi : In s t) (hw : Wk t.w) (h : anyF s t = .ok (x, t')) : Wk t'.w ∧ VK x := by
  unfold anyF at h
  split at h
  · have := pointF_wk hi h; exact ⟨this.1, this.2.1⟩
  · split at h
    · obtain ⟨a, e1, e2⟩ := Out.bind_ok h
      injection e2 with e2; injection e2 with e3 e2; rw [← e2, ← e3]
      exact ⟨nextF_wk hi.1 hi.2 e1, ⟨_, VC.truth _ _ rfl⟩⟩
    · have := plainF_wk hi hw h; exact ⟨this.1, this.2.1⟩
theorem cmp_rng (u : Wd) : 2 ≤ cmpF u ∧ cmpF u ≤ 10 := by
  unfold cmpF
  repeat' split
  all_goals omega
theorem atomF_wk {s nm : ByteArray} {t t' : St} {x : S54} (hi : In s t) (hw : Wk t.w) (hn : NM nm = true) (h : atomF s nm t = .ok (x, t')) : Wk t'.w ∧ OKT x := by
  have hcr := cmp_rng t.w
  unfold atomF at h
  simp only at h
  have ok : ∀ (c : Int) (v : S43) (r : Int), 2 < c → c ≤ 10 → VK v → KD c v.f0 = true → (c = 10 → 0 ≤ r ∧ r ≤ 1048576) → OKT ⟨3, nm, c, v, r⟩ := by
    intro c v r h1 h2 h3 h4 h5
    exact ⟨by show (1 : Int) ≤ 3; decide, by show (3 : Int) ≤ 6; decide, fun h => absurd rfl h, fun _ => ⟨hn, by show 1 ≤ c; omega, h2, .inr ⟨h1, h3, h4, h5⟩⟩⟩
  split at h
  · injection h with h; injection h with h' h; rw [← h, ← h']
    exact ⟨hw, by show (1 : Int) ≤ 3; decide, by show (3 : Int) ≤ 6; decide, fun h => absurd rfl h, fun _ => ⟨hn, by show (1 : Int) ≤ 2; decide, by show (2 : Int) ≤ 10; decide, .inl ⟨.inr rfl, rfl⟩⟩⟩
  · rename_i hc
    obtain ⟨t1, e1, h⟩ := Out.bind_ok h
    have i1 := (nextF_in hi.1 hi.2 e1).1
    have w1 := nextF_wk hi.1 hi.2 e1
    generalize cmpF t.w = c at *
    split at h
    · rename_i h34
      obtain ⟨⟨a, t2⟩, e2, h⟩ := Out.bind_ok h
      injection h with h; injection h with h' h; subst h h'
      have := anyF_wk i1 w1 e2
      refine ⟨this.1, ok c a 0 (by omega) (by omega) this.2 ?_ (fun e => by omega)⟩
      unfold KD
      rw [if_neg (by omega), if_neg (by omega), if_neg (by omega)]
    · split at h
      · rename_i h9
        obtain ⟨⟨a, t2⟩, e2, h⟩ := Out.bind_ok h
        injection h with h; injection h with h' h; subst h h'
        have := plainF_wk i1 w1 e2
        refine ⟨this.1, ok c a 0 (by omega) (by omega) this.2.1 ?_ (fun e => by omega)⟩
        unfold KD
        rw [if_neg (by omega), if_pos h9]
        simpa using this.2.2.2 rfl
      · split at h
        · rename_i h10
          obtain ⟨⟨a, t2⟩, e2, h⟩ := Out.bind_ok h
          obtain ⟨⟨b, t3⟩, e3, h⟩ := Out.bind_ok h
          split at h
          · simp at h
          · rename_i hr
            obtain ⟨⟨d, t4⟩, e4, h⟩ := Out.bind_ok h
            injection h with h; injection h with h' h; subst h h'
            have p2 := pointF_wk i1 e2
            have i2 := (pointF_in i1 e2).1
            have i3 := (wantF_in i2 e3).1
            obtain ⟨w4, w5, w6⟩ := wantF_wk i3 e4
            refine ⟨w4, ok c a _ (by omega) (by omega) p2.2.1 ?_ (fun _ => ?_)⟩
            · unfold KD
              rw [if_neg (by omega), if_neg (by omega), if_pos h10]
              simpa using p2.2.2
            · simp only at hr
              show 0 ≤ d.n ∧ d.n ≤ 1048576
              rw [w5] at w6 ⊢
              omega
        · rename_i hn34 hn9 hn10
          obtain ⟨⟨a, t2⟩, e2, h⟩ := Out.bind_ok h
          injection h with h; injection h with h' h; subst h h'
          have := plainF_wk i1 w1 e2
          refine ⟨this.1, ok c a 0 (by omega) (by omega) this.2.1 ?_ (fun e => absurd e hn10)⟩
          unfold KD
          rw [if_pos (by omega)]
          rcases this.2.2.1 with e | e <;> rw [e] <;> rfl
theorem op54_ok {c : Int} (h1 : 1 ≤ c) (h2 : c ≤ 6) (h3 : c ≠ 3) : OKT (op54 c) := ⟨h1, h2, fun _ => rfl, fun h => absurd h h3⟩
def OkM (o : Out (List S54 × St)) : Prop := ∀ l t', o = .ok (l, t') → (∀ x ∈ l, OKT x) ∧ Wk t'.w
theorem pr_ok (s : ByteArray) : ∀ (k : Nat) (m : Md) (t : St) (o : Out (List S54 × St)), Iw s t → Wk t.w → pr s k m t = some o → OkM o
  | 0, m, t, o, hi, hw, h => by simp [pr] at h
  | k + 1, .unit, t, o, hi, hw, h => by
    intro l t' ho
    subst ho
    rcases pr_unit h with ⟨p, e, _, h⟩ | ⟨t1, o1, a1, a2, a3⟩ | ⟨-, h⟩
    · simp at h
    · obtain ⟨⟨l1, t2⟩, b1, b2⟩ := Out.bind_ok a3.symm
      injection b2 with b2; injection b2 with b2 b3; subst b2 b3
      have u1 := isF_up hi (by decide) a1
      have u2 := pr_ok s k .unit t1 o1 u1.1 (isF_wk hi.1 hw a1) a2 l1 t2 b1
      refine ⟨fun x hx => ?_, u2.2⟩
      rcases List.mem_append.1 hx with hx | hx
      · exact u2.1 x hx
      · rw [List.mem_singleton.1 hx]; exact op54_ok (by decide) (by decide) (by decide)
    rcases h with ⟨p, e, _, h⟩ | ⟨t1, o1, a1, a2, a3⟩ | ⟨-, h⟩
    · simp at h
    · obtain ⟨⟨l1, t2⟩, b1, b2⟩ := Out.bind_ok a3.symm
      obtain ⟨⟨a, t3⟩, b3, b4⟩ := Out.bind_ok b2
      injection b4 with b4; injection b4 with b4 b5; subst b4 b5
      have u1 := isF_up hi (by decide) a1
      have u2 := pr_ok s k .sum t1 o1 u1.1 (isF_wk hi.1 hw a1) a2 l1 t2 b1
      have u3 := pr_up s k .sum t1 o1 u1.1 a2 l1 t2 b1
      exact ⟨u2.1, (wantF_wk u3.1.1 b3).1⟩
    rcases h with ⟨p, e, _, h⟩ | ⟨t1, a1, a3⟩ | ⟨-, h⟩
    · simp at h
    · injection a3 with a3; injection a3 with a3 a4; subst a3 a4
      exact ⟨fun x hx => by rw [List.mem_singleton.1 hx]; exact op54_ok (by decide) (by decide) (by decide), isF_wk hi.1 hw a1⟩
    rcases h with ⟨p, e, _, h⟩ | ⟨t1, a1, a3⟩ | ⟨-, h⟩
    · simp at h
    · injection a3 with a3; injection a3 with a3 a4; subst a3 a4
      exact ⟨fun x hx => by rw [List.mem_singleton.1 hx]; exact op54_ok (by decide) (by decide) (by decide), isF_wk hi.1 hw a1⟩
    rcases h with ⟨p, e, _, h⟩ | ⟨t1, a1, a3⟩ | ⟨-, h⟩
    · simp at h
    · obtain ⟨⟨a, t2⟩, b1, b2⟩ := Out.bind_ok a3.symm
      injection b2 with b2; injection b2 with b2 b3; subst b2 b3
      have u1 := isF_up hi (by decide) a1
      obtain ⟨w1, w2, w3⟩ := wantF_wk u1.1.1 b1
      have hn : NM a.tx = true := by rw [w2] at w3 ⊢; exact (isF_wk hi.1 hw a1).1 w3
      exact ⟨fun x hx => by
        rw [List.mem_singleton.1 hx]
        exact ⟨by show (1 : Int) ≤ 3; decide, by show (3 : Int) ≤ 6; decide, fun h => absurd rfl h, fun _ => ⟨hn, by show (1 : Int) ≤ 1; decide, by show (1 : Int) ≤ 10; decide, .inl ⟨.inl rfl, rfl⟩⟩⟩, w1⟩
    · obtain ⟨⟨a, t2⟩, b1, b2⟩ := Out.bind_ok h.symm
      obtain ⟨⟨x, t3⟩, b3, b4⟩ := Out.bind_ok b2
      injection b4 with b4; injection b4 with b4 b5; subst b4 b5
      obtain ⟨w1, w2, w3⟩ := wantF_wk hi.1 b1
      have hn : NM a.tx = true := by rw [w2] at w3 ⊢; exact hw.1 w3
      have := atomF_wk (wantF_in hi.1 b1).1 w1 hn b3
      exact ⟨fun y hy => by rw [List.mem_singleton.1 hy]; exact this.2, this.1⟩
  | k + 1, .sum, t, o, hi, hw, h => by
    intro l t' ho
    obtain ⟨o1, a1, a2, a3⟩ := pr_sum h
    cases o1 with
    | bad p e => have := a2 p e rfl; rw [ho] at this; simp at this
    | ok r =>
      obtain ⟨l1, t1⟩ := r
      obtain ⟨o2, b1, b2, b3⟩ := a3 l1 t1 rfl
      have u1 := pr_up s k .unit t _ hi a1 l1 t1 rfl
      have v1 := pr_ok s k .unit t _ hi hw a1 l1 t1 rfl
      cases o2 with
      | bad p e => have := b2 p e rfl; rw [ho] at this; simp at this
      | ok r =>
        obtain ⟨l2, t2⟩ := r
        obtain ⟨o3, c1, c2⟩ := b3 l2 t2 rfl
        have u2 := pr_up s k .alls t1 _ u1.1 b1 l2 t2 rfl
        have v2 := pr_ok s k .alls t1 _ u1.1 v1.2 b1 l2 t2 rfl
        rw [ho] at c2
        obtain ⟨⟨l3, t3⟩, d1, d2⟩ := Out.bind_ok c2.symm
        injection d2 with d2; injection d2 with d2 d3; subst d3
        have v3 := pr_ok s k .sums t2 _ u2.1 v2.2 c1 l3 t3 d1
        refine ⟨fun x hx => ?_, v3.2⟩
        rw [← d2] at hx
        simp only [List.nil_append, List.append_nil, List.mem_append] at hx
        rcases hx with (hx | hx) | hx
        · exact v1.1 x hx
        · exact v2.1 x hx
        · exact v3.1 x hx
  | k + 1, .alls, t, o, hi, hw, h => by
    intro l t' ho
    rw [pr] at h
    cases h1 : isF s 38 t with
    | bad p e => rw [h1] at h; injection h with h; rw [ho] at h; simp at h
    | ok r =>
      obtain ⟨b, t1⟩ := r
      cases b with
      | false =>
        rw [h1] at h; injection h with h; rw [ho] at h; injection h with h; injection h with h h'; subst h h'
        exact ⟨by simp, hw⟩
      | true =>
        rw [h1] at h
        simp only at h
        obtain ⟨o1, f1, h⟩ := bind_some' h
        have u1 := isF_up hi (by decide) h1
        cases o1 with
        | bad p e => injection h with h; rw [ho] at h; simp at h
        | ok r =>
          obtain ⟨l1, t2⟩ := r
          simp only at h
          obtain ⟨o2, f2, h⟩ := bind_some' h
          injection h with h; rw [ho] at h
          obtain ⟨⟨l2, t3⟩, d1, d2⟩ := Out.bind_ok h
          injection d2 with d2; injection d2 with d2 d3; subst d2 d3
          have u2 := pr_up s k .unit t1 _ u1.1 f1 l1 t2 rfl
          have v2 := pr_ok s k .unit t1 _ u1.1 (isF_wk hi.1 hw h1) f1 l1 t2 rfl
          have v3 := pr_ok s k .alls t2 _ u2.1 v2.2 f2 l2 t3 d1
          refine ⟨fun x hx => ?_, v3.2⟩
          simp only [List.mem_append, List.mem_singleton] at hx
          rcases hx with (hx | hx) | hx
          · exact v2.1 x hx
          · rw [hx]; exact op54_ok (by decide) (by decide) (by decide)
          · exact v3.1 x hx
  | k + 1, .sums, t, o, hi, hw, h => by
    intro l t' ho
    rw [pr] at h
    cases h1 : isF s 124 t with
    | bad p e => rw [h1] at h; injection h with h; rw [ho] at h; simp at h
    | ok r =>
      obtain ⟨b, t1⟩ := r
      cases b with
      | false =>
        rw [h1] at h; injection h with h; rw [ho] at h; injection h with h; injection h with h h'; subst h h'
        exact ⟨by simp, hw⟩
      | true =>
        rw [h1] at h
        simp only at h
        obtain ⟨o1, f1, h⟩ := bind_some' h
        have u1 := isF_up hi (by decide) h1
        cases o1 with
        | bad p e => injection h with h; rw [ho] at h; simp at h
        | ok r =>
          obtain ⟨l1, t2⟩ := r
          simp only at h
          obtain ⟨o2, f2, h⟩ := bind_some' h
          have u2 := pr_up s k .unit t1 _ u1.1 f1 l1 t2 rfl
          have v2 := pr_ok s k .unit t1 _ u1.1 (isF_wk hi.1 hw h1) f1 l1 t2 rfl
          cases o2 with
          | bad p e => injection h with h; rw [ho] at h; simp at h
          | ok r =>
            obtain ⟨l2, t3⟩ := r
            simp only at h
            obtain ⟨o3, f3, h⟩ := bind_some' h
            injection h with h; rw [ho] at h
            obtain ⟨⟨l3, t4⟩, d1, d2⟩ := Out.bind_ok h
            injection d2 with d2; injection d2 with d2 d3; subst d2 d3
            have u3 := pr_up s k .alls t2 _ u2.1 f2 l2 t3 rfl
            have v3 := pr_ok s k .alls t2 _ u2.1 v2.2 f2 l2 t3 rfl
            have v4 := pr_ok s k .sums t3 _ u3.1 v3.2 f3 l3 t4 d1
            refine ⟨fun x hx => ?_, v4.2⟩
            simp only [List.mem_append, List.mem_singleton] at hx
            rcases hx with ((hx | hx) | hx) | hx
            · exact v2.1 x hx
            · exact v3.1 x hx
            · rw [hx]; exact op54_ok (by decide) (by decide) (by decide)
            · exact v4.1 x hx
/-- enough rounds for a UNIT, .. at a place -/
def need (m : Md) : Nat := match m with | .sum => 2 | _ => 1
theorem pr_tot (s : ByteArray) : ∀ (k : Nat) (m : Md) (t : St), Iw s t → 2 * ((s.size : Int) - t.w.pl) + need m ≤ k → ∃ o, pr s k m t = some o
  | 0, m, t, hi, h => by
    have := hi.1.2; have := hi.2.2.1
    exfalso
    cases m <;> simp only [need] at h <;> omega
  | k + 1, .unit, t, hi, h => by
    simp only [need] at h
    have hU : ∀ t1, Iw s t1 → t.w.pl + 1 ≤ t1.w.pl → ∃ o, pr s k .unit t1 = some o := fun t1 h1 h2 => pr_tot s k .unit t1 h1 (by simp only [need]; omega)
    have hS : ∀ t1, Iw s t1 → t.w.pl + 1 ≤ t1.w.pl → ∃ o, pr s k .sum t1 = some o := fun t1 h1 h2 => pr_tot s k .sum t1 h1 (by simp only [need]; omega)
    rw [pr]
    cases h1 : isF s 33 t with
    | bad p e => exact ⟨_, rfl⟩
    | ok r =>
      obtain ⟨b, t1⟩ := r
      cases b with
      | true => have u := isF_up hi (by decide) h1; obtain ⟨o, ho⟩ := hU t1 u.1 u.2; exact ⟨_, by simp only [ho, Option.bind_some]; rfl⟩
      | false =>
        simp only
        cases h2 : isF s 40 t with
        | bad p e => exact ⟨_, rfl⟩
        | ok r =>
          obtain ⟨b, t1⟩ := r
          cases b with
          | true => have u := isF_up hi (by decide) h2; obtain ⟨o, ho⟩ := hS t1 u.1 u.2; exact ⟨_, by simp only [ho, Option.bind_some]; rfl⟩
          | false =>
            simp only
            cases h3 : isF s 42 t with
            | bad p e => exact ⟨_, rfl⟩
            | ok r =>
              obtain ⟨b, t1⟩ := r
              cases b with
              | true => exact ⟨_, rfl⟩
              | false =>
                simp only
                cases h4 : isF s 35 t with
                | bad p e => exact ⟨_, rfl⟩
                | ok r =>
                  obtain ⟨b, t1⟩ := r
                  cases b with
                  | true => exact ⟨_, rfl⟩
                  | false =>
                    simp only
                    cases h5 : isF s 63 t with
                    | bad p e => exact ⟨_, rfl⟩
                    | ok r =>
                      obtain ⟨b, t1⟩ := r
                      cases b <;> exact ⟨_, rfl⟩
  | k + 1, .sum, t, hi, h => by
    simp only [need] at h
    rw [pr]
    obtain ⟨o1, h1⟩ := pr_tot s k .unit t hi (by simp only [need]; omega)
    rw [h1]
    simp only [Option.bind_some]
    cases o1 with
    | bad p e => exact ⟨_, rfl⟩
    | ok r =>
      obtain ⟨l1, t1⟩ := r
      obtain ⟨i1, -, d1⟩ := pr_up s k .unit t _ hi h1 l1 t1 rfl
      simp only at d1 ⊢
      obtain ⟨o2, h2⟩ := pr_tot s k .alls t1 i1 (by simp only [need]; omega)
      rw [h2]
      simp only [Option.bind_some]
      cases o2 with
      | bad p e => exact ⟨_, rfl⟩
      | ok r =>
        obtain ⟨l2, t2⟩ := r
        obtain ⟨i2, -, d2⟩ := pr_up s k .alls t1 _ i1 h2 l2 t2 rfl
        simp only at d2 ⊢
        obtain ⟨o3, h3⟩ := pr_tot s k .sums t2 i2 (by simp only [need]; omega)
        rw [h3]
        exact ⟨_, rfl⟩
  | k + 1, .alls, t, hi, h => by
    simp only [need] at h
    rw [pr]
    cases h1 : isF s 38 t with
    | bad p e => exact ⟨_, rfl⟩
    | ok r =>
      obtain ⟨b, t1⟩ := r
      cases b with
      | false => exact ⟨_, rfl⟩
      | true =>
        have u := isF_up hi (by decide) h1
        simp only
        obtain ⟨o1, h2⟩ := pr_tot s k .unit t1 u.1 (by simp only [need]; omega)
        rw [h2]
        simp only [Option.bind_some]
        cases o1 with
        | bad p e => exact ⟨_, rfl⟩
        | ok r =>
          obtain ⟨l1, t2⟩ := r
          obtain ⟨i1, -, d1⟩ := pr_up s k .unit t1 _ u.1 h2 l1 t2 rfl
          simp only at d1 ⊢
          obtain ⟨o2, h3⟩ := pr_tot s k .alls t2 i1 (by simp only [need]; omega)
          rw [h3]
          exact ⟨_, rfl⟩
  | k + 1, .sums, t, hi, h => by
    simp only [need] at h
    rw [pr]
    cases h1 : isF s 124 t with
    | bad p e => exact ⟨_, rfl⟩
    | ok r =>
      obtain ⟨b, t1⟩ := r
      cases b with
      | false => exact ⟨_, rfl⟩
      | true =>
        have u := isF_up hi (by decide) h1
        simp only
        obtain ⟨o1, h2⟩ := pr_tot s k .unit t1 u.1 (by simp only [need]; omega)
        rw [h2]
        simp only [Option.bind_some]
        cases o1 with
        | bad p e => exact ⟨_, rfl⟩
        | ok r =>
          obtain ⟨l1, t2⟩ := r
          obtain ⟨i1, -, d1⟩ := pr_up s k .unit t1 _ u.1 h2 l1 t2 rfl
          simp only at d1 ⊢
          obtain ⟨o2, h3⟩ := pr_tot s k .alls t2 i1 (by simp only [need]; omega)
          rw [h3]
          simp only [Option.bind_some]
          cases o2 with
          | bad p e => exact ⟨_, rfl⟩
          | ok r =>
            obtain ⟨l2, t3⟩ := r
            obtain ⟨i2, -, d2⟩ := pr_up s k .alls t2 _ i1 h3 l2 t3 rfl
            simp only at d2 ⊢
            obtain ⟨o3, h4⟩ := pr_tot s k .sums t3 i2 (by simp only [need]; omega)
            rw [h4]
            exact ⟨_, rfl⟩
end Go.Proofs.Ytmgljgmieomngaa.Pz
namespace Go.Proofs.Ytmgljgmieomngaa.Pz
open Go Go.RowKit Go.Proofs.YtmgljgmieomngaaW.PrintWords Go.Proofs.YtmgljgmieomngaaW.PrintLast Go.Proofs.YtmgljgmieomngaaW.PrintMore Go.Proofs.Ytmgljgmieomngaa.Q Go.Proofs.Ytmgljgmieomngaa.Oct
set_option linter.unusedVariables false
/-- one text stands in the other, behind k bytes -/
structure Sh (s s' : ByteArray) (k : Nat) : Prop where
  size : s'.size = s.size + k
  at' : ∀ p : Int, 0 ≤ p → bt s' (p + k) = bt s p
theorem bt_inj {a b : ByteArray} (hs : a.size = b.size) (h : ∀ i : Int, 0 ≤ i → i < a.size → bt a i = bt b i) : a = b := by
  apply ByteArray.ext
  apply Array.ext
  · exact hs
  · intro i h1 h2
    have h1' : i < a.size := h1
    have h2' : i < b.size := h2
    have := h i (by omega) (by omega)
    rw [← bt_at a i (by simpa using h1'), ← bt_at b i (by simpa using h2')] at this
    simp only [Int.toNat_natCast] at this
    have e : (a[i]'h1').toNat = (b[i]'h2').toNat := by omega
    exact UInt8.toNat_inj.1 e
theorem scan_enough (f : Int → Bool) (s : ByteArray) : ∀ (d d' : Nat) (p : Int), (s.size : Int) ≤ p + d → (s.size : Int) ≤ p + d' → scan f s d p = scan f s d' p
  | 0, 0, p, h, h' => rfl
  | 0, d' + 1, p, h, h' => by rw [scan, scan, if_neg (by omega)]
  | d + 1, 0, p, h, h' => by rw [scan, scan, if_neg (by omega)]
  | d + 1, d' + 1, p, h, h' => by rw [scan, scan, scan_enough f s d d' (p + 1) (by omega) (by omega)]
theorem digs_enough (s : ByteArray) : ∀ (d d' : Nat) (p u : Int) (b : Bool), (s.size : Int) ≤ p + d → (s.size : Int) ≤ p + d' → digs s d p u b = digs s d' p u b
  | 0, 0, p, u, b, h, h' => rfl
  | 0, d' + 1, p, u, b, h, h' => by rw [digs, digs, if_neg (by omega)]
  | d + 1, 0, p, u, b, h, h' => by rw [digs, digs, if_neg (by omega)]
  | d + 1, d' + 1, p, u, b, h, h' => by rw [digs, digs, digs_enough s d d' (p + 1) _ _ (by omega) (by omega)]
theorem strB_enough (s : ByteArray) (pl : Int) : ∀ (d d' : Nat) (p : Int) (out : List Int), (s.size : Int) < p + d → (s.size : Int) < p + d' → strB s pl d p out = strB s pl d' p out
  | 0, 0, p, out, h, h' => rfl
  | 0, d' + 1, p, out, h, h' => by rw [strB, strB, if_pos (.inl (by omega))]
  | d + 1, 0, p, out, h, h' => by rw [strB, strB, if_pos (.inl (by omega))]
  | d + 1, d' + 1, p, out, h, h' => by
    rw [strB, strB, strB_enough s pl d d' (p + 1) _ (by omega) (by omega), strB_enough s pl d d' (p + 1 + 1) _ (by omega) (by omega), strB_enough s pl d d' (p + 3 + 1) _ (by omega) (by omega)]
/-- an answer, its place turned -/
def mp {α : Type} (k : Nat) (g : α → α) : Out α → Out α
  | .ok a => .ok (g a)
  | .bad p e => .bad (p + k) e
theorem mp_bind {α β : Type} {k : Nat} {g : α → α} {h : β → β} {o : Out α} {f f' : α → Out β} (hf : ∀ a, o = .ok a → f' (g a) = mp k h (f a)) : (mp k g o).bind f' = mp k h (o.bind f) := by
  cases o with
  | ok a => exact hf a rfl
  | bad p e => rfl
def shw (k : Nat) (w : Wd) : Wd := ⟨w.kd, w.lg, w.pl + k, w.tx, w.n⟩
def sh (k : Nat) (t : St) : St := ⟨t.p + k, shw k t.w⟩
def sh1 (k : Nat) (r : Int × Wd) : Int × Wd := (r.1 + k, shw k r.2)
section
variable {s s' : ByteArray} {k : Nat}
theorem Sh.lt (h : Sh s s' k) (p : Int) : (p + k < (s'.size : Int)) ↔ p < (s.size : Int) := by have := h.size; omega
theorem Sh.scan0 (h : Sh s s' k) (f : Int → Bool) : ∀ (d : Nat) (p : Int), 0 ≤ p → scan f s' d (p + k) = scan f s d p + k
  | 0, p, h0 => rfl
  | d + 1, p, h0 => by
    rw [scan, scan, h.at' p h0]
    by_cases c : p < (s.size : Int)
    · rw [if_pos c, if_pos ((h.lt p).2 c)]
      by_cases e : f (bt s p) = true
      · rw [if_pos e, if_pos e, show p + k + 1 = p + 1 + k by omega, h.scan0 f d (p + 1) (by omega)]
      · rw [if_neg e, if_neg e]
    · rw [if_neg c, if_neg (fun e => c ((h.lt p).1 e))]
theorem Sh.scan (h : Sh s s' k) (f : Int → Bool) (p : Int) (h0 : 0 ≤ p) : scan f s' s'.size (p + k) = Pz.scan f s s.size p + k := by
  rw [scan_enough f s' s'.size s.size (p + k) (by omega) (by have := h.size; omega)]
  exact h.scan0 f s.size p h0
theorem Sh.digs0 (h : Sh s s' k) : ∀ (d : Nat) (p u : Int) (b : Bool), 0 ≤ p → digs s' d (p + k) u b = ((digs s d p u b).1 + k, (digs s d p u b).2)
  | 0, p, u, b, h0 => rfl
  | d + 1, p, u, b, h0 => by
    rw [digs, digs, h.at' p h0]
    by_cases c : p < (s.size : Int) ∧ 48 ≤ bt s p ∧ bt s p ≤ 57
    · rw [if_pos c, if_pos ⟨(h.lt p).2 c.1, c.2⟩, show p + k + 1 = p + 1 + k by omega, h.digs0 d (p + 1) _ _ (by omega)]
    · rw [if_neg c, if_neg (fun e => c ⟨(h.lt p).1 e.1, e.2⟩)]
theorem Sh.strB0 (h : Sh s s' k) (pl : Int) : ∀ (d : Nat) (p : Int) (out : List Int), 0 ≤ p → strB s' (pl + k) d (p + k) out = mp k (fun r : Int × List Int => (r.1 + (k : Int), r.2)) (strB s pl d p out)
  | 0, p, out, h0 => rfl
  | d + 1, p, out, h0 => by
    rw [strB, strB, h.at' p h0, show p + k + 1 = p + 1 + k by omega, show p + k + 2 = p + 2 + k by omega, show p + k + 3 = p + 3 + k by omega, h.at' (p + 1) (by omega), h.at' (p + 2) (by omega), h.at' (p + 3) (by omega)]
    have e0 : (p + k ≥ (s'.size : Int)) ↔ p ≥ (s.size : Int) := by have := h.size; omega
    have e1 := h.lt (p + 1)
    have e3 := h.lt (p + 3)
    simp only [e0, e1, e3]
    by_cases c : p ≥ (s.size : Int) ∨ bt s p < 32 ∨ bt s p > 126
    · rw [if_pos c, if_pos c]; rfl
    · rw [if_neg c, if_neg c]
      by_cases c1 : bt s p = 34
      · rw [if_pos c1, if_pos c1]; rfl
      · rw [if_neg c1, if_neg c1]
        by_cases c2 : bt s p = 92
        · rw [if_pos c2, if_pos c2]
          by_cases c3 : p + 1 < (s.size : Int) ∧ (bt s (p + 1) = 34 ∨ bt s (p + 1) = 92)
          · rw [if_pos c3, if_pos c3, show p + 1 + k + 1 = p + 1 + 1 + k by omega, h.strB0 pl d (p + 1 + 1) _ (by omega)]
          · rw [if_neg c3, if_neg c3]
            by_cases c4 : p + 3 < (s.size : Int) ∧ bt s (p + 1) = 120 ∧ hexF (bt s (p + 2)) ≥ 0 ∧ hexF (bt s (p + 3)) ≥ 0
            · rw [if_pos c4, if_pos c4, show p + 3 + k + 1 = p + 3 + 1 + k by omega, h.strB0 pl d (p + 3 + 1) _ (by omega)]
            · rw [if_neg c4, if_neg c4]; rfl
        · rw [if_neg c2, if_neg c2, h.strB0 pl d (p + 1) _ (by omega)]
theorem Sh.ext (h : Sh s s' k) (a b : Int) (h0 : 0 ≤ a) (h1 : a ≤ b) (h2 : b ≤ (s.size : Int)) : s'.extract (a + k).toNat (b + k).toNat = s.extract a.toNat b.toNat := by
  have := h.size
  apply bt_inj
  · rw [ByteArray.size_extract, ByteArray.size_extract]; omega
  · intro i i0 i1
    rw [ByteArray.size_extract] at i1
    rw [bt_ext s' _ _ (by omega) i i0 (by omega), bt_ext s _ _ (by omega) i i0 (by omega), ← h.at' _ (by omega)]
    congr 1; omega
theorem Sh.nameF (h : Sh s s' k) (p : Int) (h0 : 0 ≤ p) (h1 : p ≤ (s.size : Int)) : nameF s' (p + k) = mp k (sh1 k) (Pz.nameF s p) := by
  unfold Pz.nameF
  simp only
  rw [h.scan _ p h0]
  have hr := scan_bnd isNm s s.size p h1
  generalize Pz.scan isNm s s.size p = q at *
  rw [show q + k - (p + k) = q - p by omega, h.ext p q h0 hr.1 hr.2]
  split <;> rfl
theorem Sh.numF (h : Sh s s' k) (p : Int) (h0 : 0 ≤ p) (h1 : p < (s.size : Int)) : numF s' (p + k) = mp k (sh1 k) (Pz.numF s p) := by
  unfold Pz.numF
  simp only
  rw [h.at' p h0]
  have hf : (if (bt s p == 45) = true then p + k + 1 else p + k) = (if (bt s p == 45) = true then p + 1 else p) + k := by split <;> omega
  have hf0 : 0 ≤ (if (bt s p == 45) = true then p + 1 else p) := by split <;> omega
  rw [hf]
  generalize (if (bt s p == 45) = true then p + 1 else p) = f at *
  rw [digs_enough s' s'.size s.size (f + k) 0 false (by omega) (by have := h.size; omega), h.digs0 s.size f 0 false hf0, h.at' f hf0]
  generalize digs s s.size f 0 false = R
  simp only
  have e1 : (R.1 + k = f + k) ↔ R.1 = f := by omega
  have e2 : (R.1 + k > f + k + 1) ↔ R.1 > f + 1 := by omega
  simp only [e1, e2]
  split
  · rfl
  · split <;> rfl
theorem Sh.strF (h : Sh s s' k) (p : Int) (h0 : 0 ≤ p) : strF s' (p + k) = mp k (sh1 k) (Pz.strF s p) := by
  unfold Pz.strF
  rw [strB_enough s' (p + k) (s'.size + 1) (s.size + 1) (p + k + 1) [] (by omega) (by have := h.size; omega), show p + k + 1 = p + 1 + k by omega, h.strB0 p (s.size + 1) (p + 1) [] (by omega)]
  refine mp_bind (fun a ha => ?_)
  simp only
  split <;> rfl
theorem Sh.markF (h : Sh s s' k) (p c : Int) (h0 : 0 ≤ p) : markF s' (p + k) c = mp k (sh1 k) (Pz.markF s p c) := by
  unfold Pz.markF
  rw [show p + k + 1 = p + 1 + k by omega, h.at' (p + 1) (by omega)]
  have e := h.lt (p + 1)
  simp only [e]
  split
  · split
    · simp [mp, sh1, shw]; omega
    · rfl
  · split <;> rfl
theorem Sh.next (h : Sh s s' k) (p : Int) (h0 : 0 ≤ p) (h1 : p ≤ (s.size : Int)) : nextF s' (p + k) = mp k (sh k) (nextF s p) := by
  unfold nextF
  simp only
  rw [h.scan _ p h0]
  have hs := scan_bnd (fun c => c == 32) s s.size p h1
  generalize Pz.scan (fun c => c == 32) s s.size p = q at *
  by_cases c : q < (s.size : Int)
  · rw [if_pos c, if_pos ((h.lt q).2 c), h.at' q (by omega)]
    have e : (if 97 ≤ bt s q ∧ bt s q ≤ 122 then Pz.nameF s' (q + k) else if bt s q = 45 ∨ (48 ≤ bt s q ∧ bt s q ≤ 57) then Pz.numF s' (q + k) else if bt s q = 34 then Pz.strF s' (q + k) else Pz.markF s' (q + k) (bt s q)) =
        mp k (sh1 k) (if 97 ≤ bt s q ∧ bt s q ≤ 122 then Pz.nameF s q else if bt s q = 45 ∨ (48 ≤ bt s q ∧ bt s q ≤ 57) then Pz.numF s q else if bt s q = 34 then Pz.strF s q else Pz.markF s q (bt s q)) := by
      split
      · exact h.nameF q (by omega) (by omega)
      · split
        · exact h.numF q (by omega) c
        · split
          · exact h.strF q (by omega)
          · exact h.markF q _ (by omega)
    rw [e]
    exact mp_bind (fun a ha => rfl)
  · rw [if_neg c, if_neg (fun e => c ((h.lt q).1 e))]
    rfl
theorem Sh.is (h : Sh s s' k) (c : Int) (t : St) (hi : In s t) : isF s' c (sh k t) = mp k (fun r => (r.1, sh k r.2)) (isF s c t) := by
  unfold isF
  show (if t.w.kd = c ∧ t.w.lg = false then (nextF s' (t.p + k)).bind fun t' => Out.ok (true, t') else .ok (false, sh k t)) = _
  by_cases a : t.w.kd = c ∧ t.w.lg = false
  · rw [if_pos a, if_pos a, h.next t.p hi.1 hi.2]; exact mp_bind (fun a ha => rfl)
  · rw [if_neg a, if_neg a]; rfl
theorem Sh.want (h : Sh s s' k) (c : Int) (t : St) (hi : In s t) : wantF s' c (sh k t) = mp k (fun r => (shw k r.1, sh k r.2)) (wantF s c t) := by
  unfold wantF
  show (if t.w.kd = c ∧ t.w.lg = false then (nextF s' (t.p + k)).bind fun t' => Out.ok (shw k t.w, t') else .bad (t.w.pl + k) 4) = _
  by_cases a : t.w.kd = c ∧ t.w.lg = false
  · rw [if_pos a, if_pos a, h.next t.p hi.1 hi.2]; exact mp_bind (fun a ha => rfl)
  · rw [if_neg a, if_neg a]; rfl
theorem Sh.part (h : Sh s s' k) (t : St) (hi : In s t) : partF s' (sh k t) = mp k (fun r => (r.1, sh k r.2)) (partF s t) := by
  unfold partF
  show (if t.w.kd = 100 then (if t.w.n > 1048576 ∨ t.w.n < -1048576 then Out.bad (t.w.pl + k) 6 else (nextF s' (t.p + k)).bind fun t' => .ok (t.w.n, t')) else .bad (t.w.pl + k) 4) = _
  by_cases a : t.w.kd = 100
  · rw [if_pos a, if_pos a]
    by_cases b : t.w.n > 1048576 ∨ t.w.n < -1048576
    · rw [if_pos b, if_pos b]; rfl
    · rw [if_neg b, if_neg b, h.next t.p hi.1 hi.2]; exact mp_bind (fun a ha => rfl)
  · rw [if_neg a, if_neg a]; rfl
theorem Sh.point (h : Sh s s' k) (t : St) (hi : In s t) : pointF s' (sh k t) = mp k (fun r => (r.1, sh k r.2)) (pointF s t) := by
  unfold pointF
  rw [h.want 40 t hi]
  refine mp_bind (fun a e1 => ?_)
  have i1 := (wantF_in hi (u := a.1) (t' := a.2) e1).1
  simp only
  rw [h.part a.2 i1]
  refine mp_bind (fun x e2 => ?_)
  have i2 := (partF_in i1 (n := x.1) (t' := x.2) e2).1
  simp only
  rw [h.want 44 x.2 i2]
  refine mp_bind (fun b e3 => ?_)
  have i3 := (wantF_in i2 (u := b.1) (t' := b.2) e3).1
  simp only
  rw [h.part b.2 i3]
  refine mp_bind (fun y e4 => ?_)
  have i4 := (partF_in i3 (n := y.1) (t' := y.2) e4).1
  simp only
  rw [h.want 41 y.2 i4]
  exact mp_bind (fun c e5 => rfl)
theorem Sh.plain (h : Sh s s' k) (b : Bool) (t : St) (hi : In s t) : plainF s' b (sh k t) = mp k (fun r => (r.1, sh k r.2)) (plainF s b t) := by
  unfold plainF
  show (if t.w.kd = 100 ∧ b = false then (nextF s' (t.p + k)).bind fun t' => Out.ok ((⟨1, t.w.n, ⟨#[]⟩, false, ⟨0, 0⟩⟩ : S43), t') else (wantF s' 115 (sh k t)).bind fun a => .ok (⟨2, 0, a.1.tx, false, ⟨0, 0⟩⟩, a.2)) = _
  by_cases a : t.w.kd = 100 ∧ b = false
  · rw [if_pos a, if_pos a, h.next t.p hi.1 hi.2]; exact mp_bind (fun a ha => rfl)
  · rw [if_neg a, if_neg a, h.want 115 t hi]; exact mp_bind (fun a ha => rfl)
theorem Sh.any (h : Sh s s' k) (t : St) (hi : In s t) : anyF s' (sh k t) = mp k (fun r => (r.1, sh k r.2)) (anyF s t) := by
  unfold anyF
  show (if t.w.kd = 40 then pointF s' (sh k t) else if t.w.kd = 110 ∧ (t.w.tx = yesB ∨ t.w.tx = noB) then (nextF s' (t.p + k)).bind fun t' => Out.ok ((⟨3, 0, ⟨#[]⟩, t.w.tx == yesB, ⟨0, 0⟩⟩ : S43), t') else plainF s' false (sh k t)) = _
  by_cases a : t.w.kd = 40
  · rw [if_pos a, if_pos a]; exact h.point t hi
  · rw [if_neg a, if_neg a]
    by_cases b : t.w.kd = 110 ∧ (t.w.tx = yesB ∨ t.w.tx = noB)
    · rw [if_pos b, if_pos b, h.next t.p hi.1 hi.2]; exact mp_bind (fun a ha => rfl)
    · rw [if_neg b, if_neg b]; exact h.plain false t hi
theorem Sh.atom (h : Sh s s' k) (nm : ByteArray) (t : St) (hi : In s t) : atomF s' nm (sh k t) = mp k (fun r => (r.1, sh k r.2)) (atomF s nm t) := by
  unfold atomF
  have e : cmpF (sh k t).w = cmpF t.w := rfl
  simp only [e]
  generalize cmpF t.w = c
  by_cases a : c = 2
  · rw [if_pos a, if_pos a]; rfl
  · rw [if_neg a, if_neg a]
    show ((nextF s' (t.p + k)).bind _) = _
    rw [h.next t.p hi.1 hi.2]
    refine mp_bind (fun t1 e1 => ?_)
    have i1 := (nextF_in hi.1 hi.2 e1).1
    by_cases b : c = 3 ∨ c = 4
    · rw [if_pos b, if_pos b, h.any t1 i1]; exact mp_bind (fun a ha => rfl)
    · rw [if_neg b, if_neg b]
      by_cases d : c = 9
      · rw [if_pos d, if_pos d, h.plain true t1 i1]; exact mp_bind (fun a ha => rfl)
      · rw [if_neg d, if_neg d]
        by_cases f : c = 10
        · rw [if_pos f, if_pos f, h.point t1 i1]
          refine mp_bind (fun x e2 => ?_)
          have i2 := (pointF_in i1 (x := x.1) (t' := x.2) e2).1
          simp only
          rw [h.want 47 x.2 i2]
          refine mp_bind (fun y e3 => ?_)
          have i3 := (wantF_in i2 (u := y.1) (t' := y.2) e3).1
          simp only
          show (if y.2.w.kd = 100 ∧ (y.2.w.n < 0 ∨ y.2.w.n > 1048576) then Out.bad (y.2.w.pl + k) 6 else _) = _
          by_cases g : y.2.w.kd = 100 ∧ (y.2.w.n < 0 ∨ y.2.w.n > 1048576)
          · rw [if_pos g, if_pos g]; rfl
          · rw [if_neg g, if_neg g, h.want 100 y.2 i3]; exact mp_bind (fun a ha => rfl)
        · rw [if_neg f, if_neg f, h.plain false t1 i1]; exact mp_bind (fun a ha => rfl)
end
end Go.Proofs.Ytmgljgmieomngaa.Pz
namespace Go.Proofs.Ytmgljgmieomngaa.Pz
open Go Go.RowKit Go.Proofs.YtmgljgmieomngaaW.PrintWords Go.Proofs.YtmgljgmieomngaaW.PrintLast Go.Proofs.YtmgljgmieomngaaW.PrintMore Go.Proofs.Ytmgljgmieomngaa.Q Go.Proofs.Ytmgljgmieomngaa.Oct
set_option linter.unusedVariables false
set_option linter.unusedSimpArgs false
/-- an answer's states turned -/
def mo (k : Nat) (o : Out (List S54 × St)) : Out (List S54 × St) := mp k (fun r => (r.1, sh k r.2)) o
section
variable {s s' : ByteArray} {k : Nat}
theorem mo_bind {o : Out (List S54 × St)} {f f' : List S54 × St → Out (List S54 × St)} (hf : ∀ l t, o = .ok (l, t) → f' (l, sh k t) = mo k (f (l, t))) : (mo k o).bind f' = mo k (o.bind f) := by
  cases o with
  | ok a => exact hf a.1 a.2 rfl
  | bad p e => rfl
theorem Sh.pr (h : Sh s s' k) : ∀ (n : Nat) (m : Md) (t : St), Iw s t → pr s' n m (sh k t) = (pr s n m t).map (mo k)
  | 0, m, t, hi => by simp [Pz.pr]
  | n + 1, .unit, t, hi => by
    rw [Pz.pr, Pz.pr, h.is 33 t hi.1, h.is 40 t hi.1, h.is 42 t hi.1, h.is 35 t hi.1, h.is 63 t hi.1]
    cases h1 : isF s 33 t with
    | bad p e => rfl
    | ok r =>
      obtain ⟨b, t1⟩ := r
      cases b with
      | true =>
        have u := isF_up hi (by decide) h1
        simp only [mp, h.pr n .unit t1 u.1]
        cases Pz.pr s n .unit t1 with
        | none => rfl
        | some o => simp only [Option.map_some, Option.bind_some]; exact congrArg some (mo_bind (fun l t e => rfl))
      | false =>
        simp only [mp]
        cases h2 : isF s 40 t with
        | bad p e => rfl
        | ok r =>
          obtain ⟨b, t1⟩ := r
          cases b with
          | true =>
            have u := isF_up hi (by decide) h2
            simp only [mp, h.pr n .sum t1 u.1]
            cases hp : Pz.pr s n .sum t1 with
            | none => rfl
            | some o =>
              simp only [Option.map_some, Option.bind_some]
              refine congrArg some (mo_bind (fun l t e => ?_))
              have i2 := pr_up s n .sum t1 o u.1 hp l t e
              simp only
              rw [h.want 41 t i2.1.1]
              exact mp_bind (fun a ha => rfl)
          | false =>
            simp only [mp]
            cases h3 : isF s 42 t with
            | bad p e => rfl
            | ok r =>
              obtain ⟨b, t1⟩ := r
              cases b with
              | true => rfl
              | false =>
                simp only [mp]
                cases h4 : isF s 35 t with
                | bad p e => rfl
                | ok r =>
                  obtain ⟨b, t1⟩ := r
                  cases b with
                  | true => rfl
                  | false =>
                    simp only [mp]
                    cases h5 : isF s 63 t with
                    | bad p e => rfl
                    | ok r =>
                      obtain ⟨b, t1⟩ := r
                      cases b with
                      | true =>
                        have u := isF_up hi (by decide) h5
                        simp only [mp]
                        rw [h.want 110 t1 u.1.1]
                        refine congrArg some ?_
                        exact mp_bind (h := fun r : List S54 × St => (r.1, sh k r.2)) (fun a ha => rfl)
                      | false =>
                        simp only [mp]
                        rw [h.want 110 t hi.1]
                        refine congrArg some ?_
                        refine mp_bind (h := fun r : List S54 × St => (r.1, sh k r.2)) (fun a ha => ?_)
                        have i1 := (wantF_in hi.1 (u := a.1) (t' := a.2) ha).1
                        simp only
                        show ((atomF s' a.1.tx (sh k a.2)).bind _) = _
                        rw [h.atom a.1.tx a.2 i1]
                        exact mp_bind (fun b hb => rfl)
  | n + 1, .sum, t, hi => by
    rw [Pz.pr, Pz.pr, h.pr n .unit t hi]
    cases h1 : Pz.pr s n .unit t with
    | none => rfl
    | some o1 =>
      simp only [Option.map_some, Option.bind_some]
      cases o1 with
      | bad p e => rfl
      | ok r =>
        obtain ⟨l1, t1⟩ := r
        have u1 := pr_up s n .unit t _ hi h1 l1 t1 rfl
        simp only [mo, mp]
        rw [h.pr n .alls t1 u1.1]
        cases h2 : Pz.pr s n .alls t1 with
        | none => rfl
        | some o2 =>
          simp only [Option.map_some, Option.bind_some]
          cases o2 with
          | bad p e => rfl
          | ok r =>
            obtain ⟨l2, t2⟩ := r
            have u2 := pr_up s n .alls t1 _ u1.1 h2 l2 t2 rfl
            simp only [mo, mp]
            rw [h.pr n .sums t2 u2.1]
            cases h3 : Pz.pr s n .sums t2 with
            | none => rfl
            | some o3 =>
              simp only [Option.map_some, Option.bind_some]
              exact congrArg some (mo_bind (fun l t e => rfl))
  | n + 1, .alls, t, hi => by
    rw [Pz.pr, Pz.pr, h.is 38 t hi.1]
    cases h1 : isF s 38 t with
    | bad p e => rfl
    | ok r =>
      obtain ⟨b, t1⟩ := r
      cases b with
      | false => rfl
      | true =>
        have u := isF_up hi (by decide) h1
        simp only [mp]
        rw [h.pr n .unit t1 u.1]
        cases h2 : Pz.pr s n .unit t1 with
        | none => rfl
        | some o2 =>
          simp only [Option.map_some, Option.bind_some]
          cases o2 with
          | bad p e => rfl
          | ok r =>
            obtain ⟨l2, t2⟩ := r
            have u2 := pr_up s n .unit t1 _ u.1 h2 l2 t2 rfl
            simp only [mo, mp]
            rw [h.pr n .alls t2 u2.1]
            cases h3 : Pz.pr s n .alls t2 with
            | none => rfl
            | some o3 =>
              simp only [Option.map_some, Option.bind_some]
              exact congrArg some (mo_bind (fun l t e => rfl))
  | n + 1, .sums, t, hi => by
    rw [Pz.pr, Pz.pr, h.is 124 t hi.1]
    cases h1 : isF s 124 t with
    | bad p e => rfl
    | ok r =>
      obtain ⟨b, t1⟩ := r
      cases b with
      | false => rfl
      | true =>
        have u := isF_up hi (by decide) h1
        simp only [mp]
        rw [h.pr n .unit t1 u.1]
        cases h2 : Pz.pr s n .unit t1 with
        | none => rfl
        | some o1 =>
          simp only [Option.map_some, Option.bind_some]
          cases o1 with
          | bad p e => rfl
          | ok r =>
            obtain ⟨l1, t2⟩ := r
            have u1 := pr_up s n .unit t1 _ u.1 h2 l1 t2 rfl
            simp only [mo, mp]
            rw [h.pr n .alls t2 u1.1]
            cases h3 : Pz.pr s n .alls t2 with
            | none => rfl
            | some o2 =>
              simp only [Option.map_some, Option.bind_some]
              cases o2 with
              | bad p e => rfl
              | ok r =>
                obtain ⟨l2, t3⟩ := r
                have u2 := pr_up s n .alls t2 _ u1.1 h3 l2 t3 rfl
                simp only [mo, mp]
                rw [h.pr n .sums t3 u2.1]
                cases h4 : Pz.pr s n .sums t3 with
                | none => rfl
                | some o3 =>
                  simp only [Option.map_some, Option.bind_some]
                  exact congrArg some (mo_bind (fun l t e => rfl))
end
theorem scan_skip (f : Int → Bool) (s : ByteArray) : ∀ (k d : Nat) (p : Int), (∀ i : Int, p ≤ i → i < p + k → i < (s.size : Int) ∧ f (bt s i) = true) → scan f s (d + k) p = scan f s d (p + k)
  | 0, d, p, h => by simp
  | k + 1, d, p, h => by
    rw [show d + (k + 1) = d + k + 1 by omega, scan, if_pos (h p (by omega) (by omega)).1, if_pos (h p (by omega) (by omega)).2, scan_skip f s k d (p + 1) (fun i h0 h1 => h i (by omega) (by omega))]
    congr 1; omega
/-- blanks at the begin are passed -/
theorem next_skip {s : ByteArray} {k : Nat} (hk : k ≤ s.size) (hb : ∀ i : Int, 0 ≤ i → i < k → bt s i = 32) : nextF s 0 = nextF s k := by
  have e : scan (fun c => c == 32) s s.size 0 = scan (fun c => c == 32) s s.size k := by
    have h1 := scan_skip (fun c => c == 32) s k (s.size - k) 0 (fun i h0 h1 => ⟨by omega, by simpa using hb i h0 (by omega)⟩)
    rw [show s.size - k + k = s.size by omega, Int.zero_add] at h1
    rw [h1]
    exact scan_enough _ s _ _ _ (by omega) (by omega)
  unfold nextF
  simp only [e]
/-- no fault is the error 0; its place lies in the text -/
def NB {α : Type} (s : ByteArray) (o : Out α) : Prop := ∀ p e, o = .bad p e → e ≠ 0 ∧ 0 ≤ p ∧ p ≤ (s.size : Int)
theorem NB.ok {α : Type} {s : ByteArray} (a : α) : NB s (.ok a) := fun p e h => by simp at h
theorem NB.bad {α : Type} {s : ByteArray} {p e : Int} (h : e ≠ 0) (h0 : 0 ≤ p) (h1 : p ≤ (s.size : Int)) : NB s (.bad p e : Out α) := fun p' e' h' => by injection h' with h2 h'; rw [← h', ← h2]; exact ⟨h, h0, h1⟩
theorem NB.of {α β : Type} {s : ByteArray} {o : Out α} {p e : Int} (h : NB s o) (he : o = .bad p e) : NB s (.bad p e : Out β) := NB.bad (h p e he).1 (h p e he).2.1 (h p e he).2.2
theorem NB.bind {α β : Type} {s : ByteArray} {o : Out α} {f : α → Out β} (h : NB s o) (hf : ∀ a, o = .ok a → NB s (f a)) : NB s (o.bind f) := by
  cases o with
  | ok a => exact hf a rfl
  | bad p e => exact NB.of h rfl
theorem strB_nb (s : ByteArray) (pl : Int) (h0 : 0 ≤ pl) (h1 : pl ≤ (s.size : Int)) : ∀ (d : Nat) (x : Int) (out : List Int), NB s (strB s pl d x out)
  | 0, x, out => NB.bad (by decide) h0 h1
  | d + 1, x, out => by
    rw [strB]
    split
    · exact NB.bad (by decide) h0 h1
    · split
      · exact NB.ok _
      · split
        · split
          · exact strB_nb s pl h0 h1 d _ _
          · split
            · exact strB_nb s pl h0 h1 d _ _
            · exact NB.bad (by decide) h0 h1
        · exact strB_nb s pl h0 h1 d _ _
theorem nextF_nb {s : ByteArray} {q : Int} (h0 : 0 ≤ q) (h1 : q ≤ (s.size : Int)) : NB s (nextF s q) := by
  unfold nextF
  simp only
  have hs := scan_bnd (fun c => c == 32) s s.size q h1
  generalize scan (fun c => c == 32) s s.size q = q at *
  have g0 : 0 ≤ q := by omega
  have g1 := hs.2
  split
  · refine NB.bind ?_ (fun a _ => NB.ok _)
    split
    · unfold nameF; simp only
      split
      · exact NB.bad (by decide) g0 g1
      · exact NB.ok _
    · split
      · unfold numF; simp only
        generalize (if (bt s q == 45) = true then q + 1 else q) = f
        generalize digs s s.size f 0 false = R
        split
        · exact NB.bad (by decide) g0 g1
        · split
          · exact NB.bad (by decide) g0 g1
          · exact NB.ok _
      · split
        · unfold strF
          refine NB.bind (strB_nb _ _ g0 g1 _ _ _) (fun a _ => ?_)
          split
          · exact NB.bad (by decide) g0 g1
          · exact NB.ok _
        · unfold markF
          split
          · split <;> exact NB.ok _
          · split
            · exact NB.ok _
            · exact NB.bad (by decide) g0 g1
  · exact NB.ok _
theorem Iw.pl {s : ByteArray} {t : St} (h : Iw s t) : 0 ≤ t.w.pl ∧ t.w.pl ≤ (s.size : Int) := ⟨h.2.1, by have := h.1.2; have := h.2.2.1; omega⟩
theorem isF_nb {s : ByteArray} (c : Int) {t : St} (hi : Iw s t) : NB s (isF s c t) := by
  unfold isF
  split
  · exact NB.bind (nextF_nb hi.1.1 hi.1.2) (fun a _ => NB.ok _)
  · exact NB.ok _
theorem wantF_nb {s : ByteArray} (c : Int) {t : St} (hi : Iw s t) : NB s (wantF s c t) := by
  unfold wantF
  split
  · exact NB.bind (nextF_nb hi.1.1 hi.1.2) (fun a _ => NB.ok _)
  · exact NB.bad (by decide) hi.pl.1 hi.pl.2
theorem partF_nb {s : ByteArray} {t : St} (hi : Iw s t) : NB s (partF s t) := by
  unfold partF
  split
  · split
    · exact NB.bad (by decide) hi.pl.1 hi.pl.2
    · exact NB.bind (nextF_nb hi.1.1 hi.1.2) (fun a _ => NB.ok _)
  · exact NB.bad (by decide) hi.pl.1 hi.pl.2
theorem pointF_nb {s : ByteArray} {t : St} (hi : Iw s t) : NB s (pointF s t) := by
  unfold pointF
  refine NB.bind (wantF_nb _ hi) (fun a e1 => ?_)
  have i1 := (wantF_up hi (by decide) (u := a.1) (t' := a.2) e1).1
  refine NB.bind (partF_nb i1) (fun b e2 => ?_)
  have i2 := (partF_up i1 (n := b.1) (t' := b.2) e2).1
  refine NB.bind (wantF_nb _ i2) (fun c e3 => ?_)
  have i3 := (wantF_up i2 (by decide) (u := c.1) (t' := c.2) e3).1
  refine NB.bind (partF_nb i3) (fun d e4 => ?_)
  have i4 := (partF_up i3 (n := d.1) (t' := d.2) e4).1
  exact NB.bind (wantF_nb _ i4) (fun e _ => NB.ok _)
theorem plainF_nb {s : ByteArray} (b : Bool) {t : St} (hi : Iw s t) : NB s (plainF s b t) := by
  unfold plainF
  split
  · exact NB.bind (nextF_nb hi.1.1 hi.1.2) (fun a _ => NB.ok _)
  · exact NB.bind (wantF_nb _ hi) (fun a _ => NB.ok _)
theorem anyF_nb {s : ByteArray} {t : St} (hi : Iw s t) : NB s (anyF s t) := by
  unfold anyF
  split
  · exact pointF_nb hi
  · split
    · exact NB.bind (nextF_nb hi.1.1 hi.1.2) (fun a _ => NB.ok _)
    · exact plainF_nb _ hi
theorem atomF_nb {s : ByteArray} (nm : ByteArray) {t : St} (hi : Iw s t) : NB s (atomF s nm t) := by
  unfold atomF
  simp only
  split
  · exact NB.ok _
  · refine NB.bind (nextF_nb hi.1.1 hi.1.2) (fun t1 e1 => ?_)
    have i1 := (nextF_iw hi.1.1 hi.1.2 e1).1
    split
    · exact NB.bind (anyF_nb i1) (fun a _ => NB.ok _)
    · split
      · exact NB.bind (plainF_nb _ i1) (fun a _ => NB.ok _)
      · split
        · refine NB.bind (pointF_nb i1) (fun a e2 => ?_)
          have i2 := (pointF_up i1 (x := a.1) (t' := a.2) e2).1
          refine NB.bind (wantF_nb _ i2) (fun b e3 => ?_)
          have i3 := (wantF_up i2 (by decide) (u := b.1) (t' := b.2) e3).1
          split
          · exact NB.bad (by decide) i3.pl.1 i3.pl.2
          · exact NB.bind (wantF_nb _ i3) (fun a _ => NB.ok _)
        · exact NB.bind (plainF_nb _ i1) (fun a _ => NB.ok _)
theorem pr_nb (s : ByteArray) : ∀ (k : Nat) (m : Md) (t : St) (o : Out (List S54 × St)), Iw s t → pr s k m t = some o → NB s o
  | 0, m, t, o, hi, h => by simp [pr] at h
  | k + 1, .unit, t, o, hi, h => by
    rcases pr_unit h with ⟨p, e, a, rfl⟩ | ⟨t1, o1, a1, a2, rfl⟩ | ⟨-, h⟩
    · exact NB.of (isF_nb _ hi) a
    · exact NB.bind (pr_nb s k _ _ _ (isF_up hi (by decide) a1).1 a2) (fun a _ => NB.ok _)
    rcases h with ⟨p, e, a, rfl⟩ | ⟨t1, o1, a1, a2, rfl⟩ | ⟨-, h⟩
    · exact NB.of (isF_nb _ hi) a
    · have i1 := (isF_up hi (by decide) a1).1
      exact NB.bind (pr_nb s k _ _ _ i1 a2) (fun a ha => NB.bind (wantF_nb _ (pr_up s k .sum t1 o1 i1 a2 a.1 a.2 ha).1) (fun a _ => NB.ok _))
    rcases h with ⟨p, e, a, rfl⟩ | ⟨t1, a1, rfl⟩ | ⟨-, h⟩
    · exact NB.of (isF_nb _ hi) a
    · exact NB.ok _
    rcases h with ⟨p, e, a, rfl⟩ | ⟨t1, a1, rfl⟩ | ⟨-, h⟩
    · exact NB.of (isF_nb _ hi) a
    · exact NB.ok _
    rcases h with ⟨p, e, a, rfl⟩ | ⟨t1, a1, rfl⟩ | ⟨-, rfl⟩
    · exact NB.of (isF_nb _ hi) a
    · exact NB.bind (wantF_nb _ (isF_up hi (by decide) a1).1) (fun a _ => NB.ok _)
    · exact NB.bind (wantF_nb _ hi) (fun a ha => NB.bind (atomF_nb _ (wantF_up hi (by decide) (u := a.1) (t' := a.2) ha).1) (fun a _ => NB.ok _))
  | k + 1, .sum, t, o, hi, h => by
    obtain ⟨o1, a1, a2, a3⟩ := pr_sum h
    cases o1 with
    | bad p e => rw [a2 p e rfl]; exact pr_nb s k _ _ _ hi a1
    | ok r =>
      obtain ⟨l1, t1⟩ := r
      obtain ⟨o2, b1, b2, b3⟩ := a3 l1 t1 rfl
      have i1 := (pr_up s k .unit t _ hi a1 l1 t1 rfl).1
      cases o2 with
      | bad p e => rw [b2 p e rfl]; exact pr_nb s k _ _ _ i1 b1
      | ok r =>
        obtain ⟨l2, t2⟩ := r
        obtain ⟨o3, c1, c2⟩ := b3 l2 t2 rfl
        have i2 := (pr_up s k .alls t1 _ i1 b1 l2 t2 rfl).1
        rw [c2]
        exact NB.bind (pr_nb s k _ _ _ i2 c1) (fun a _ => NB.ok _)
  | k + 1, .alls, t, o, hi, h => by
    rw [pr] at h
    cases h1 : isF s 38 t with
    | bad p e => rw [h1] at h; injection h with h; rw [← h]; exact NB.of (isF_nb _ hi) h1
    | ok r =>
      obtain ⟨b, t1⟩ := r
      cases b with
      | false => rw [h1] at h; injection h with h; rw [← h]; exact NB.ok _
      | true =>
        rw [h1] at h
        simp only at h
        obtain ⟨o1, f1, h⟩ := bind_some' h
        have i1 := (isF_up hi (by decide) h1).1
        cases o1 with
        | bad p e => injection h with h; rw [← h]; exact pr_nb s k _ _ _ i1 f1
        | ok r =>
          obtain ⟨l1, t2⟩ := r
          have i2 := (pr_up s k .unit t1 _ i1 f1 l1 t2 rfl).1
          simp only at h
          obtain ⟨o2, f2, h⟩ := bind_some' h
          injection h with h; rw [← h]
          exact NB.bind (pr_nb s k _ _ _ i2 f2) (fun a _ => NB.ok _)
  | k + 1, .sums, t, o, hi, h => by
    rw [pr] at h
    cases h1 : isF s 124 t with
    | bad p e => rw [h1] at h; injection h with h; rw [← h]; exact NB.of (isF_nb _ hi) h1
    | ok r =>
      obtain ⟨b, t1⟩ := r
      cases b with
      | false => rw [h1] at h; injection h with h; rw [← h]; exact NB.ok _
      | true =>
        rw [h1] at h
        simp only at h
        obtain ⟨o1, f1, h⟩ := bind_some' h
        have i1 := (isF_up hi (by decide) h1).1
        cases o1 with
        | bad p e => injection h with h; rw [← h]; exact pr_nb s k _ _ _ i1 f1
        | ok r =>
          obtain ⟨l1, t2⟩ := r
          have i2 := (pr_up s k .unit t1 _ i1 f1 l1 t2 rfl).1
          simp only at h
          obtain ⟨o2, f2, h⟩ := bind_some' h
          cases o2 with
          | bad p e => injection h with h; rw [← h]; exact pr_nb s k _ _ _ i2 f2
          | ok r =>
            obtain ⟨l2, t3⟩ := r
            have i3 := (pr_up s k .alls t2 _ i2 f2 l2 t3 rfl).1
            simp only at h
            obtain ⟨o3, f3, h⟩ := bind_some' h
            injection h with h; rw [← h]
            exact NB.bind (pr_nb s k _ _ _ i3 f3) (fun a _ => NB.ok _)
/-- the terms that Parse tells are right -/
theorem Check_some (xs : List S54) (hx : ∀ t ∈ xs, OKT t) : ∃ c, pred_Check.f 3000 xs = some c := by
  unfold pred_Check.f
  by_cases h : (xs.length : Int) > 48
  · rw [if_pos h]; exact ⟨_, rfl⟩
  · rw [if_neg h]
    exact ⟨_, Check_l0 xs hx (by omega) xs 0 3000 0 rfl (by omega) (by omega) (by omega)⟩
def Bd (s : ByteArray) (p e : Int) : Prop := e ≠ 0 ∧ 0 ≤ p ∧ p ≤ (s.size : Int)
/-- what Parse tells, its parts -/
theorem parse_parts (s : ByteArray) (hs : s.size ≤ 300) :
    (∃ p e, Bd s p e ∧ (nextF s 0 = .bad p e) ∧ parseF s = some ([], p, e)) ∨
    (∃ t o, nextF s 0 = .ok t ∧ Iw s t ∧ Wk t.w ∧ pr s 3000 .sum t = some o ∧
      ((∃ p e, Bd s p e ∧ o = .bad p e ∧ parseF s = some ([], p, e)) ∨
       (∃ l t1, o = .ok (l, t1) ∧ Iw s t1 ∧ (∀ x ∈ l, OKT x) ∧
         ((∃ p e, Bd s p e ∧ wantF s 101 t1 = .bad p e ∧ parseF s = some ([], p, e)) ∨
          (∃ a c, wantF s 101 t1 = .ok a ∧ pred_Check.f 3000 l = some c ∧ parseF s = some (if c = 6 then ([], (s.size : Int), 6) else (l, 0, 0))))))) := by
  unfold parseF
  rw [if_neg (by omega)]
  cases h1 : nextF s 0 with
  | bad p e => exact .inl ⟨p, e, nextF_nb (Int.le_refl 0) (by omega) _ _ h1, rfl, rfl⟩
  | ok t =>
    have i1 := (nextF_iw (Int.le_refl 0) (by omega) h1).1
    have w1 := nextF_wk (Int.le_refl 0) (by omega) h1
    obtain ⟨o, ho⟩ := pr_tot s 3000 .sum t i1 (by have := i1.2.1; simp only [need]; omega)
    refine .inr ⟨t, o, rfl, i1, w1, ho, ?_⟩
    simp only [ho, Option.bind_some]
    have hn := pr_nb s _ _ _ _ i1 ho
    have hok := pr_ok s _ _ _ _ i1 w1 ho
    have hup := pr_up s _ _ _ _ i1 ho
    cases o with
    | bad p e => exact .inl ⟨p, e, hn p e rfl, rfl, rfl⟩
    | ok r =>
      obtain ⟨l, t1⟩ := r
      have j1 := hup l t1 rfl
      have j2 := hok l t1 rfl
      refine .inr ⟨l, t1, rfl, j1.1, j2.1, ?_⟩
      cases h2 : wantF s 101 t1 with
      | bad p e => exact .inl ⟨p, e, wantF_nb _ j1.1 _ _ h2, rfl, by simp only [h2]⟩
      | ok a =>
        obtain ⟨c, hc⟩ := Check_some l j2.1
        refine .inr ⟨a, c, rfl, hc, ?_⟩
        simp only [h2, hc, Option.bind_some]
        split <;> rfl
theorem Check_len {xs : List S54} {c : Int} (h : pred_Check.f 3000 xs = some c) (hc : c ≠ 6) : xs.length ≤ 48 := by
  unfold pred_Check.f at h
  by_cases hl : (xs.length : Int) > 48
  · rw [if_pos hl] at h; injection h with h; exact absurd h.symm hc
  · omega
/-- blanks ahead: the same terms and the same error; a fault's place behind the blanks -/
theorem parse_ahead {s s' : ByteArray} {k : Nat} (h : Sh s s' k) (hs : s'.size ≤ 300) (hb : ∀ i : Int, 0 ≤ i → i < k → bt s' i = 32) :
    ∃ l p e, parseF s = some (l, p, e) ∧ parseF s' = some (l, (if e = 0 then 0 else p + k), e) ∧ (e = 0 → p = 0) ∧ (∀ x ∈ l, OKT x) ∧ l.length ≤ 48 ∧ (e ≠ 0 → l = []) ∧ 0 ≤ p ∧ p ≤ (s.size : Int) := by
  have hz := h.size
  have h0 : nextF s' 0 = mp k (sh k) (nextF s 0) := by
    rw [next_skip (k := k) (by omega) hb]
    have := h.next 0 (Int.le_refl 0) (by omega)
    rwa [Int.zero_add] at this
  have he : ∀ p e : Int, Bd s p e → (if e = 0 then (0 : Int) else p + k) = p + k := fun p e hb => if_neg hb.1
  rcases parse_parts s (by omega) with ⟨p, e, b, n1, n2⟩ | ⟨t, o, n1, i1, w1, n2, ⟨p, e, b, n3, n4⟩ | ⟨l, t1, n3, i2, ok, ⟨p, e, b, n4, n5⟩ | ⟨a, c, n4, n5, n6⟩⟩⟩
  · refine ⟨[], p, e, n2, ?_, fun h => absurd h b.1, by simp, by simp, fun _ => rfl, b.2.1, b.2.2⟩
    rw [n1] at h0
    rw [he p e b]
    unfold parseF
    rw [if_neg (by omega), h0]
    rfl
  · refine ⟨[], p, e, n4, ?_, fun h => absurd h b.1, by simp, by simp, fun _ => rfl, b.2.1, b.2.2⟩
    rw [n1] at h0
    rw [he p e b]
    unfold parseF
    rw [if_neg (by omega), h0]
    simp only [mp]
    rw [h.pr 3000 .sum t i1, n2, n3]
    rfl
  · refine ⟨[], p, e, n5, ?_, fun h => absurd h b.1, by simp, by simp, fun _ => rfl, b.2.1, b.2.2⟩
    rw [n1] at h0
    rw [he p e b]
    unfold parseF
    rw [if_neg (by omega), h0]
    simp only [mp]
    rw [h.pr 3000 .sum t i1, n2, n3]
    simp only [Option.map_some, Option.bind_some, mo, mp]
    rw [h.want 101 t1 i2.1, n4]
    rfl
  · rw [n1] at h0
    have hp' : parseF s' = some (if c = 6 then ([], (s'.size : Int), 6) else (l, 0, 0)) := by
      unfold parseF
      rw [if_neg (by omega), h0]
      simp only [mp]
      rw [h.pr 3000 .sum t i1, n2, n3]
      simp only [Option.map_some, Option.bind_some, mo, mp]
      rw [h.want 101 t1 i2.1, n4]
      simp only [mp, n5, Option.bind_some]
      split <;> rfl
    by_cases h6 : c = 6
    · rw [if_pos h6] at n6 hp'
      refine ⟨[], (s.size : Int), 6, n6, ?_, fun h => by simp at h, by simp, by simp, fun _ => rfl, by omega, Int.le_refl _⟩
      rw [hp', hz]
      simp
    · rw [if_neg h6] at n6 hp'
      exact ⟨l, 0, 0, n6, by rw [hp']; simp, fun _ => rfl, ok, Check_len n5 h6, fun h => absurd rfl h, Int.le_refl _, by omega⟩
end Go.Proofs.Ytmgljgmieomngaa.Pz
namespace Go.Proofs.Ytmgljgmieomngaa.Pz
open Go Go.RowKit Go.Proofs.YtmgljgmieomngaaW.PrintWords Go.Proofs.YtmgljgmieomngaaW.PrintLast Go.Proofs.YtmgljgmieomngaaW.PrintMore Go.Proofs.Ytmgljgmieomngaa.Q Go.Proofs.Ytmgljgmieomngaa.Oct
set_option linter.unusedVariables false
set_option linter.unusedSimpArgs false
/-- a text, and blanks behind it -/
structure Tr (s s' : ByteArray) (k : Nat) : Prop where
  size : s'.size = s.size + k
  at' : ∀ p : Int, 0 ≤ p → p < (s.size : Int) → bt s' p = bt s p
  blank : ∀ p : Int, (s.size : Int) ≤ p → p < (s'.size : Int) → bt s' p = 32
/-- the state at the end -/
def en (s : ByteArray) : St := ⟨s.size, ⟨101, false, s.size, ⟨#[]⟩, 0⟩⟩
def Rl (s s' : ByteArray) (t t' : St) : Prop := (t' = t ∧ t.w.kd ≠ 101) ∨ (t = en s ∧ t' = en s')
theorem scan_stop (f : Int → Bool) (s : ByteArray) (q : Int) (h : ¬ (q < (s.size : Int) ∧ f (bt s q) = true)) : ∀ d : Nat, scan f s d q = q
  | 0 => rfl
  | d + 1 => by
    rw [scan]
    by_cases c : q < (s.size : Int)
    · rw [if_pos c, if_neg (fun e => h ⟨c, e⟩)]
    · rw [if_neg c]
theorem scan_to_end (f : Int → Bool) (s : ByteArray) : ∀ (d : Nat) (p : Int), p ≤ (s.size : Int) → (s.size : Int) ≤ p + d → (∀ i : Int, p ≤ i → i < (s.size : Int) → f (bt s i) = true) → scan f s d p = s.size
  | 0, p, h0, h1, hf => by rw [scan]; omega
  | d + 1, p, h0, h1, hf => by
    rw [scan]
    by_cases c : p < (s.size : Int)
    · rw [if_pos c, if_pos (hf p (Int.le_refl _) c)]; exact scan_to_end f s d (p + 1) (by omega) (by omega) (fun i a b => hf i (by omega) b)
    · rw [if_neg c]; omega
section
variable {s s' : ByteArray} {k : Nat}
theorem Tr.scan0 (h : Tr s s' k) (f : Int → Bool) : ∀ (d : Nat) (p : Int), 0 ≤ p → p ≤ (s.size : Int) → (s.size : Int) ≤ p + d → scan f s' (d + k) p = if scan f s d p < (s.size : Int) then scan f s d p else scan f s' k s.size
  | 0, p, h0, h1, h2 => by
    have : p = s.size := by omega
    subst this
    rw [Pz.scan, if_neg (by omega), Nat.zero_add]
  | d + 1, p, h0, h1, h2 => by
    by_cases c : p < (s.size : Int)
    · rw [show d + 1 + k = d + k + 1 by omega, Pz.scan, Pz.scan, if_pos c, if_pos (by have := h.size; omega), h.at' p h0 c]
      by_cases e : f (bt s p) = true
      · rw [if_pos e, if_pos e]; exact h.scan0 f d (p + 1) (by omega) (by omega) (by omega)
      · rw [if_neg e, if_neg e, if_pos c]
    · have : p = s.size := by omega
      subst this
      have e : Pz.scan f s (d + 1) (s.size : Int) = s.size := by rw [Pz.scan, if_neg c]
      rw [e, if_neg c]
      have := h.size
      exact scan_enough f s' _ _ _ (by omega) (by omega)
/-- bytes that are no blanks -/
theorem Tr.scan1 (h : Tr s s' k) (f : Int → Bool) (hf : f 32 = false) (p : Int) (h0 : 0 ≤ p) (h1 : p ≤ (s.size : Int)) : scan f s' s'.size p = scan f s s.size p := by
  have e := h.scan0 f s.size p h0 h1 (by omega)
  rw [← h.size] at e
  rw [e]
  have hr := scan_bnd f s s.size p h1
  split
  · rfl
  · rw [scan_stop f s' s.size ?_ k]
    · omega
    · rintro ⟨a, b⟩
      rw [h.blank _ (Int.le_refl _) a, hf] at b
      exact absurd b (by decide)
theorem Tr.digs0 (h : Tr s s' k) : ∀ (d : Nat) (p u : Int) (b : Bool), 0 ≤ p → p ≤ (s.size : Int) → (s.size : Int) ≤ p + d → digs s' (d + k) p u b = digs s d p u b
  | 0, p, u, b, h0, h1, h2 => by
    have : p = s.size := by omega
    subst this
    rw [digs, Nat.zero_add]
    cases k with
    | zero => rw [digs]
    | succ k =>
      rw [digs, if_neg]
      rintro ⟨a, b, c⟩
      rw [h.blank _ (Int.le_refl _) a] at b
      omega
  | d + 1, p, u, b, h0, h1, h2 => by
    by_cases c : p < (s.size : Int)
    · rw [show d + 1 + k = d + k + 1 by omega, digs, digs, h.at' p h0 c]
      have e : (p < (s'.size : Int) ∧ 48 ≤ bt s p ∧ bt s p ≤ 57) ↔ (p < (s.size : Int) ∧ 48 ≤ bt s p ∧ bt s p ≤ 57) := by have := h.size; constructor <;> (rintro ⟨a, b⟩; exact ⟨by omega, b⟩)
      simp only [e]
      split
      · exact h.digs0 d (p + 1) _ _ (by omega) (by omega) (by omega)
      · rfl
    · have : p = s.size := by omega
      subst this
      rw [show d + 1 + k = d + k + 1 by omega, digs, digs, if_neg, if_neg (fun e => c e.1)]
      rintro ⟨a, b, _⟩
      rw [h.blank _ (Int.le_refl _) a] at b
      omega
theorem Tr.strB0 (h : Tr s s' k) (pl : Int) : ∀ (d : Nat) (p : Int) (out : List Int) (r : Int × List Int), 0 ≤ p → strB s pl d p out = .ok r → strB s' pl (d + k) p out = .ok r
  | 0, p, out, r, h0, e => by simp [strB] at e
  | d + 1, p, out, r, h0, e => by
    have hz := h.size
    rw [strB] at e
    by_cases c : p ≥ (s.size : Int) ∨ bt s p < 32 ∨ bt s p > 126
    · rw [if_pos c] at e; simp at e
    · rw [if_neg c] at e
      have hp : p < (s.size : Int) := by omega
      rw [show d + 1 + k = d + k + 1 by omega, strB, h.at' p h0 hp, if_neg (by omega)]
      by_cases c1 : bt s p = 34
      · rw [if_pos c1] at e ⊢; exact e
      · rw [if_neg c1] at e ⊢
        by_cases c2 : bt s p = 92
        · rw [if_pos c2] at e ⊢
          by_cases c3 : p + 1 < (s.size : Int) ∧ (bt s (p + 1) = 34 ∨ bt s (p + 1) = 92)
          · rw [if_pos c3] at e
            rw [h.at' (p + 1) (by omega) c3.1, if_pos ⟨by omega, c3.2⟩]
            exact h.strB0 pl d _ _ r (by omega) e
          · rw [if_neg c3] at e
            by_cases c4 : p + 3 < (s.size : Int) ∧ bt s (p + 1) = 120 ∧ hexF (bt s (p + 2)) ≥ 0 ∧ hexF (bt s (p + 3)) ≥ 0
            · rw [if_pos c4] at e
              rw [h.at' (p + 1) (by omega) (by omega), h.at' (p + 2) (by omega) (by omega), h.at' (p + 3) (by omega) (by omega), if_neg (fun g => c3 ⟨by omega, g.2⟩), if_pos ⟨by omega, c4.2⟩]
              exact h.strB0 pl d _ _ r (by omega) e
            · rw [if_neg c4] at e; simp at e
        · rw [if_neg c2] at e ⊢
          exact h.strB0 pl d _ _ r (by omega) e
theorem Tr.next (h : Tr s s' k) {p : Int} {t : St} (h0 : 0 ≤ p) (h1 : p ≤ (s.size : Int)) (e : nextF s p = .ok t) : ∃ t', nextF s' p = .ok t' ∧ Rl s s' t t' := by
  have hz := h.size
  unfold nextF at e ⊢
  simp only at e ⊢
  have hs := scan_bnd (fun c => c == 32) s s.size p h1
  have hsc := h.scan0 (fun c => c == 32) s.size p h0 h1 (by omega)
  rw [← hz] at hsc
  rw [hsc]
  generalize scan (fun c => c == 32) s s.size p = q at *
  by_cases c : q < (s.size : Int)
  · rw [if_pos c] at e
    rw [if_pos c, if_pos (by omega : q < (s'.size : Int)), h.at' q (by omega) c]
    obtain ⟨a, e1, e2⟩ := Out.bind_ok e
    injection e2 with e2
    subst e2
    have key : (if 97 ≤ bt s q ∧ bt s q ≤ 122 then nameF s' q else if bt s q = 45 ∨ (48 ≤ bt s q ∧ bt s q ≤ 57) then numF s' q else if bt s q = 34 then strF s' q else markF s' q (bt s q)) = .ok a ∧ a.2.kd ≠ 101 := by
      by_cases c1 : 97 ≤ bt s q ∧ bt s q ≤ 122
      · rw [if_pos c1] at e1 ⊢
        unfold nameF at e1 ⊢
        simp only at e1 ⊢
        have hr := scan_bnd isNm s s.size q (by omega)
        rw [h.scan1 isNm (by decide) q (by omega) (by omega)]
        generalize scan isNm s s.size q = z at *
        have hx : s'.extract q.toNat z.toNat = s.extract q.toNat z.toNat := by
          apply bt_inj
          · rw [ByteArray.size_extract, ByteArray.size_extract]; omega
          · intro i i0 i1
            rw [ByteArray.size_extract] at i1
            rw [bt_ext s' _ _ (by omega) i i0 (by omega), bt_ext s _ _ (by omega) i i0 (by omega), h.at' _ (by omega) (by omega)]
        rw [hx]
        refine ⟨e1, ?_⟩
        split at e1
        · simp at e1
        · injection e1 with e1; rw [← e1]; show (110 : Int) ≠ 101; decide
      · rw [if_neg c1] at e1 ⊢
        by_cases c2 : bt s q = 45 ∨ (48 ≤ bt s q ∧ bt s q ≤ 57)
        · rw [if_pos c2] at e1 ⊢
          unfold numF at e1 ⊢
          simp only at e1 ⊢
          rw [h.at' q (by omega) c]
          have hf : 0 ≤ (if (bt s q == 45) = true then q + 1 else q) ∧ (if (bt s q == 45) = true then q + 1 else q) ≤ (s.size : Int) := by split <;> omega
          generalize (if (bt s q == 45) = true then q + 1 else q) = f at *
          have hd := h.digs0 s.size f 0 false hf.1 hf.2 (by omega)
          rw [← hz] at hd
          rw [hd]
          have hb : f < (s.size : Int) → bt s' f = bt s f := h.at' f hf.1
          have hr := digs_in s s.size f 0 false hf.2
          generalize digs s s.size f 0 false = R at *
          by_cases d1 : R.1 = f ∨ bt s f = 48 ∧ ((bt s q == 45) = true ∨ R.1 > f + 1)
          · rw [if_pos d1] at e1; simp at e1
          · rw [if_neg d1] at e1
            have hlt : f < (s.size : Int) := by
              have : R.1 ≠ f := fun e => d1 (.inl e)
              omega
            rw [hb hlt, if_neg d1]
            refine ⟨e1, ?_⟩
            split at e1
            · simp at e1
            · injection e1 with e1; rw [← e1]; show (100 : Int) ≠ 101; decide
        · rw [if_neg c2] at e1 ⊢
          by_cases c3 : bt s q = 34
          · rw [if_pos c3] at e1 ⊢
            unfold strF at e1 ⊢
            obtain ⟨b, f1, f2⟩ := Out.bind_ok e1
            have := h.strB0 q (s.size + 1) (q + 1) [] b (by omega) f1
            rw [show s.size + 1 + k = s'.size + 1 by omega] at this
            rw [this]
            refine ⟨f2, ?_⟩
            split at f2
            · simp at f2
            · injection f2 with f2; rw [← f2]; show (115 : Int) ≠ 101; decide
          · rw [if_neg c3] at e1 ⊢
            have hm : markF s' q (bt s q) = markF s q (bt s q) := by
              unfold markF
              have : (q + 1 < (s'.size : Int) ∧ bt s' (q + 1) = 61) ↔ (q + 1 < (s.size : Int) ∧ bt s (q + 1) = 61) := by
                by_cases g : q + 1 < (s.size : Int)
                · rw [h.at' (q + 1) (by omega) g]
                  constructor <;> (rintro ⟨a, b⟩; exact ⟨by omega, b⟩)
                · constructor
                  · rintro ⟨a, b⟩
                    rw [h.blank (q + 1) (by omega) a] at b
                    omega
                  · rintro ⟨a, b⟩; exact absurd a g
              simp only [this]
            rw [hm]
            refine ⟨e1, ?_⟩
            unfold markF at e1
            have hk : ∀ c : Int, (long3 c = true ∨ sign12 c = true) → c ≠ 101 := by
              intro c hc
              simp only [long3, sign12, Bool.or_eq_true, beq_iff_eq] at hc
              omega
            split at e1
            · rename_i h3
              split at e1
              · injection e1 with e1; rw [← e1]; exact hk _ (.inl h3)
              · injection e1 with e1; rw [← e1]; exact hk _ (.inl h3)
            · split at e1
              · rename_i h12
                injection e1 with e1; rw [← e1]; exact hk _ (.inr h12)
              · simp at e1
    refine ⟨⟨a.1, a.2⟩, ?_, .inl ⟨rfl, key.2⟩⟩
    rw [key.1]
    rfl
  · rw [if_neg c] at e
    injection e with e
    have hq : q = s.size := by omega
    subst hq
    subst e
    rw [if_neg c]
    have hend : scan (fun c => c == 32) s' k s.size = s'.size := scan_to_end _ s' k _ (by omega) (by omega) (fun i a b => by rw [h.blank i a b]; rfl)
    rw [hend, if_neg (by omega)]
    exact ⟨_, rfl, .inr ⟨rfl, rfl⟩⟩
theorem Tr.is_no (h : Tr s s' k) {c : Int} {t t' : St} (hc : c ≠ 101) (hr : Rl s s' t t') (e : isF s c t = .ok (false, t)) : isF s' c t' = .ok (false, t') := by
  unfold isF at e ⊢
  rcases hr with ⟨rfl, hk⟩ | ⟨rfl, rfl⟩
  · by_cases a : t'.w.kd = c ∧ t'.w.lg = false
    · rw [if_pos a] at e; obtain ⟨b, _, e2⟩ := Out.bind_ok e; simp at e2
    · rw [if_neg a]
  · rw [if_neg (fun a => hc a.1.symm)]
theorem Tr.is_yes (h : Tr s s' k) {c : Int} {t t' t1 : St} (hi : In s t) (hc : c ≠ 101) (hr : Rl s s' t t') (e : isF s c t = .ok (true, t1)) : ∃ t1', isF s' c t' = .ok (true, t1') ∧ Rl s s' t1 t1' := by
  unfold isF at e ⊢
  by_cases a : t.w.kd = c ∧ t.w.lg = false
  · rw [if_pos a] at e
    obtain ⟨b, e1, e2⟩ := Out.bind_ok e
    injection e2 with e2; injection e2 with _ e2; subst e2
    rcases hr with ⟨rfl, hk⟩ | ⟨rfl, rfl⟩
    · obtain ⟨b', f1, f2⟩ := h.next hi.1 hi.2 e1
      rw [if_pos a, f1]
      exact ⟨b', rfl, f2⟩
    · exact absurd a.1.symm hc
  · rw [if_neg a] at e; simp at e
theorem Tr.want (h : Tr s s' k) {c : Int} {t t' t1 : St} {u : Wd} (hi : In s t) (hc : c ≠ 101) (hr : Rl s s' t t') (e : wantF s c t = .ok (u, t1)) : ∃ t1', wantF s' c t' = .ok (u, t1') ∧ Rl s s' t1 t1' := by
  unfold wantF at e ⊢
  by_cases a : t.w.kd = c ∧ t.w.lg = false
  · rw [if_pos a] at e
    obtain ⟨b, e1, e2⟩ := Out.bind_ok e
    injection e2 with e2; injection e2 with e3 e2; subst e2 e3
    rcases hr with ⟨rfl, hk⟩ | ⟨rfl, rfl⟩
    · obtain ⟨b', f1, f2⟩ := h.next hi.1 hi.2 e1
      rw [if_pos a, f1]
      exact ⟨b', rfl, f2⟩
    · exact absurd a.1.symm hc
  · rw [if_neg a] at e; simp at e
theorem Tr.part (h : Tr s s' k) {t t' t1 : St} {n : Int} (hi : In s t) (hr : Rl s s' t t') (e : partF s t = .ok (n, t1)) : ∃ t1', partF s' t' = .ok (n, t1') ∧ Rl s s' t1 t1' := by
  unfold partF at e ⊢
  by_cases a : t.w.kd = 100
  · rw [if_pos a] at e
    by_cases b : t.w.n > 1048576 ∨ t.w.n < -1048576
    · rw [if_pos b] at e; simp at e
    · rw [if_neg b] at e
      obtain ⟨x, e1, e2⟩ := Out.bind_ok e
      injection e2 with e2; injection e2 with e3 e2; subst e2 e3
      rcases hr with ⟨rfl, hk⟩ | ⟨rfl, rfl⟩
      · obtain ⟨b', f1, f2⟩ := h.next hi.1 hi.2 e1
        rw [if_pos a, if_neg b, f1]
        exact ⟨b', rfl, f2⟩
      · exact absurd a (by show ¬ (101 : Int) = 100; decide)
  · rw [if_neg a] at e; simp at e
theorem Tr.point (h : Tr s s' k) {t t' t1 : St} {x : S43} (hi : In s t) (hr : Rl s s' t t') (e : pointF s t = .ok (x, t1)) : ∃ t1', pointF s' t' = .ok (x, t1') ∧ Rl s s' t1 t1' := by
  unfold pointF at e
  obtain ⟨⟨a1, t2⟩, e1, e⟩ := Out.bind_ok e
  obtain ⟨⟨a2, t3⟩, e2, e⟩ := Out.bind_ok e
  obtain ⟨⟨a3, t4⟩, e3, e⟩ := Out.bind_ok e
  obtain ⟨⟨a4, t5⟩, e4, e⟩ := Out.bind_ok e
  obtain ⟨⟨a5, t6⟩, e5, e⟩ := Out.bind_ok e
  injection e with e; injection e with e' e; subst e e'
  have i1 := (wantF_in hi e1).1
  have i2 := (partF_in i1 e2).1
  have i3 := (wantF_in i2 e3).1
  have i4 := (partF_in i3 e4).1
  obtain ⟨u1, f1, r1⟩ := h.want hi (by decide) hr e1
  obtain ⟨u2, f2, r2⟩ := h.part i1 r1 e2
  obtain ⟨u3, f3, r3⟩ := h.want i2 (by decide) r2 e3
  obtain ⟨u4, f4, r4⟩ := h.part i3 r3 e4
  obtain ⟨u5, f5, r5⟩ := h.want i4 (by decide) r4 e5
  exact ⟨u5, by unfold pointF; rw [f1]; simp only [Out.bind, f2, f3, f4, f5], r5⟩
theorem Tr.plain (h : Tr s s' k) {b : Bool} {t t' t1 : St} {x : S43} (hi : In s t) (hr : Rl s s' t t') (e : plainF s b t = .ok (x, t1)) : ∃ t1', plainF s' b t' = .ok (x, t1') ∧ Rl s s' t1 t1' := by
  unfold plainF at e
  by_cases a : t.w.kd = 100 ∧ b = false
  · rw [if_pos a] at e
    obtain ⟨y, e1, e2⟩ := Out.bind_ok e
    injection e2 with e2; injection e2 with e3 e2; subst e2 e3
    rcases hr with ⟨rfl, hk⟩ | ⟨rfl, rfl⟩
    · obtain ⟨b', f1, f2⟩ := h.next hi.1 hi.2 e1
      exact ⟨b', by unfold plainF; rw [if_pos a, f1]; rfl, f2⟩
    · exact absurd a.1 (by show ¬ (101 : Int) = 100; decide)
  · rw [if_neg a] at e
    obtain ⟨⟨y, t2⟩, e1, e2⟩ := Out.bind_ok e
    injection e2 with e2; injection e2 with e3 e2; subst e2 e3
    obtain ⟨u1, f1, r1⟩ := h.want hi (by decide) hr e1
    refine ⟨u1, ?_, r1⟩
    have a' : ¬ (t'.w.kd = 100 ∧ b = false) := by
      rcases hr with ⟨rfl, hk⟩ | ⟨rfl, rfl⟩
      · exact a
      · exact fun g => absurd g.1 (by show ¬ (101 : Int) = 100; decide)
    unfold plainF
    rw [if_neg a', f1]
    rfl
theorem Tr.any (h : Tr s s' k) {t t' t1 : St} {x : S43} (hi : In s t) (hr : Rl s s' t t') (e : anyF s t = .ok (x, t1)) : ∃ t1', anyF s' t' = .ok (x, t1') ∧ Rl s s' t1 t1' := by
  rcases hr with ⟨rfl, hk⟩ | ⟨rfl, rfl⟩
  · unfold anyF at e
    by_cases a : t'.w.kd = 40
    · rw [if_pos a] at e
      obtain ⟨u, f1, f2⟩ := h.point hi (.inl ⟨rfl, hk⟩) e
      exact ⟨u, by unfold anyF; rw [if_pos a]; exact f1, f2⟩
    · rw [if_neg a] at e
      by_cases b : t'.w.kd = 110 ∧ (t'.w.tx = yesB ∨ t'.w.tx = noB)
      · rw [if_pos b] at e
        obtain ⟨y, e1, e2⟩ := Out.bind_ok e
        injection e2 with e2; injection e2 with e3 e2; subst e2 e3
        obtain ⟨b', f1, f2⟩ := h.next hi.1 hi.2 e1
        exact ⟨b', by unfold anyF; rw [if_neg a, if_pos b, f1]; rfl, f2⟩
      · rw [if_neg b] at e
        obtain ⟨u, f1, f2⟩ := h.plain hi (.inl ⟨rfl, hk⟩) e
        exact ⟨u, by unfold anyF; rw [if_neg a, if_neg b]; exact f1, f2⟩
  · unfold anyF at e
    rw [if_neg (by show ¬ (101 : Int) = 40; decide), if_neg (fun g => absurd g.1 (by show ¬ (101 : Int) = 110; decide))] at e
    obtain ⟨u, f1, f2⟩ := h.plain hi (.inr ⟨rfl, rfl⟩) e
    exact ⟨u, by unfold anyF; rw [if_neg (by show ¬ (101 : Int) = 40; decide), if_neg (fun g => absurd g.1 (by show ¬ (101 : Int) = 110; decide))]; exact f1, f2⟩
theorem Tr.atom (h : Tr s s' k) {nm : ByteArray} {t t' t1 : St} {x : S54} (hi : In s t) (hr : Rl s s' t t') (e : atomF s nm t = .ok (x, t1)) : ∃ t1', atomF s' nm t' = .ok (x, t1') ∧ Rl s s' t1 t1' := by
  rcases hr with ⟨rfl, hk⟩ | ⟨rfl, rfl⟩
  · unfold atomF at e
    simp only at e
    by_cases a : cmpF t'.w = 2
    · rw [if_pos a] at e
      injection e with e; injection e with e' e; subst e e'
      exact ⟨t', by unfold atomF; simp only; rw [if_pos a], .inl ⟨rfl, hk⟩⟩
    · rw [if_neg a] at e
      obtain ⟨t2, e1, e⟩ := Out.bind_ok e
      have i1 := (nextF_in hi.1 hi.2 e1).1
      obtain ⟨u2, f1, r1⟩ := h.next hi.1 hi.2 e1
      have goal : ∃ t1', (if cmpF t'.w = 3 ∨ cmpF t'.w = 4 then (anyF s' u2).bind fun a => Out.ok ((⟨3, nm, cmpF t'.w, a.1, 0⟩ : S54), a.2)
          else if cmpF t'.w = 9 then (plainF s' true u2).bind fun a => .ok (⟨3, nm, cmpF t'.w, a.1, 0⟩, a.2)
          else if cmpF t'.w = 10 then (pointF s' u2).bind fun a => (wantF s' 47 a.2).bind fun b =>
            if b.2.w.kd = 100 ∧ (b.2.w.n < 0 ∨ b.2.w.n > 1048576) then .bad b.2.w.pl 6
            else (wantF s' 100 b.2).bind fun d => .ok (⟨3, nm, cmpF t'.w, a.1, d.1.n⟩, d.2)
          else (plainF s' false u2).bind fun a => .ok (⟨3, nm, cmpF t'.w, a.1, 0⟩, a.2)) = .ok (x, t1') ∧ Rl s s' t1 t1' := by
        generalize cmpF t'.w = c at *
        by_cases b : c = 3 ∨ c = 4
        · rw [if_pos b] at e ⊢
          obtain ⟨⟨y, t3⟩, e2, e⟩ := Out.bind_ok e
          injection e with e; injection e with e' e; subst e e'
          obtain ⟨u3, f2, r2⟩ := h.any i1 r1 e2
          exact ⟨u3, by rw [f2]; rfl, r2⟩
        · rw [if_neg b] at e ⊢
          by_cases d : c = 9
          · rw [if_pos d] at e ⊢
            obtain ⟨⟨y, t3⟩, e2, e⟩ := Out.bind_ok e
            injection e with e; injection e with e' e; subst e e'
            obtain ⟨u3, f2, r2⟩ := h.plain i1 r1 e2
            exact ⟨u3, by rw [f2]; rfl, r2⟩
          · rw [if_neg d] at e ⊢
            by_cases f : c = 10
            · rw [if_pos f] at e ⊢
              obtain ⟨⟨y, t3⟩, e2, e⟩ := Out.bind_ok e
              obtain ⟨⟨z, t4⟩, e3, e⟩ := Out.bind_ok e
              have i2 := (pointF_in i1 e2).1
              have i3 := (wantF_in i2 e3).1
              obtain ⟨u3, f2, r2⟩ := h.point i1 r1 e2
              obtain ⟨u4, f3, r3⟩ := h.want i2 (by decide) r2 e3
              simp only at e
              by_cases g : t4.w.kd = 100 ∧ (t4.w.n < 0 ∨ t4.w.n > 1048576)
              · rw [if_pos g] at e; simp at e
              · rw [if_neg g] at e
                obtain ⟨⟨d, t5⟩, e4, e⟩ := Out.bind_ok e
                injection e with e; injection e with e' e; subst e e'
                obtain ⟨u5, f4, r4⟩ := h.want i3 (by decide) r3 e4
                refine ⟨u5, ?_, r4⟩
                have g' : ¬ (u4.w.kd = 100 ∧ (u4.w.n < 0 ∨ u4.w.n > 1048576)) := by
                  rcases r3 with ⟨rfl, _⟩ | ⟨rfl, rfl⟩
                  · exact g
                  · exact fun g => absurd g.1 (by show ¬ (101 : Int) = 100; decide)
                rw [f2]
                simp only [Out.bind, f3]
                rw [if_neg g']
                simp only [f4]
            · rw [if_neg f] at e ⊢
              obtain ⟨⟨y, t3⟩, e2, e⟩ := Out.bind_ok e
              injection e with e; injection e with e' e; subst e e'
              obtain ⟨u3, f2, r2⟩ := h.plain i1 r1 e2
              exact ⟨u3, by rw [f2]; rfl, r2⟩
      obtain ⟨w, g1, g2⟩ := goal
      refine ⟨w, ?_, g2⟩
      unfold atomF
      simp only
      rw [if_neg a, f1]
      exact g1
  · have e2 : atomF s nm (en s) = .ok (⟨3, nm, 2, z43, 0⟩, en s) := rfl
    rw [e2] at e
    injection e with e; injection e with e' e; subst e e'
    exact ⟨en s', rfl, .inr ⟨rfl, rfl⟩⟩
end
end Go.Proofs.Ytmgljgmieomngaa.Pz
namespace Go.Proofs.Ytmgljgmieomngaa.Pz
open Go Go.RowKit Go.Proofs.YtmgljgmieomngaaW.PrintWords Go.Proofs.YtmgljgmieomngaaW.PrintLast Go.Proofs.YtmgljgmieomngaaW.PrintMore Go.Proofs.Ytmgljgmieomngaa.Q Go.Proofs.Ytmgljgmieomngaa.Oct
set_option linter.unusedVariables false
set_option linter.unusedSimpArgs false
section
variable {s s' : ByteArray} {k : Nat}
theorem Tr.pr (h : Tr s s' k) : ∀ (n : Nat) (m : Md) (t t' : St) (l : List S54) (t1 : St), Iw s t → Rl s s' t t' → pr s n m t = some (.ok (l, t1)) → ∃ t1', pr s' n m t' = some (.ok (l, t1')) ∧ Rl s s' t1 t1'
  | 0, m, t, t', l, t1, hi, hr, e => by simp [Pz.pr] at e
  | n + 1, .unit, t, t', l, t1, hi, hr, e => by
    rcases pr_unit e with ⟨p, e, _, e2⟩ | ⟨t2, o1, a1, a2, a3⟩ | ⟨b1, e⟩
    · simp at e2
    · obtain ⟨⟨l1, t3⟩, c1, c2⟩ := Out.bind_ok a3.symm
      injection c2 with c2; injection c2 with c2 c3; subst c2 c3
      subst c1
      have u1 := isF_up hi (by decide) a1
      obtain ⟨t2', f1, r1⟩ := h.is_yes hi.1 (by decide) hr a1
      obtain ⟨t3', f2, r2⟩ := h.pr n .unit t2 t2' _ _ u1.1 r1 a2
      exact ⟨t3', by rw [Pz.pr, f1]; simp only [f2, Option.bind_some]; rfl, r2⟩
    have g1 := h.is_no (by decide) hr b1
    rcases e with ⟨p, e, _, e2⟩ | ⟨t2, o1, a1, a2, a3⟩ | ⟨b2, e⟩
    · simp at e2
    · obtain ⟨⟨l1, t3⟩, c1, c2⟩ := Out.bind_ok a3.symm
      obtain ⟨⟨a, t4⟩, c3, c4⟩ := Out.bind_ok c2
      injection c4 with c4; injection c4 with c4 c5; subst c4 c5
      subst c1
      have u1 := isF_up hi (by decide) a1
      obtain ⟨t2', f1, r1⟩ := h.is_yes hi.1 (by decide) hr a1
      obtain ⟨t3', f2, r2⟩ := h.pr n .sum t2 t2' _ _ u1.1 r1 a2
      have i3 := (pr_up s n .sum t2 _ u1.1 a2 l1 t3 rfl).1
      obtain ⟨t4', f3, r3⟩ := h.want i3.1 (by decide) r2 c3
      exact ⟨t4', by rw [Pz.pr, g1]; simp only [f1, f2, Option.bind_some, Out.bind, f3], r3⟩
    have g2 := h.is_no (by decide) hr b2
    rcases e with ⟨p, e, _, e2⟩ | ⟨t2, a1, a3⟩ | ⟨b3, e⟩
    · simp at e2
    · injection a3 with a3; injection a3 with a3 a4; subst a3 a4
      obtain ⟨t2', f1, r1⟩ := h.is_yes hi.1 (by decide) hr a1
      exact ⟨t2', by rw [Pz.pr, g1]; simp only [g2, f1], r1⟩
    have g3 := h.is_no (by decide) hr b3
    rcases e with ⟨p, e, _, e2⟩ | ⟨t2, a1, a3⟩ | ⟨b4, e⟩
    · simp at e2
    · injection a3 with a3; injection a3 with a3 a4; subst a3 a4
      obtain ⟨t2', f1, r1⟩ := h.is_yes hi.1 (by decide) hr a1
      exact ⟨t2', by rw [Pz.pr, g1]; simp only [g2, g3, f1], r1⟩
    have g4 := h.is_no (by decide) hr b4
    rcases e with ⟨p, e, _, e2⟩ | ⟨t2, a1, a3⟩ | ⟨b5, e⟩
    · simp at e2
    · obtain ⟨⟨a, t3⟩, c1, c2⟩ := Out.bind_ok a3.symm
      injection c2 with c2; injection c2 with c2 c3; subst c2 c3
      have u1 := isF_up hi (by decide) a1
      obtain ⟨t2', f1, r1⟩ := h.is_yes hi.1 (by decide) hr a1
      obtain ⟨t3', f2, r2⟩ := h.want u1.1.1 (by decide) r1 c1
      exact ⟨t3', by rw [Pz.pr, g1]; simp only [g2, g3, g4, f1, f2, Out.bind], r2⟩
    · have g5 := h.is_no (by decide) hr b5
      obtain ⟨⟨a, t2⟩, c1, c2⟩ := Out.bind_ok e.symm
      obtain ⟨⟨x, t3⟩, c3, c4⟩ := Out.bind_ok c2
      injection c4 with c4; injection c4 with c4 c5; subst c4 c5
      obtain ⟨t2', f1, r1⟩ := h.want hi.1 (by decide) hr c1
      obtain ⟨t3', f2, r2⟩ := h.atom (wantF_in hi.1 c1).1 r1 c3
      exact ⟨t3', by rw [Pz.pr, g1]; simp only [g2, g3, g4, g5, f1, Out.bind, f2], r2⟩
  | n + 1, .sum, t, t', l, t1, hi, hr, e => by
    rw [Pz.pr] at e
    obtain ⟨o1, a1, e⟩ := bind_some' e
    cases o1 with
    | bad p e' => injection e with e; simp at e
    | ok r =>
      obtain ⟨l1, t2⟩ := r
      simp only at e
      obtain ⟨o2, a2, e⟩ := bind_some' e
      have i2 := (pr_up s n .unit t _ hi a1 l1 t2 rfl).1
      obtain ⟨t2', f1, r1⟩ := h.pr n .unit t t' _ _ hi hr a1
      cases o2 with
      | bad p e' => injection e with e; simp at e
      | ok r =>
        obtain ⟨l2, t3⟩ := r
        simp only at e
        obtain ⟨o3, a3, e⟩ := bind_some' e
        have i3 := (pr_up s n .alls t2 _ i2 a2 l2 t3 rfl).1
        obtain ⟨t3', f2, r2⟩ := h.pr n .alls t2 t2' _ _ i2 r1 a2
        injection e with e
        obtain ⟨⟨l3, t4⟩, d1, d2⟩ := Out.bind_ok e
        injection d2 with d2; injection d2 with d2 d3; subst d2 d3
        subst d1
        obtain ⟨t4', f3, r3⟩ := h.pr n .sums t3 t3' _ _ i3 r2 a3
        exact ⟨t4', by rw [Pz.pr, f1]; simp only [Option.bind_some, f2, f3, Out.bind], r3⟩
  | n + 1, .alls, t, t', l, t1, hi, hr, e => by
    rw [Pz.pr] at e
    cases h1 : isF s 38 t with
    | bad p e' => rw [h1] at e; injection e with e; simp at e
    | ok r =>
      obtain ⟨b, t2⟩ := r
      cases b with
      | false =>
        have := isF_no h1; subst this
        rw [h1] at e; injection e with e; injection e with e; injection e with e e'; subst e e'
        exact ⟨t', by rw [Pz.pr, h.is_no (by decide) hr h1], hr⟩
      | true =>
        rw [h1] at e
        simp only at e
        obtain ⟨o1, a1, e⟩ := bind_some' e
        have i2 := (isF_up hi (by decide) h1).1
        obtain ⟨t2', f1, r1⟩ := h.is_yes hi.1 (by decide) hr h1
        cases o1 with
        | bad p e' => injection e with e; simp at e
        | ok r =>
          obtain ⟨l1, t3⟩ := r
          simp only at e
          obtain ⟨o2, a2, e⟩ := bind_some' e
          have i3 := (pr_up s n .unit t2 _ i2 a1 l1 t3 rfl).1
          obtain ⟨t3', f2, r2⟩ := h.pr n .unit t2 t2' _ _ i2 r1 a1
          injection e with e
          obtain ⟨⟨l3, t4⟩, d1, d2⟩ := Out.bind_ok e
          injection d2 with d2; injection d2 with d2 d3; subst d2 d3
          subst d1
          obtain ⟨t4', f3, r3⟩ := h.pr n .alls t3 t3' _ _ i3 r2 a2
          exact ⟨t4', by rw [Pz.pr, f1]; simp only [Option.bind_some, f2, f3, Out.bind], r3⟩
  | n + 1, .sums, t, t', l, t1, hi, hr, e => by
    rw [Pz.pr] at e
    cases h1 : isF s 124 t with
    | bad p e' => rw [h1] at e; injection e with e; simp at e
    | ok r =>
      obtain ⟨b, t2⟩ := r
      cases b with
      | false =>
        have := isF_no h1; subst this
        rw [h1] at e; injection e with e; injection e with e; injection e with e e'; subst e e'
        exact ⟨t', by rw [Pz.pr, h.is_no (by decide) hr h1], hr⟩
      | true =>
        rw [h1] at e
        simp only at e
        obtain ⟨o1, a1, e⟩ := bind_some' e
        have i2 := (isF_up hi (by decide) h1).1
        obtain ⟨t2', f1, r1⟩ := h.is_yes hi.1 (by decide) hr h1
        cases o1 with
        | bad p e' => injection e with e; simp at e
        | ok r =>
          obtain ⟨l1, t3⟩ := r
          simp only at e
          obtain ⟨o2, a2, e⟩ := bind_some' e
          have i3 := (pr_up s n .unit t2 _ i2 a1 l1 t3 rfl).1
          obtain ⟨t3', f2, r2⟩ := h.pr n .unit t2 t2' _ _ i2 r1 a1
          cases o2 with
          | bad p e' => injection e with e; simp at e
          | ok r =>
            obtain ⟨l2, t4⟩ := r
            simp only at e
            obtain ⟨o3, a3, e⟩ := bind_some' e
            have i4 := (pr_up s n .alls t3 _ i3 a2 l2 t4 rfl).1
            obtain ⟨t4', f3, r3⟩ := h.pr n .alls t3 t3' _ _ i3 r2 a2
            injection e with e
            obtain ⟨⟨l3, t5⟩, d1, d2⟩ := Out.bind_ok e
            injection d2 with d2; injection d2 with d2 d3; subst d2 d3
            subst d1
            obtain ⟨t5', f4, r4⟩ := h.pr n .sums t4 t4' _ _ i4 r3 a3
            exact ⟨t5', by rw [Pz.pr, f1]; simp only [Option.bind_some, f2, f3, f4, Out.bind], r4⟩
/-- blanks behind: what is parsed is parsed as the same -/
theorem parse_behind (h : Tr s s' k) (hs : s'.size ≤ 300) {l : List S54} (e : parseF s = some (l, 0, 0)) (hl : (∀ x ∈ l, OKT x)) : parseF s' = some (l, 0, 0) := by
  have hz := h.size
  rcases parse_parts s (by omega) with ⟨p, e', b, n1, n2⟩ | ⟨t, o, n1, i1, w1, n2, ⟨p, e', b, n3, n4⟩ | ⟨l1, t1, n3, i2, ok, ⟨p, e', b, n4, n5⟩ | ⟨a, c, n4, n5, n6⟩⟩⟩
  · rw [n2] at e; injection e with e; injection e with _ e; injection e with _ e; exact absurd e b.1
  · rw [n4] at e; injection e with e; injection e with _ e; injection e with _ e; exact absurd e b.1
  · rw [n5] at e; injection e with e; injection e with _ e; injection e with _ e; exact absurd e b.1
  · rw [n6] at e
    have hc : c ≠ 6 := by
      intro h6
      rw [if_pos h6] at e; injection e with e; injection e with _ e; injection e with _ e; exact absurd e (by decide)
    rw [if_neg hc] at e
    injection e with e; injection e with e _; subst e
    subst n3
    obtain ⟨t', f1, r1⟩ := h.next (Int.le_refl 0) (by omega) n1
    obtain ⟨t1', f2, r2⟩ := h.pr 3000 .sum t t' _ _ i1 r1 n2
    have hw : ∃ a', wantF s' 101 t1' = .ok a' := by
      unfold wantF at n4 ⊢
      rcases r2 with ⟨rfl, hk⟩ | ⟨rfl, rfl⟩
      · rw [if_neg (fun g => hk g.1)] at n4; simp at n4
      · have hn : nextF s' (en s').p = .ok (en s') := by
          show nextF s' (s'.size : Int) = _
          unfold nextF
          have : scan (fun c => c == 32) s' s'.size (s'.size : Int) = s'.size := by
            rw [scan_stop]
            rintro ⟨a, _⟩; omega
          simp only [this]
          rw [if_neg (by omega)]
          rfl
        rw [if_pos ⟨rfl, rfl⟩, hn]
        exact ⟨_, rfl⟩
    obtain ⟨a', ha'⟩ := hw
    unfold parseF
    rw [if_neg (by omega), f1]
    simp only [f2, Option.bind_some, ha', n5]
    rw [if_neg hc]
end
end Go.Proofs.Ytmgljgmieomngaa.Pz
namespace Go.Proofs.Ytmgljgmieomngaa.Pure
open Go Go.RowKit Go.Proofs.Ytmgljgmieomngaa.Q Go.Proofs.Ytmgljgmieomngaa.Oct Go.Proofs.Ytmgljgmieomngaa.Pz Go.Proofs.YtmgljgmieomngaaW.PrintWords Go.Proofs.YtmgljgmieomngaaW.PrintLast Go.Proofs.YtmgljgmieomngaaW.PrintMore
theorem bt_left (a b : ByteArray) (i : Int) (h0 : 0 ≤ i) (h1 : i < (a.size : Int)) : bt (a ++ b) i = bt a i := by
  have hz : (a ++ b).size = a.size + b.size := ByteArray.size_append
  have h2 : i.toNat < a.size := by omega
  have h3 : i.toNat < (a ++ b).size := by omega
  rw [← bt_at (a ++ b) i h3, ← bt_at a i h2, ByteArray.getElem_append_left h2]
theorem bt_right (a b : ByteArray) (i : Int) (h0 : 0 ≤ i) : bt (a ++ b) (i + a.size) = bt b i := by
  have hz : (a ++ b).size = a.size + b.size := ByteArray.size_append
  have e : (i + (a.size : Int)).toNat = i.toNat + a.size := by omega
  by_cases h2 : i.toNat < b.size
  · have h3 : (i + (a.size : Int)).toNat < (a ++ b).size := by omega
    rw [← bt_at (a ++ b) _ h3, ← bt_at b i h2, ByteArray.getElem_append_right (by omega)]
    have e2 : (i + (a.size : Int)).toNat - a.size = i.toNat := by omega
    simp only [e2]
  · have h3 : ¬ (i + (a.size : Int)).toNat < (a ++ b).size := by omega
    unfold bt
    rw [dif_neg h3, dif_neg h2]
theorem nine (k : Nat) (hk : k ≤ 8) : ((⟨#[32, 32, 32, 32, 32, 32, 32, 32, 32]⟩ : ByteArray).extract 0 k).size = k ∧ ∀ i : Int, 0 ≤ i → i < k → bt ((⟨#[32, 32, 32, 32, 32, 32, 32, 32, 32]⟩ : ByteArray).extract 0 k) i = 32 := by
  have hz : (⟨#[32, 32, 32, 32, 32, 32, 32, 32, 32]⟩ : ByteArray).size = 9 := rfl
  refine ⟨?_, fun i h0 h1 => ?_⟩
  · rw [ByteArray.size_extract, hz]; omega
  · rw [bt_ext _ 0 k (by rw [hz]; omega) i h0 (by omega)]
    have hc : i = 0 ∨ i = 1 ∨ i = 2 ∨ i = 3 ∨ i = 4 ∨ i = 5 ∨ i = 6 ∨ i = 7 := by omega
    rcases hc with rfl | rfl | rfl | rfl | rfl | rfl | rfl | rfl <;> rfl
theorem PredBlanks : grapevinelaw05_PredBlanks.Pure := by
  intro s a1 hs ha
  have ha : 0 ≤ a1 ∧ a1 ≤ 255 := by
    simp [Lit.wf, IntKind.min, IntKind.max, IntKind.signed, IntKind.bits] at ha
    omega
  refine ⟨100, ?_⟩
  have hw : wrap64 a1 = a1 := w64_id (by omega) (by omega)
  obtain ⟨k, hk, hk8⟩ : ∃ k : Nat, Int.tmod (wrap64 a1) 9 = (k : Int) ∧ k ≤ 8 := by
    rw [hw, Int.tmod_eq_emod_of_nonneg (by omega)]
    exact ⟨(a1 % 9).toNat, by omega, by omega⟩
  unfold grapevinelaw05_PredBlanks.f
  rw [hk]
  have w1 : wrap64 (2 * (k : Int)) = 2 * k := w64_id (by omega) (by omega)
  have w2 : wrap64 ((s.size : Int) + 2 * k) = s.size + 2 * k := w64_id (by omega) (by omega)
  rw [w1, w2]
  by_cases hbig : (s.size : Int) + 2 * k > 300
  · rw [if_pos hbig]; rfl
  rw [if_neg hbig, if_pos (by omega), if_pos (by omega)]
  have hn := nine k hk8
  have hkt : ((k : Nat) : Int).toNat = k := Int.toNat_natCast k
  rw [hkt]
  generalize (⟨#[32, 32, 32, 32, 32, 32, 32, 32, 32]⟩ : ByteArray).extract 0 k = b at hn ⊢
  obtain ⟨hz, hb⟩ := hn
  have z1 : (b ++ s).size = b.size + s.size := ByteArray.size_append
  have z2 : (s ++ b).size = s.size + b.size := ByteArray.size_append
  have hA : Sh s (b ++ s) k := ⟨by omega, fun p hp => by have := bt_right b s p hp; rw [hz] at this; exact this⟩
  have hT : Tr s (s ++ b) k := ⟨by omega, fun p h0 h1 => bt_left s b p h0 h1, fun p h0 h1 => by
    have := bt_right s b (p - s.size) (by omega)
    rw [show p - (s.size : Int) + s.size = p from by omega] at this
    rw [this]
    exact hb _ (by omega) (by omega)⟩
  obtain ⟨l, p, e, q1, q2, q3, q4, q5, q6, q7, q8⟩ := parse_ahead hA (by omega) (fun i h0 h1 => by rw [bt_left b s i h0 (by omega)]; exact hb i h0 h1)
  obtain ⟨l3, p3, e3, r1, _⟩ := parse_ahead (s := s ++ b) (s' := s ++ b) (k := 0) ⟨by omega, fun p _ => by simp⟩ (by omega) (fun i h0 h1 => by omega)
  unfold pred_Parse.f
  rw [q1, Option.bind_some, if_pos (by omega), q2, Option.bind_some, if_pos (by omega)]
  by_cases he : e = 0
  · subst he
    have hp0 := q3 rfl
    subst hp0
    rw [parse_behind hT (by omega) q1 q4, Option.bind_some]
    simp only [if_true]
    rw [Same_f l q4 q5 100 (by omega), Option.bind_some, if_pos rfl]
    unfold grapevinelaw05_PredBlanks.j0
    simp only [grapevinelaw05_live.f, Option.bind_some, if_true]
    rw [Same_f l q4 q5 _ (by omega)]
    simp
  · rw [r1, Option.bind_some]
    have w3 : wrap64 (p + (k : Int)) = p + k := w64_id (by omega) (by omega)
    simp only [if_neg he, if_true]
    rw [Same_f l q4 q5 100 (by omega), Option.bind_some, if_pos rfl, w3]
    unfold grapevinelaw05_PredBlanks.j0
    simp [grapevinelaw05_live.f, he]
end Go.Proofs.Ytmgljgmieomngaa.Pure
