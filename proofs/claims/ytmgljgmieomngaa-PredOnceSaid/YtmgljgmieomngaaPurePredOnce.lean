/- Bytes that are taken for terms are just their bytes; cut short they are ErrShort: for every bytes and place of a cut. -/
import Derived.Laws.BitsAllLaws
import Derived.RowKit
import Derived.Test.YtmgljgmieomngaaWd
import Derived.Test.YtmgljgmieomngaaQx66
import Derived.Test.YtmgljgmieomngaaQx42
import Derived.Test.YtmgljgmieomngaaQx68
import Derived.Test.YtmgljgmieomngaaQx45
import Derived.Test.YtmgljgmieomngaaQx67
import Derived.Test.YtmgljgmieomngaaQx43
import Derived.Test.YtmgljgmieomngaaQx44
import Derived.Test.YtmgljgmieomngaaFl
import Derived.Test.YtmgljgmieomngaaQx47
import Derived.Test.YtmgljgmieomngaaQx46
import Derived.Test.YtmgljgmieomngaaQx70
import Derived.Test.YtmgljgmieomngaaQx6
import Derived.Test.YtmgljgmieomngaaQx4
import Derived.Test.YtmgljgmieomngaaQx5
import Derived.Test.YtmgljgmieomngaaQx69
import Derived.Test.YtmgljgmieomngaaQx3
import Derived.Test.YtmgljgmieomngaaQx27
import Derived.Test.YtmgljgmieomngaaQx7
import Derived.Test.YtmgljgmieomngaaQx2
import Derived.Test.YtmgljgmieomngaaQx8
import Derived.Test.YtmgljgmieomngaaQx9
import Derived.Test.YtmgljgmieomngaaQx49
import Derived.Test.YtmgljgmieomngaaQx48
import Derived.Test.YtmgljgmieomngaaQx71
import Derived.Test.YtmgljgmieomngaaQx72
namespace Go.Proofs.Ytmgljgmieomngaa.Oct
open Go Go.RowKit Go.Proofs.YtmgljgmieomngaaW.PrintWords Go.Proofs.YtmgljgmieomngaaW.PrintMore
set_option linter.unusedVariables false

theorem u64w (x : Int) : IntKind.u64.wrap x = x % 18446744073709551616 := IntKind.wrap_u64 x
theorem u64w_id {x : Int} (h0 : 0 ≤ x) (h1 : x < 18446744073709551616) : IntKind.u64.wrap x = x := by rw [u64w]; omega
theorem w64_id {x : Int} (h0 : -9223372036854775808 ≤ x) (h1 : x < 9223372036854775808) : wrap64 x = x := by unfold wrap64; omega

/-- bytes: all from 0 to 255 -/
def Bs (l : List Int) : Prop := ∀ x ∈ l, 0 ≤ x ∧ x ≤ 255
theorem Bs.of_wf {l : List Int} (h : ∀ x ∈ l, (Lit.int .u8 x).wf = true) : Bs l := by
  intro x hx
  have := h x hx
  simp [Lit.wf, IntKind.min, IntKind.max, IntKind.signed, IntKind.bits] at this
  omega
theorem Bs.nil : Bs [] := by intro x hx; simp at hx
theorem Bs.cons {x : Int} {l : List Int} (h : 0 ≤ x ∧ x ≤ 255) (hl : Bs l) : Bs (x :: l) := by
  intro y hy
  rcases List.mem_cons.mp hy with rfl | hy
  · exact h
  · exact hl y hy
theorem Bs.append {a b : List Int} (ha : Bs a) (hb : Bs b) : Bs (a ++ b) := by
  intro x hx
  rcases List.mem_append.mp hx with h | h
  · exact ha x h
  · exact hb x h
theorem Bs.drop {l : List Int} (h : Bs l) (n : Nat) : Bs (l.drop n) := fun x hx => h x (List.mem_of_mem_drop hx)
theorem Bs.take {l : List Int} (h : Bs l) (n : Nat) : Bs (l.take n) := fun x hx => h x (List.mem_of_mem_take hx)

/-! ### a number's bytes -/
def uB : Nat → Int → List Int
  | 0, n => [n]
  | f + 1, n => if n ≥ 128 then (n % 128 + 128) :: uB f (n / 128) else [n]

theorem or128 (x : Int) (h0 : 0 ≤ x) (h1 : x < 256) : Go.bits .or .u8 x 128 = x % 128 + 128 := by
  rw [u8_or x 128 h0 h1 (by decide) (by decide)]
  have key : ∀ n : Fin 256, (n.val ||| 128) = n.val % 128 + 128 := by decide +kernel
  have := key ⟨x.toNat, by omega⟩
  simp only at this
  rw [show (128 : Int).toNat = 128 from rfl, this]
  omega
theorem and127 (x : Int) (h0 : 0 ≤ x) (h1 : x < 256) : Go.bits .and .u8 x 127 = x % 128 := by
  rw [u8_and x 127 h0 h1 (by decide) (by decide)]
  rw [show (127 : Int).toNat = 127 from rfl, nat_mask7]
  omega

theorem uB_len (f : Nat) (n : Int) : 1 ≤ (uB f n).length ∧ (uB f n).length ≤ f + 1 := by
  induction f generalizing n with
  | zero => simp [uB]
  | succ f ih =>
    unfold uB
    split
    · have := ih (n / 128)
      simp only [List.length_cons]
      omega
    · simp
theorem uB_small (f : Nat) (n : Int) (h : n < 128) : uB f n = [n] := by
  cases f with
  | zero => rfl
  | succ f => unfold uB; rw [if_neg (by omega)]
theorem uB_bytes (f : Nat) (n : Int) (h0 : 0 ≤ n) (h1 : n < 128 ^ (f + 1)) : Bs (uB f n) := by
  induction f generalizing n with
  | zero => exact Bs.cons ⟨h0, by simp at h1; omega⟩ Bs.nil
  | succ f ih =>
    unfold uB
    split
    · refine Bs.cons ⟨by omega, by omega⟩ (ih _ (by omega) ?_)
      rw [Int.pow_succ] at h1
      exact Int.ediv_lt_of_lt_mul (by decide) h1
    · exact Bs.cons ⟨h0, by omega⟩ Bs.nil

theorem uB_mono (f : Nat) : ∀ a b : Int, 0 ≤ a → a ≤ b → b < 128 ^ (f + 1) → (uB f a).length ≤ (uB f b).length := by
  induction f with
  | zero => intro a b _ _ _; simp [uB]
  | succ f ih =>
    intro a b ha hab hb
    unfold uB
    by_cases h1 : a ≥ 128
    · rw [if_pos h1, if_pos (by omega)]
      simp only [List.length_cons]
      have hb' : b / 128 < 128 ^ (f + 1) := by
        rw [Int.pow_succ] at hb
        exact Int.ediv_lt_of_lt_mul (by decide) hb
      have := ih (a / 128) (b / 128) (by omega) (by omega) hb'
      omega
    · rw [if_neg h1]
      have := (uB_len (f + 1) b).1
      unfold uB at this
      exact this

/-- what stands for a number: the value, how many bytes, the error -/
def tk : List Int → Nat → Int → Int × Int × Int
  | [], _, _ => (0, 0, 3)
  | x :: xs, i, n =>
    if i = 9 ∧ x > 1 then (0, 0, 6)
    else if x ≥ 128 then tk xs (i + 1) (n + x % 128 * 2 ^ (7 * i))
    else if x = 0 ∧ i > 0 then (0, 0, 4)
    else (n + x % 128 * 2 ^ (7 * i), (i : Int) + 1, 0)
def fin (at' : Int) (r : Int × Int × Int) : Int × Int × Int := (r.1, if r.2.2 = 0 then at' + r.2.1 else 0, r.2.2)
/-- the number at a place, and the place behind it, or the error -/
def TU (b : List Int) (at' : Int) : Int × Int × Int :=
  if at' < 0 ∨ at' > (b.length : Int) then (0, 0, 2) else fin at' (tk (b.drop at'.toNat) 0 0)

theorem pow2_le {a b : Nat} (h : a ≤ b) : (2 : Int) ^ a ≤ 2 ^ b := by
  have : ((2 ^ a : Nat) : Int) ≤ ((2 ^ b : Nat) : Int) := Int.ofNat_le.mpr (Nat.pow_le_pow_right (by decide) h)
  rw [Int.natCast_pow, Int.natCast_pow] at this
  exact this
theorem pow7 (i : Nat) : (2 : Int) ^ (7 * (i + 1)) = 2 ^ (7 * i) * 128 := by
  rw [Nat.mul_add, Int.pow_add]; rfl
theorem pow7pos (i : Nat) : (0 : Int) < 2 ^ (7 * i) := Int.pow_pos (by decide)
theorem pow_le9 {i : Nat} (h : i ≤ 9) : (2 : Int) ^ (7 * i) ≤ 9223372036854775808 := by
  have : (2 : Int) ^ (7 * i) ≤ 2 ^ (7 * 9) := pow2_le (by omega)
  exact this

/-- the digit's share, beside what was there -/
theorem or_shl (n x : Int) (i : Nat) (hi : i ≤ 9) (hn0 : 0 ≤ n) (hn : n < 2 ^ (7 * i)) (hx0 : 0 ≤ x) (hx : x ≤ 255) (h9 : i = 9 → x ≤ 1) :
    Go.bits .or .u64 n (shl .u64 (IntKind.u64.wrap (Go.bits .and .u8 x 127)) (wrap64 (7 * (i : Int)))) = n + x % 128 * 2 ^ (7 * i) ∧
      n + x % 128 * 2 ^ (7 * i) < 18446744073709551616 ∧ (i < 9 → n + x % 128 * 2 ^ (7 * i) < 2 ^ (7 * (i + 1))) := by
  have hp := pow7pos i
  have hp9 := pow_le9 hi
  have hm : x % 128 * 2 ^ (7 * i) + n < 18446744073709551616 := by
    by_cases h : i = 9
    · subst h
      have : x % 128 ≤ 1 := by have := h9 rfl; omega
      have e : (2 : Int) ^ (7 * 9) = 9223372036854775808 := by decide +kernel
      rw [e] at hn ⊢
      omega
    · have h8 : (2 : Int) ^ (7 * i) ≤ 2 ^ (7 * 8) := pow2_le (by omega)
      have e : (2 : Int) ^ (7 * 8) = 72057594037927936 := by decide +kernel
      rw [e] at h8
      have : x % 128 * 2 ^ (7 * i) ≤ 127 * 2 ^ (7 * i) := Int.mul_le_mul_of_nonneg_right (by omega) (by omega)
      omega
  have hlt : i < 9 → n + x % 128 * 2 ^ (7 * i) < 2 ^ (7 * (i + 1)) := by
    intro _
    rw [pow7]
    have : x % 128 * 2 ^ (7 * i) ≤ 127 * 2 ^ (7 * i) := Int.mul_le_mul_of_nonneg_right (by omega) (by omega)
    omega
  refine ⟨?_, by omega, hlt⟩
  rw [and127 x hx0 (by omega), u64w_id (by omega) (by omega), w64_id (by omega) (by omega)]
  have hs : min (7 * (i : Int)).toNat (IntKind.u64).bits = 7 * i := by
    have : (7 * (i : Int)).toNat = 7 * i := by omega
    rw [this]
    show min (7 * i) 64 = 7 * i
    omega
  unfold shl
  rw [hs]
  have hnn : 0 ≤ x % 128 * 2 ^ (7 * i) := Int.mul_nonneg (by omega) (by omega)
  rw [u64w_id hnn (by omega)]
  rw [u64_or n _ hn0 (by omega) hnn (by omega)]
  have e1 : (x % 128 * 2 ^ (7 * i)).toNat = 2 ^ (7 * i) * (x % 128).toNat := by
    have : x % 128 * 2 ^ (7 * i) = ((2 ^ (7 * i) * (x % 128).toNat : Nat) : Int) := by
      rw [Int.natCast_mul, Int.natCast_pow, Int.toNat_of_nonneg (by omega), Int.mul_comm]; rfl
    rw [this]; rfl
  have hnlt : n.toNat < 2 ^ (7 * i) := by
    have : (n.toNat : Int) < ((2 ^ (7 * i) : Nat) : Int) := by
      rw [Int.toNat_of_nonneg hn0, Int.natCast_pow]; exact hn
    omega
  rw [e1, Nat.or_comm, ← Nat.two_pow_add_eq_or_of_lt hnlt, Int.natCast_add, Int.natCast_mul, Int.natCast_pow, Int.toNat_of_nonneg (by omega), Int.toNat_of_nonneg hn0]
  have : ((2 : Nat) : Int) ^ (7 * i) = 2 ^ (7 * i) := rfl
  rw [this, Int.mul_comm]; omega

/-- what is told of a number's bytes, whatever stands behind -/
theorem tk_uB : ∀ (f i : Nat) (n acc : Int) (rest : List Int), i + f = 9 → 0 ≤ n → n < 2 ^ (64 - 7 * i) → (i = 0 ∨ n > 0) →
    tk (uB f n ++ rest) i acc = (acc + n * 2 ^ (7 * i), (i : Int) + (uB f n).length, 0) := by
  intro f
  induction f with
  | zero =>
    intro i n acc rest hi h0 h1 hz
    obtain rfl : i = 9 := by omega
    have hn : n < 2 := h1
    simp only [uB, List.singleton_append, tk]
    rw [if_neg (by omega), if_neg (by omega), if_neg (by omega)]
    rw [Int.emod_eq_of_lt h0 (by omega)]
    simp
  | succ f ih =>
    intro i n acc rest hi h0 h1 hz
    unfold uB
    by_cases h : n ≥ 128
    · rw [if_pos h]
      simp only [List.cons_append, tk]
      rw [if_neg (by omega), if_pos (by omega)]
      have e64 : 64 - 7 * i = 7 + (64 - 7 * (i + 1)) := by omega
      have hd : n / 128 < 2 ^ (64 - 7 * (i + 1)) := by
        rw [e64, Int.pow_add] at h1
        exact Int.ediv_lt_of_lt_mul (by decide) (by rw [Int.mul_comm]; exact h1)
      rw [ih (i + 1) (n / 128) _ rest (by omega) (by omega) hd (by omega)]
      have e1 : (n % 128 + 128) % 128 = n % 128 := by omega
      rw [e1, pow7]
      have e2 : n = n % 128 + 128 * (n / 128) := by omega
      have e3 : acc + n % 128 * 2 ^ (7 * i) + n / 128 * (2 ^ (7 * i) * 128) = acc + n * 2 ^ (7 * i) := by
        have : n * 2 ^ (7 * i) = n % 128 * 2 ^ (7 * i) + n / 128 * (2 ^ (7 * i) * 128) := by
          conv => lhs; rw [e2]
          rw [Int.add_mul, Int.mul_comm (2 ^ (7 * i)) 128, ← Int.mul_assoc, Int.mul_comm 128 (n / 128)]
        omega
      rw [e3]
      simp only [List.length_cons]
      congr 2
      omega
    · rw [if_neg h]
      simp only [List.singleton_append, tk]
      rw [if_neg (by omega), if_neg (by omega), if_neg (by omega), Int.emod_eq_of_lt h0 (by omega)]
      simp

/-- what is taken for a number are just its bytes -/
theorem tk_once : ∀ (l : List Int) (i : Nat) (acc v c : Int), Bs l → i ≤ 9 → tk l i acc = (v, c, 0) →
    ∃ (m : Int) (rest : List Int), l = uB (9 - i) m ++ rest ∧ v = acc + m * 2 ^ (7 * i) ∧ c = (i : Int) + (uB (9 - i) m).length ∧ 0 ≤ m ∧ m < 2 ^ (64 - 7 * i) ∧ (i > 0 → m > 0) := by
  intro l
  induction l with
  | nil => intro i acc v c _ _ h; simp [tk] at h
  | cons x xs ih =>
    intro i acc v c hb hi h
    have hx := hb x (by simp)
    unfold tk at h
    by_cases h1 : i = 9 ∧ x > 1
    · rw [if_pos h1] at h; simp at h
    · rw [if_neg h1] at h
      by_cases h2 : x ≥ 128
      · rw [if_pos h2] at h
        have hi' : i + 1 ≤ 9 := by omega
        obtain ⟨m, rest, hl, hv, hc, hm0, hm1, hmp⟩ := ih (i + 1) _ v c (fun y hy => hb y (by simp [hy])) hi' h
        have hmp := hmp (by omega)
        refine ⟨128 * m + x % 128, rest, ?_, ?_, ?_, by omega, ?_, by omega⟩
        · obtain ⟨f, hf⟩ : ∃ f, 9 - i = f + 1 := ⟨8 - i, by omega⟩
          rw [hf]
          unfold uB
          rw [if_pos (by omega)]
          have e1 : (128 * m + x % 128) % 128 + 128 = x := by omega
          have e2 : (128 * m + x % 128) / 128 = m := by omega
          rw [e1, e2, List.cons_append, hl, show f = 9 - (i + 1) from by omega]
        · rw [hv, pow7, Int.add_mul, Int.mul_comm (2 ^ (7 * i)) 128, ← Int.mul_assoc, Int.mul_comm m 128]
          omega
        · rw [hc]
          obtain ⟨f, hf⟩ : ∃ f, 9 - i = f + 1 := ⟨8 - i, by omega⟩
          rw [hf]
          conv => rhs; unfold uB
          rw [if_pos (by omega)]
          have e2 : (128 * m + x % 128) / 128 = m := by omega
          rw [e2, List.length_cons, show 9 - (i + 1) = f from by omega]
          omega
        · have e64 : 64 - 7 * i = 7 + (64 - 7 * (i + 1)) := by omega
          rw [e64, Int.pow_add]
          have : (2 : Int) ^ 7 = 128 := by decide
          rw [this]
          omega
      · rw [if_neg h2] at h
        by_cases h3 : x = 0 ∧ i > 0
        · rw [if_pos h3] at h; simp at h
        · rw [if_neg h3] at h
          simp only [Prod.mk.injEq] at h
          obtain ⟨hv, hc, _⟩ := h
          refine ⟨x, xs, ?_, ?_, ?_, by omega, ?_, by omega⟩
          · rw [uB_small _ _ (by omega)]; rfl
          · rw [← hv, Int.emod_eq_of_lt (by omega) (by omega)]
          · rw [uB_small _ _ (by omega), ← hc]; rfl
          · by_cases h9 : i = 9
            · subst h9
              show x < 2
              omega
            · have : (2 : Int) ^ 8 ≤ 2 ^ (64 - 7 * i) := pow2_le (by omega)
              have e : (2 : Int) ^ 8 = 256 := by decide
              omega

/-- cut short -/
theorem tk_cut : ∀ (f i : Nat) (n acc : Int) (m : Nat), i + f = 9 → 0 ≤ n → n < 2 ^ (64 - 7 * i) → m < (uB f n).length → tk ((uB f n).take m) i acc = (0, 0, 3) := by
  intro f
  induction f with
  | zero =>
    intro i n acc m hi h0 h1 hm
    simp [uB] at hm
    subst hm
    simp [tk]
  | succ f ih =>
    intro i n acc m hi h0 h1 hm
    cases m with
    | zero => simp [tk]
    | succ m =>
      unfold uB at hm ⊢
      by_cases h : n ≥ 128
      · rw [if_pos h] at hm ⊢
        simp only [List.take_succ_cons, tk]
        rw [if_neg (by omega), if_pos (by omega)]
        have e64 : 64 - 7 * i = 7 + (64 - 7 * (i + 1)) := by omega
        refine ih (i + 1) (n / 128) _ m (by omega) (by omega) ?_ (by simpa using hm)
        rw [e64, Int.pow_add] at h1
        exact Int.ediv_lt_of_lt_mul (by decide) (by rw [Int.mul_comm]; exact h1)
      · rw [if_neg h] at hm
        simp at hm
theorem tk_range : ∀ (l : List Int) (i : Nat) (acc : Int), Bs l → i ≤ 9 → 0 ≤ acc → acc < 2 ^ (7 * i) →
    0 ≤ (tk l i acc).1 ∧ (tk l i acc).1 < 18446744073709551616 ∧ 0 ≤ (tk l i acc).2.1 ∧ (tk l i acc).2.1 ≤ (i : Int) + l.length ∧ ((tk l i acc).2.2 ≠ 0 → (tk l i acc).1 = 0 ∧ (tk l i acc).2.1 = 0) ∧ ((tk l i acc).2.2 = 0 → (i : Int) < (tk l i acc).2.1) := by
  intro l
  induction l with
  | nil => intro i acc _ _ _ _; simp [tk] <;> omega
  | cons x xs ih =>
    intro i acc hb hi h0 h1
    have hx := hb x (by simp)
    unfold tk
    by_cases c1 : i = 9 ∧ x > 1
    · rw [if_pos c1]; simp; omega
    · rw [if_neg c1]
      obtain ⟨_, r1, r2⟩ := or_shl acc x i hi h0 h1 hx.1 hx.2 (by omega)
      have hnn : 0 ≤ x % 128 * 2 ^ (7 * i) := Int.mul_nonneg (by omega) (by have := pow7pos i; omega)
      by_cases c2 : x ≥ 128
      · rw [if_pos c2]
        have := ih (i + 1) (acc + x % 128 * 2 ^ (7 * i)) (fun y hy => hb y (by simp [hy])) (by omega) (by omega) (r2 (by omega))
        simp only [List.length_cons]
        refine ⟨this.1, this.2.1, this.2.2.1, by have := this.2.2.2.1; omega, this.2.2.2.2.1, fun h => by have := this.2.2.2.2.2 h; omega⟩
      · rw [if_neg c2]
        by_cases c3 : x = 0 ∧ i > 0
        · rw [if_pos c3]; simp; omega
        · rw [if_neg c3]
          simp only [List.length_cons]
          refine ⟨by omega, r1, by omega, by omega, by simp, by omega⟩
theorem pow64 : (2 : Int) ^ (64 - 7 * 0) = 18446744073709551616 := by decide +kernel
theorem pow128 : (128 : Int) ^ (9 + 1) = 1180591620717411303424 := by decide +kernel

/-! ### numbers that may be below 0 -/
def fold (n : Int) : Int := if n ≥ 0 then 2 * n else -2 * n - 1
def unfold' (u : Int) : Int := if u % 2 = 0 then u / 2 else -(u / 2) - 1
theorem fold_range {n : Int} (h0 : -9223372036854775808 ≤ n) (h1 : n ≤ 9223372036854775807) : 0 ≤ fold n ∧ fold n < 18446744073709551616 := by
  unfold fold; split <;> omega
theorem unfold_fold (n : Int) : unfold' (fold n) = n := by
  unfold unfold' fold
  split
  · rw [if_pos (by omega)]; omega
  · rw [if_neg (by omega)]; omega
theorem fold_unfold (u : Int) (h : 0 ≤ u) : fold (unfold' u) = u := by
  unfold unfold' fold
  split
  · rw [if_pos (by omega)]; omega
  · rw [if_neg (by omega)]; omega
theorem unfold_range {u : Int} (h0 : 0 ≤ u) (h1 : u < 18446744073709551616) : -9223372036854775808 ≤ unfold' u ∧ unfold' u ≤ 9223372036854775807 := by
  unfold unfold'; split <;> omega
theorem xor_all64 (a : Nat) (h : a < 18446744073709551616) : a ^^^ 18446744073709551615 = 18446744073709551615 - a := by
  have h1 : (BitVec.ofNat 64 a ^^^ BitVec.allOnes 64).toNat = a ^^^ 18446744073709551615 := by
    rw [BitVec.toNat_xor, BitVec.toNat_allOnes, BitVec.toNat_ofNat, Nat.mod_eq_of_lt h]
  have h2 : (BitVec.ofNat 64 a ^^^ BitVec.allOnes 64).toNat = 18446744073709551615 - a := by
    rw [BitVec.xor_allOnes, BitVec.toNat_not, BitVec.toNat_ofNat, Nat.mod_eq_of_lt h]
  omega
theorem xor_fold (n : Int) (h0 : -9223372036854775808 ≤ n) (h1 : n ≤ 9223372036854775807) :
    Go.bits .xor .u64 (IntKind.u64.wrap ((IntKind.u64.wrap n) * 2)) (IntKind.u64.wrap (n / 9223372036854775808)) = fold n := by
  rw [u64w, u64w, u64w]
  have hr : 0 ≤ (n % 18446744073709551616 * 2) % 18446744073709551616 ∧ (n % 18446744073709551616 * 2) % 18446744073709551616 < 18446744073709551616 := by omega
  by_cases h : n ≥ 0
  · have e : n / 9223372036854775808 = 0 := by omega
    rw [e]
    have e2 : (n % 18446744073709551616 * 2) % 18446744073709551616 = 2 * n := by omega
    rw [e2]
    obtain ⟨m, hm⟩ : ∃ m : Nat, 2 * n = m := ⟨(2 * n).toNat, by omega⟩
    rw [hm]
    have := bits_xor_u64_nat m 0 (by omega) (by omega)
    simp only [Int.ofNat_zero, Nat.xor_zero] at this
    rw [show ((0 : Int) % 18446744073709551616) = ((0 : Nat) : Int) from rfl]
    have := bits_xor_u64_nat m 0 (by omega) (by omega)
    rw [this, Nat.xor_zero]
    unfold fold; rw [if_pos h, hm]
  · have e : n / 9223372036854775808 = -1 := by omega
    rw [e]
    obtain ⟨m, hm⟩ : ∃ m : Nat, (n % 18446744073709551616 * 2) % 18446744073709551616 = m := ⟨_, (Int.toNat_of_nonneg hr.1).symm⟩
    rw [hm]
    rw [show ((-1 : Int) % 18446744073709551616) = ((18446744073709551615 : Nat) : Int) from rfl]
    rw [bits_xor_u64_nat m 18446744073709551615 (by omega) (by omega), xor_all64 m (by omega)]
    unfold fold; rw [if_neg h]
    omega
theorem xor_unfold (u : Int) (h0 : 0 ≤ u) (h1 : u < 18446744073709551616) :
    Go.bits .xor .i64 (wrap64 (u / 2)) (wrap64 (-(wrap64 (Go.bits .and .u64 u 1)))) = unfold' u := by
  rw [u64_and u 1 h0 h1 (by decide) (by decide), show (1 : Int).toNat = 1 from rfl, nat_mask1]
  rw [w64_id (x := u / 2) (by omega) (by omega)]
  have e0 : ((u.toNat % 2 : Nat) : Int) = u % 2 := by omega
  rw [e0, w64_id (x := u % 2) (by omega) (by omega), w64_id (x := -(u % 2)) (by omega) (by omega)]
  obtain ⟨m, hm⟩ : ∃ m : Nat, u / 2 = m := ⟨_, (Int.toNat_of_nonneg (by omega)).symm⟩
  unfold unfold'
  rw [hm]
  show IntKind.i64.wrap ((BitVec.ofInt 64 (m : Int) ^^^ BitVec.ofInt 64 (-(u % 2))).toNat : Int) = _
  by_cases h : u % 2 = 0
  · rw [if_pos h, h]
    have : BitVec.ofInt 64 (-0) = 0#64 := by decide
    rw [this, BitVec.xor_zero, ofInt_u64 m (by omega), IntKind.wrap_i64]
    omega
  · rw [if_neg h, show u % 2 = 1 from by omega]
    have : BitVec.ofInt 64 (-1) = BitVec.allOnes 64 := by decide
    rw [this, BitVec.xor_allOnes, BitVec.toNat_not, ofInt_u64 m (by omega), IntKind.wrap_i64]
    omega
end Go.Proofs.Ytmgljgmieomngaa.Oct
namespace Go.Proofs.Ytmgljgmieomngaa.Oct
open Go Go.RowKit Go.Proofs.YtmgljgmieomngaaW.PrintWords Go.Proofs.YtmgljgmieomngaaW.PrintMore Go.Proofs.Ytmgljgmieomngaa.Q
set_option linter.unusedVariables false

theorem Uint_l0 : ∀ (f : Nat) (n : Int) (acc : List Int) (k : Nat), 0 ≤ n → n < 128 ^ (f + 1) → acc.length + f < 140737488355328 → f < k →
    octet_Uint.l0 k n acc = some (acc ++ uB f n) := by
  intro f
  induction f with
  | zero =>
    intro n acc k h0 h1 ha hk
    obtain ⟨k, rfl⟩ : ∃ m, k = m + 1 := ⟨k - 1, by omega⟩
    simp only [octet_Uint.l0]
    have : n < 128 := by simpa using h1
    rw [if_neg (by omega), if_pos (by omega)]
    simp only [uB]
    rw [Int.emod_eq_of_lt h0 (by omega)]
  | succ f ih =>
    intro n acc k h0 h1 ha hk
    obtain ⟨k, rfl⟩ : ∃ m, k = m + 1 := ⟨k - 1, by omega⟩
    simp only [octet_Uint.l0]
    by_cases h : n ≥ 128
    · rw [if_pos h, if_pos (by omega)]
      have hd : n / 128 < 128 ^ (f + 1) := by
        rw [Int.pow_succ] at h1
        exact Int.ediv_lt_of_lt_mul (by decide) h1
      have e : Go.bits .or .u8 (n % 256) 128 = n % 128 + 128 := by rw [or128 _ (by omega) (by omega)]; omega
      rw [e, ih (n / 128) _ k (by omega) hd (by simp; omega) (by omega)]
      conv => rhs; unfold uB
      rw [if_pos h]
      simp
    · rw [if_neg h, if_pos (by omega)]
      unfold uB
      rw [if_neg h, Int.emod_eq_of_lt h0 (by omega)]
/-- octet.Uint -/
theorem Uint_f (n : Int) (k : Nat) (h0 : 0 ≤ n) (h1 : n < 18446744073709551616) (hk : 20 ≤ k) : octet_Uint.f k n = some (uB 9 n) := by
  unfold octet_Uint.f
  rw [Uint_l0 9 n [] k h0 (by rw [pow128]; omega) (by simp) (by omega)]
  rfl

theorem wf_u64 {n : Int} (h : (Lit.int .u64 n).wf = true) : 0 ≤ n ∧ n < 18446744073709551616 := by
  simp [Lit.wf, IntKind.min, IntKind.max, IntKind.signed, IntKind.bits] at h
  omega
theorem wf_i64 {n : Int} (h : (Lit.int .i64 n).wf = true) : -9223372036854775808 ≤ n ∧ n ≤ 9223372036854775807 := by
  simp [Lit.wf, IntKind.min, IntKind.max, IntKind.signed, IntKind.bits] at h
  omega
end Go.Proofs.Ytmgljgmieomngaa.Oct
namespace Go.Proofs.Ytmgljgmieomngaa.Oct
open Go Go.RowKit Go.Proofs.YtmgljgmieomngaaW.PrintWords Go.Proofs.YtmgljgmieomngaaW.PrintMore Go.Proofs.Ytmgljgmieomngaa.Q
set_option linter.unusedVariables false

theorem rd_drop {b : List Int} {p : Nat} {x : Int} {xs : List Int} (h : b.drop p = x :: xs) {j : Int} (hj : j = p) : rd b j = x := by
  subst hj
  unfold rd
  rw [Int.toNat_natCast, List.getD_eq_getElem?_getD]
  have : (b.drop p)[0]? = some x := by rw [h]; rfl
  rw [List.getElem?_drop] at this
  simp at this
  simp [this]
theorem drop_succ {b : List Int} {p : Nat} {x : Int} {xs : List Int} (h : b.drop p = x :: xs) : b.drop (p + 1) = xs := by
  rw [← List.drop_drop, h]; rfl
theorem drop_lt {b : List Int} {p : Nat} {x : Int} {xs : List Int} (h : b.drop p = x :: xs) : p < b.length := by
  rcases Nat.lt_or_ge p b.length with h' | h'
  · exact h'
  · rw [List.drop_of_length_le h'] at h; cases h

theorem TakeUint_l0 (b : List Int) (hb : Bs b) (hl : b.length ≤ 140737488355328) (p : Nat) (hp : p ≤ b.length) : ∀ (rest : List Int) (i : Nat) (n : Int) (k : Nat), b.drop (p + i) = rest → i ≤ 9 → 0 ≤ n → n < 2 ^ (7 * i) → p + i ≤ b.length → 20 ≤ k + 2 * i →
    octet_TakeUint.l0 (k + 1) b p n i = some (fin p (tk rest i n)) := by
  intro rest
  induction rest with
  | nil =>
    intro i n k hd hi h0 h1 hpi hk
    have : b.length ≤ p + i := by simpa using hd
    simp only [octet_TakeUint.l0]
    rw [w64_id (x := (p : Int) + i) (by omega) (by omega), if_pos (by omega)]
    rfl
  | cons x xs ih =>
    intro i n k hd hi h0 h1 hpi hk
    have hlt := drop_lt hd
    have hx : 0 ≤ x ∧ x ≤ 255 := (hb.drop (p + i)) x (by rw [hd]; simp)
    simp only [octet_TakeUint.l0]
    rw [w64_id (x := (p : Int) + i) (by omega) (by omega), if_neg (by omega), if_pos (by omega), if_pos (by omega), rd_drop hd (by omega)]
    obtain ⟨k, rfl⟩ : ∃ m, k = m + 1 := ⟨k - 1, by omega⟩
    have e35 : (if (i : Int) = 9 then octet_TakeUint.j2 (k + 1) b p n i x (decide (x > 1)) else octet_TakeUint.j2 (k + 1) b p n i x false) = octet_TakeUint.j2 (k + 1) b p n i x (decide (i = 9 ∧ x > 1)) := by
      by_cases h9 : i = 9
      · rw [if_pos (by omega)]; simp [h9]
      · rw [if_neg (by omega)]; simp [h9]
    rw [e35]
    simp only [octet_TakeUint.j2]
    unfold tk
    by_cases c1 : i = 9 ∧ x > 1
    · rw [if_pos (by simp [c1]), if_pos c1]; rfl
    · rw [if_neg (by simpa using c1), if_neg c1]
      obtain ⟨e, r1, r2⟩ := or_shl n x i hi h0 h1 hx.1 hx.2 (by omega)
      rw [e]
      have hnn : 0 ≤ x % 128 * 2 ^ (7 * i) := Int.mul_nonneg (by omega) (by have := pow7pos i; omega)
      rw [w64_id (x := 7 * (i : Int)) (by omega) (by omega), if_pos (by omega)]
      by_cases c2 : x ≥ 128
      · rw [if_pos c2, if_pos c2, w64_id (x := (i : Int) + 1) (by omega) (by omega)]
        obtain ⟨k, rfl⟩ : ∃ m, k = m + 1 := ⟨k - 1, by omega⟩
        have := ih (i + 1) (n + x % 128 * 2 ^ (7 * i)) k (by rw [← Nat.add_assoc]; exact drop_succ hd) (by omega) (by omega) (r2 (by omega)) (by omega) (by omega)
        rw [← this]; rfl
      · rw [if_neg c2, if_neg c2, w64_id (x := (p : Int) + i) (by omega) (by omega), w64_id (x := (p : Int) + i + 1) (by omega) (by omega)]
        by_cases c3 : x = 0
        · rw [if_pos c3]
          by_cases c4 : i > 0
          · rw [if_pos (by omega), if_pos ⟨c3, c4⟩]; rfl
          · rw [if_neg (by omega), if_neg (by omega)]
            simp only [fin, if_true]; congr 2 <;> first | rfl | omega | (congr 1 <;> first | rfl | omega)
        · rw [if_neg c3, if_neg (by omega)]
          simp only [fin, if_true]; congr 2 <;> first | rfl | omega | (congr 1 <;> first | rfl | omega)
/-- octet.TakeUint -/
theorem TakeUint_f (b : List Int) (hb : Bs b) (hl : b.length ≤ 140737488355328) (p : Int) (k : Nat) (hk : 30 ≤ k) : octet_TakeUint.f k b p = some (TU b p) := by
  unfold octet_TakeUint.f TU
  obtain ⟨k, rfl⟩ : ∃ m, k = m + 2 := ⟨k - 2, by omega⟩
  by_cases h : p < 0
  · rw [if_pos h, if_pos (.inl h)]; rfl
  · rw [if_neg h]
    simp only [octet_TakeUint.j0]
    by_cases h2 : p > (b.length : Int)
    · rw [if_pos (by simpa using h2), if_pos (.inr h2)]
    · rw [if_neg (by simpa using h2), if_neg (by omega)]
      obtain ⟨q, rfl⟩ : ∃ q : Nat, p = q := ⟨p.toNat, by omega⟩
      exact TakeUint_l0 b hb hl q (by omega) _ 0 0 k rfl (by omega) (by omega) (by decide) (by omega) (by omega)

theorem TU_range (b : List Int) (hb : Bs b) (p : Int) : 0 ≤ (TU b p).1 ∧ (TU b p).1 < 18446744073709551616 ∧ 0 ≤ (TU b p).2.1 ∧ (TU b p).2.1 ≤ b.length ∧ ((TU b p).2.2 ≠ 0 → (TU b p).1 = 0 ∧ (TU b p).2.1 = 0) ∧ ((TU b p).2.2 = 0 → 0 ≤ p ∧ p < (TU b p).2.1) := by
  unfold TU
  by_cases h : p < 0 ∨ p > (b.length : Int)
  · rw [if_pos h]; simp
  · rw [if_neg h]
    obtain ⟨r1, r2, r3, r4, r5, r6⟩ := tk_range (b.drop p.toNat) 0 0 (hb.drop _) (by omega) (by omega) (by decide)
    rw [List.length_drop] at r4
    unfold fin
    generalize tk (b.drop p.toNat) 0 0 = t at *
    by_cases e : t.2.2 = 0
    · rw [if_pos e]
      have := r6 e
      dsimp only
      refine ⟨r1, r2, by omega, by omega, fun h => absurd e h, fun _ => by omega⟩
    · rw [if_neg e]
      dsimp only
      refine ⟨r1, r2, by omega, by omega, fun h => ⟨(r5 h).1, rfl⟩, fun h => absurd h e⟩
end Go.Proofs.Ytmgljgmieomngaa.Oct
namespace Go.Proofs.Ytmgljgmieomngaa.Oct
open Go Go.RowKit Go.Proofs.YtmgljgmieomngaaW.PrintWords Go.Proofs.YtmgljgmieomngaaW.PrintMore Go.Proofs.Ytmgljgmieomngaa.Q
set_option linter.unusedVariables false

/-- the number that may be below 0 at a place -/
def TI (b : List Int) (p : Int) : Int × Int × Int := (unfold' (TU b p).1, (TU b p).2.1, (TU b p).2.2)

theorem Int_f (n : Int) (k : Nat) (h0 : -9223372036854775808 ≤ n) (h1 : n ≤ 9223372036854775807) (hk : 20 ≤ k) : octet_Int.f k n = some (uB 9 (fold n)) := by
  unfold octet_Int.f
  have := fold_range h0 h1
  rw [xor_fold n h0 h1, Uint_f _ k this.1 this.2 hk]
  rfl
theorem TakeInt_f (b : List Int) (hb : Bs b) (hl : b.length ≤ 140737488355328) (p : Int) (k : Nat) (hk : 30 ≤ k) : octet_TakeInt.f k b p = some (TI b p) := by
  unfold octet_TakeInt.f TI
  rw [TakeUint_f b hb hl p k hk]
  simp only [Option.bind_some]
  have := TU_range b hb p
  rw [xor_unfold _ this.1 this.2.1]
end Go.Proofs.Ytmgljgmieomngaa.Oct
namespace Go.Proofs.Ytmgljgmieomngaa.Oct
open Go Go.RowKit Go.Proofs.YtmgljgmieomngaaW.PrintWords Go.Proofs.YtmgljgmieomngaaW.PrintMore Go.Proofs.Ytmgljgmieomngaa.Q
set_option linter.unusedVariables false

/-- as many bytes as the number at a place says -/
def PT (b : List Int) (p most : Int) : List Int × Int × Int :=
  if (TU b p).2.2 = 0 then
    if (TU b p).1 > most then ([], 0, 6)
    else if (TU b p).1 > (b.length : Int) - (TU b p).2.1 then ([], 0, 3)
    else ((b.drop (TU b p).2.1.toNat).take (TU b p).1.toNat, (TU b p).2.1 + (TU b p).1, 0)
  else ([], 0, (TU b p).2.2)
def TX (s : ByteArray) : List Int × Int := if (s.size : Int) > 200 then ([], 6) else (uB 9 s.size ++ bytesOf s, 0)

theorem part_f (b : List Int) (hb : Bs b) (hl : b.length ≤ 140737488355328) (p most : Int) (hm0 : 0 ≤ most) (hm1 : most ≤ 140737488355328) (k : Nat) (hk : 30 ≤ k) : octet_part.f k b p most = some (PT b p most) := by
  unfold octet_part.f PT
  rw [TakeUint_f b hb hl p k hk]
  simp only [Option.bind_some]
  obtain ⟨r1, r2, r3, r4, r5, r6⟩ := TU_range b hb p
  generalize TU b p = t at *
  by_cases h : t.2.2 = 0
  · rw [if_pos h, if_pos h, u64w_id (x := most) hm0 (by omega)]
    by_cases h1 : t.1 > most
    · rw [if_pos h1, if_pos h1]
    · rw [if_neg h1, if_neg h1, w64_id (x := (b.length : Int) - t.2.1) (by omega) (by omega), u64w_id (x := (b.length : Int) - t.2.1) (by omega) (by omega)]
      by_cases h2 : t.1 > (b.length : Int) - t.2.1
      · rw [if_pos h2, if_pos h2]
      · rw [if_neg h2, if_neg h2, w64_id (x := t.1) (by omega) (by omega), w64_id (x := t.2.1 + t.1) (by omega) (by omega), if_pos (by omega), if_pos (by omega), if_pos (by omega)]
        have e : (t.2.1 + t.1).toNat - t.2.1.toNat = t.1.toNat := by omega
        rw [List.drop_take, e]
  · rw [if_neg h, if_neg h]
theorem TakeText_f (b : List Int) (hb : Bs b) (hl : b.length ≤ 140737488355328) (p : Int) (k : Nat) (hk : 30 ≤ k) : octet_TakeText.f k b p = some (strOfNums (PT b p 200).1, (PT b p 200).2.1, (PT b p 200).2.2) := by
  unfold octet_TakeText.f
  rw [part_f b hb hl p 200 (by omega) (by omega) k hk]
  rfl
theorem Text_f (s : ByteArray) (k : Nat) (hk : 20 ≤ k) : octet_Text.f k s = some (TX s) := by
  unfold octet_Text.f TX
  by_cases h : (s.size : Int) > 200
  · rw [if_pos h, if_pos h]
  · rw [if_neg h, if_neg h, u64w_id (x := (s.size : Int)) (by omega) (by omega), Uint_f _ k (by omega) (by omega) hk]
    simp only [Option.bind_some]
    have := uB_len 9 (s.size : Int)
    rw [if_pos (by omega)]
theorem str_bytes (s : ByteArray) : strOfNums (bytesOf s) = s := by
  cases s with
  | mk d =>
    unfold strOfNums bytesOf
    congr 1
    simp only [List.map_map]
    have : (fun n : Int => UInt8.ofNat n.toNat) ∘ (fun b : UInt8 => (b.toNat : Int)) = id := by
      funext b
      simp
    rw [this]
    simp
theorem bytesOf_bs (s : ByteArray) : Bs (bytesOf s) := by
  intro x hx
  unfold bytesOf at hx
  obtain ⟨b, _, rfl⟩ := List.mem_map.mp hx
  have := b.toNat_lt
  omega
/-- bytes that are put behind their length are taken as they were -/
theorem PT_back (l : List Int) (most : Int) (hl : (l.length : Int) ≤ most) (hm : most ≤ 140737488355328) (a c : List Int) :
    PT (a ++ (uB 9 l.length ++ l) ++ c) a.length most = (l, (a.length : Int) + (uB 9 l.length ++ l).length, 0) := by
  have hT : TU (a ++ (uB 9 l.length ++ l) ++ c) a.length = ((l.length : Int), (a.length : Int) + (uB 9 l.length).length, 0) := by
    unfold TU
    rw [if_neg (by simp; omega), Int.toNat_natCast, List.append_assoc, List.drop_left, List.append_assoc, tk_uB 9 0 _ 0 (l ++ c) (by decide) (by omega) (by rw [pow64]; omega) (.inl rfl)]
    simp [fin]
  unfold PT
  rw [hT]
  simp only [if_true]
  rw [if_neg (by omega), if_neg (by simp; omega)]
  congr 1
  · rw [show ((a.length : Int) + (uB 9 l.length).length).toNat = (a ++ uB 9 l.length).length from by simp; omega]
    rw [show a ++ (uB 9 l.length ++ l) ++ c = (a ++ uB 9 l.length) ++ (l ++ c) from by simp, List.drop_left, Int.toNat_natCast, List.take_left]
  · congr 1
    simp
    omega
end Go.Proofs.Ytmgljgmieomngaa.Oct
namespace Go.Proofs.Ytmgljgmieomngaa.Oct
open Go Go.RowKit Go.Proofs.YtmgljgmieomngaaW.PrintWords
set_option linter.unusedVariables false
theorem order_self (w : Nat) (h : ((FloatKind.f64.format.read w).isNaN) = false) : FloatKind.f64.format.order w w = some .eq := by
  unfold Ieee.Format.order
  generalize FloatKind.f64.format.read w = d at *
  cases d with
  | number s m e => simp [Ieee.Datum.order]
  | infinity s => simp [Ieee.Datum.order]
  | nan s f => simp [Ieee.Datum.isNaN] at h
theorem fmt_sw : FloatKind.f64.format.signWeight = 9223372036854775808 := by decide +kernel
theorem fmt_bin : FloatKind.f64.format.binade = 4503599627370496 := by decide +kernel
theorem fmt_inf : FloatKind.f64.format.infRung = 9218868437227405312 := by decide +kernel
theorem fmt_lp : FloatKind.f64.format.leastPlace = -1074 := by decide +kernel
theorem read_word (neg : Bool) (rung : Nat) (h : rung ≤ 9218868437227405312) : ((FloatKind.f64.format.read (FloatKind.f64.format.word neg rung)).isNaN) = false := by
  unfold Ieee.Format.read Ieee.Format.word
  rw [fmt_sw, fmt_bin, fmt_inf]
  have e : (if neg = true then 9223372036854775808 + rung else rung) % 9223372036854775808 = rung := by split <;> omega
  simp only [e]
  split
  · rfl
  · split
    · rfl
    · rw [if_pos (by omega)]; rfl
theorem float_self (n : Int) : FloatKind.f64.format.order (floatOfInt .f64 n) (floatOfInt .f64 n) = some .eq := by
  apply order_self
  unfold floatOfInt FloatKind.nearest FloatKind.encode Ieee.Format.write Ieee.Format.nearest
  simp only
  split
  · exact read_word _ _ (by omega)
  · refine read_word _ _ ?_
    rw [fmt_inf]
    exact Nat.min_le_right _ _
end Go.Proofs.Ytmgljgmieomngaa.Oct
namespace Go.Proofs.Ytmgljgmieomngaa.Oct
open Go Go.RowKit Go.Proofs.YtmgljgmieomngaaW.PrintWords Go.Proofs.YtmgljgmieomngaaW.PrintMore Go.Proofs.Ytmgljgmieomngaa.Q
set_option linter.unusedVariables false
abbrev T7 := Int × Int × ByteArray × Bool × Cx × Int × Int
def Z7 (e : Int) : T7 := (0, 0, (⟨#[]⟩ : ByteArray), false, (⟨0, 0⟩ : Cx), 0, e)
/-- a point's part -/
def SD (b : List Int) (p : Int) : Int × Int × Int :=
  if (TI b p).2.2 = 0 then if (TI b p).1 < -1048576 ∨ (TI b p).1 > 1048576 then (0, 0, 6) else TI b p else (0, 0, (TI b p).2.2)
/-- the value at a place -/
def VT (b : List Int) (p : Int) : T7 :=
  if p < 0 ∨ p > (b.length : Int) then Z7 2
  else if p = (b.length : Int) then Z7 3
  else if rd b p = 1 then (if (TI b (p + 1)).2.2 = 0 then (1, (TI b (p + 1)).1, (⟨#[]⟩ : ByteArray), false, (⟨0, 0⟩ : Cx), (TI b (p + 1)).2.1, 0) else Z7 (TI b (p + 1)).2.2)
  else if rd b p = 2 then (if (PT b (p + 1) 200).2.2 = 0 then (2, 0, strOfNums (PT b (p + 1) 200).1, false, (⟨0, 0⟩ : Cx), (PT b (p + 1) 200).2.1, 0) else Z7 (PT b (p + 1) 200).2.2)
  else if rd b p = 3 then (if p + 1 = (b.length : Int) then Z7 3 else if rd b (p + 1) > 1 then Z7 4 else (3, 0, (⟨#[]⟩ : ByteArray), rd b (p + 1) == 1, (⟨0, 0⟩ : Cx), p + 2, 0))
  else if rd b p = 4 then (if (SD b (p + 1)).2.2 = 0 then
      (if (SD b (SD b (p + 1)).2.1).2.2 = 0 then (4, 0, (⟨#[]⟩ : ByteArray), false, (⟨floatOfInt .f64 (SD b (p + 1)).1, floatOfInt .f64 (SD b (SD b (p + 1)).2.1).1⟩ : Cx), (SD b (SD b (p + 1)).2.1).2.1, 0) else Z7 (SD b (SD b (p + 1)).2.1).2.2)
    else Z7 (SD b (p + 1)).2.2)
  else Z7 12
theorem rd_range (b : List Int) (hb : Bs b) (p : Int) (h0 : 0 ≤ p) (h1 : p < b.length) : 0 ≤ rd b p ∧ rd b p ≤ 255 := by
  obtain ⟨n, rfl⟩ : ∃ n : Nat, p = n := ⟨_, (Int.toNat_of_nonneg h0).symm⟩
  have hn : n < b.length := by omega
  have : rd b (n : Int) = b[n] := by unfold rd; rw [Int.toNat_natCast]; simp [List.getD_eq_getElem?_getD, hn]
  rw [this]
  exact hb _ (List.getElem_mem hn)
theorem J4 (k : Nat) (n x y : Int) (e : Int) : value_Take.j4 (k + 1) n e x y = some (if e = 0 then (4, 0, (⟨#[]⟩ : ByteArray), false, (⟨floatOfInt .f64 x, floatOfInt .f64 y⟩ : Cx), n, 0) else Z7 e) := by
  rw [value_Take.j4]
  unfold value_point.f
  by_cases h : e = 0
  · rw [if_pos h, if_pos h]; rfl
  · rw [if_neg h, if_neg h]; rfl
theorem J2e (k : Nat) (b : List Int) (n e x : Int) (h : e ≠ 0) : value_Take.j2 (k + 1) b n e x = some (Z7 e) := by
  rw [value_Take.j2, if_neg h]
  unfold value_point.f
  rfl
theorem SD_bad {b : List Int} {p : Int} (h : (TI b p).2.2 = 0) (h1 : (TI b p).1 < -1048576 ∨ (TI b p).1 > 1048576) : SD b p = (0, 0, 6) := by unfold SD; rw [if_pos h, if_pos h1]
theorem SD_ok {b : List Int} {p : Int} (h : (TI b p).2.2 = 0) (h1 : ¬ ((TI b p).1 < -1048576 ∨ (TI b p).1 > 1048576)) : SD b p = TI b p := by unfold SD; rw [if_pos h, if_neg h1]
theorem SD_err {b : List Int} {p : Int} (h : (TI b p).2.2 ≠ 0) : SD b p = (0, 0, (TI b p).2.2) := by unfold SD; rw [if_neg h]
theorem J2 (k : Nat) (b : List Int) (hb : Bs b) (hl : b.length ≤ 140737488355327) (n x : Int) (hk : 40 ≤ k) :
    value_Take.j2 (k + 3) b n 0 x = some (if (SD b n).2.2 = 0 then (4, 0, (⟨#[]⟩ : ByteArray), false, (⟨floatOfInt .f64 x, floatOfInt .f64 (SD b n).1⟩ : Cx), (SD b n).2.1, 0) else Z7 (SD b n).2.2) := by
  rw [value_Take.j2, if_pos rfl, TakeInt_f b hb (by omega) n (k + 2) (by omega)]
  simp only [Option.bind_some]
  by_cases h : (TI b n).2.2 = 0
  · rw [if_pos h]
    by_cases h1 : (TI b n).1 > 1048576
    · rw [if_pos h1, SD_bad h (.inr h1), value_Take.j3, if_pos rfl, J4]; simp
    · rw [if_neg h1]
      by_cases h2 : (TI b n).1 < -1048576
      · rw [SD_bad h (.inl h2), value_Take.j3, if_pos (decide_eq_true h2), J4]; simp
      · rw [SD_ok h (by omega), value_Take.j3, if_neg (by rw [decide_eq_false h2]; decide), J4]
  · rw [if_neg h, SD_err h, value_Take.j3, if_neg (by decide), J4]; simp [h]
theorem value_Take_f (b : List Int) (hb : Bs b) (hl : b.length ≤ 140737488355327) (p : Int) (k : Nat) (hk : 60 ≤ k) : value_Take.f k b p = some (VT b p) := by
  obtain ⟨k, rfl⟩ : ∃ m, k = m + 6 := ⟨k - 6, by omega⟩
  unfold value_Take.f VT
  by_cases h0 : p < 0
  · rw [if_pos h0, if_pos (.inl h0), value_Take.j0, if_pos rfl]; rfl
  · rw [if_neg h0, value_Take.j0]
    by_cases h1 : p > (b.length : Int)
    · rw [if_pos (decide_eq_true h1), if_pos (.inr h1)]; rfl
    · rw [if_neg (by rw [decide_eq_false h1]; decide), if_neg (show ¬ (p < 0 ∨ p > (b.length : Int)) by omega)]
      by_cases h2 : p = (b.length : Int)
      · rw [if_pos h2, if_pos h2]; rfl
      · have hr := rd_range b hb p (by omega) (by omega)
        rw [if_neg h2, if_neg h2, if_pos (by omega), if_pos (by omega), w64_id (x := rd b p) (by omega) (by omega), w64_id (x := p + 1) (by omega) (by omega), TakeInt_f b hb (by omega) (p + 1) (k + 5) (by omega), TakeText_f b hb (by omega) (p + 1) (k + 5) (by omega)]
        simp only [Option.bind_some]
        by_cases k1 : rd b p = 1
        · rw [if_pos k1, if_pos k1, k1]
          by_cases e : (TI b (p + 1)).2.2 = 0
          · rw [if_pos e, if_pos e]
          · rw [if_neg e, if_neg e]; rfl
        · rw [if_neg k1, if_neg k1]
          by_cases k2 : rd b p = 2
          · rw [if_pos k2, if_pos k2, k2]
            by_cases e : (PT b (p + 1) 200).2.2 = 0
            · rw [if_pos e, if_pos e]
            · rw [if_neg e, if_neg e]; rfl
          · rw [if_neg k2, if_neg k2]
            by_cases k3 : rd b p = 3
            · rw [if_pos k3, if_pos k3, k3]
              by_cases e : p + 1 = (b.length : Int)
              · rw [if_pos e, if_pos e]; rfl
              · rw [if_neg e, if_neg e, if_pos (by omega), if_pos (by omega)]
                by_cases g : rd b (p + 1) > 1
                · rw [if_pos g, if_pos g]; rfl
                · rw [if_neg g, if_neg g, w64_id (x := p + 1 + 1) (by omega) (by omega), show p + 1 + 1 = p + 2 from by omega]
            · rw [if_neg k3, if_neg k3]
              by_cases k4 : rd b p = 4
              · rw [if_pos k4, if_pos k4]
                by_cases e : (TI b (p + 1)).2.2 = 0
                · rw [if_pos e]
                  by_cases g1 : (TI b (p + 1)).1 > 1048576
                  · rw [if_pos g1, SD_bad e (.inr g1), value_Take.j1, if_pos rfl, J2e _ _ _ _ _ (by decide)]; rfl
                  · rw [if_neg g1]
                    by_cases g2 : (TI b (p + 1)).1 < -1048576
                    · rw [SD_bad e (.inl g2), value_Take.j1, if_pos (decide_eq_true g2), J2e _ _ _ _ _ (by decide)]; rfl
                    · rw [SD_ok e (by omega), value_Take.j1, if_neg (by rw [decide_eq_false g2]; decide), e, J2 (k + 1) b hb hl _ _ (by omega), if_pos rfl]
                · rw [if_neg e, SD_err e, value_Take.j1, if_neg (by decide), J2e _ _ _ _ _ e, if_neg e]
              · rw [if_neg k4, if_neg k4]; rfl
theorem VT_cx (b : List Int) (p : Int) : FloatKind.f64.format.order (VT b p).2.2.2.2.1.re (VT b p).2.2.2.2.1.re = some .eq ∧ FloatKind.f64.format.order (VT b p).2.2.2.2.1.im (VT b p).2.2.2.2.1.im = some .eq := by
  have z : FloatKind.f64.format.order 0 0 = some .eq := by decide +kernel
  unfold VT
  repeat' split
  all_goals first | exact ⟨z, z⟩ | exact ⟨float_self _, float_self _⟩
end Go.Proofs.Ytmgljgmieomngaa.Oct
namespace Go.Proofs.Ytmgljgmieomngaa.Oct
open Go Go.RowKit Go.Proofs.YtmgljgmieomngaaW.PrintWords
set_option linter.unusedVariables false
theorem cut_even_one (neg : Bool) (n : Nat) : Ieee.Toward.even.cut neg n 0 = n := by
  unfold Ieee.Toward.cut
  simp [Nat.mod_one]
theorem cut_zero_pow (neg : Bool) (m d : Nat) : Ieee.Toward.zero.cut neg (m * 2 ^ d) d = m := by
  unfold Ieee.Toward.cut
  simp only [Bool.toNat_false, Nat.add_zero, Nat.shiftLeft_eq, Nat.one_mul]
  by_cases hm : m = 0
  · subst hm; simp
  · have h : d ≤ (m * 2 ^ d).log2 := by
      rw [Nat.le_log2 (Nat.mul_ne_zero hm (Nat.pos_iff_ne_zero.mp (Nat.pow_pos (by decide))))]
      exact Nat.le_mul_of_pos_left _ (by omega)
    rw [Nat.min_eq_left (by omega)]
    exact Nat.mul_div_cancel _ (Nat.pow_pos (by decide))
/-- what a whole number's float stands for -/
theorem read_float (n : Int) (h0 : -1048576 ≤ n) (h1 : n ≤ 1048576) :
    ∃ d : Nat, FloatKind.f64.format.read (floatOfInt .f64 n) = .number (decide (n < 0)) (n.natAbs * 2 ^ d) (-(d : Int)) := by
  unfold floatOfInt FloatKind.nearest FloatKind.encode Ieee.Format.write
  simp only
  by_cases hz : n = 0
  · subst hz
    exact ⟨1074, by decide +kernel⟩
  · have hm : n.natAbs ≠ 0 := by omega
    have hm2 : n.natAbs ≤ 1048576 := by omega
    generalize n.natAbs = m at hm hm2
    generalize decide (n < 0) = neg
    have hL : m.log2 ≤ 20 := by
      have : ¬ 21 ≤ m.log2 := by rw [Nat.le_log2 hm]; omega
      omega
    have hlo : 2 ^ m.log2 ≤ m := by have := (Nat.le_log2 hm (k := m.log2)).1 (Nat.le_refl _); exact this
    have hhi : m < 2 ^ (m.log2 + 1) := Nat.lt_log2_self
    refine ⟨52 - m.log2, ?_⟩
    unfold Ieee.Format.nearest
    rw [if_neg hm]
    generalize m.log2 = L at *
    have hfb : FloatKind.f64.format.fractionBits = 52 := rfl
    simp only [fmt_lp, hfb]
    rw [show max ((0 : Int) + (L : Int) - ((52 : Nat) : Int)) (-1074) = (L : Int) - 52 by omega]
    rw [show ((0 : Int) - ((L : Int) - 52)).toNat = 52 - L by omega, show ((L : Int) - 52 - 0).toNat = 0 by omega, cut_even_one, Nat.shiftLeft_eq]
    rw [show ((L : Int) - 52 - -1074).toNat = L + 1022 by omega, fmt_bin, fmt_inf]
    have k1 : 2 ^ L * 2 ^ (52 - L) = 4503599627370496 := by rw [← Nat.pow_add, show L + (52 - L) = 52 by omega]
    have k2 : 2 ^ (L + 1) * 2 ^ (52 - L) = 9007199254740992 := by rw [← Nat.pow_add, show L + 1 + (52 - L) = 53 by omega]
    have hlo' : 4503599627370496 ≤ m * 2 ^ (52 - L) := by rw [← k1]; exact Nat.mul_le_mul_right _ hlo
    have hhi' : m * 2 ^ (52 - L) < 9007199254740992 := by rw [← k2]; exact Nat.mul_lt_mul_of_pos_right hhi (Nat.pow_pos (by decide))
    generalize m * 2 ^ (52 - L) = K at *
    rw [Nat.min_eq_left (by omega)]
    unfold Ieee.Format.read Ieee.Format.word
    rw [fmt_sw, fmt_bin, fmt_inf, fmt_lp]
    have hr : (L + 1022) * 4503599627370496 + K < 9218868437227405312 := by omega
    obtain ⟨R, hR⟩ : ∃ R, R = (L + 1022) * 4503599627370496 + K := ⟨_, rfl⟩
    rw [← hR] at hr ⊢
    have e : (if neg = true then 9223372036854775808 + R else R) % 9223372036854775808 = R := by split <;> omega
    have e2 : ((if neg = true then 9223372036854775808 + R else R) / 9223372036854775808 % 2 == 1) = neg := by
      cases neg
      · simp; omega
      · simp; omega
    simp only [e, e2]
    rw [if_neg (by omega), if_pos hr]
    congr 1
    · omega
    · omega
theorem signed_pow (n : Int) (d e : Nat) : Ieee.signed (decide (n < 0)) (n.natAbs * 2 ^ d) e = n * 2 ^ (d + e) := by
  unfold Ieee.signed
  rw [Nat.shiftLeft_eq, Nat.mul_assoc, ← Nat.pow_add]
  have : ((n.natAbs * 2 ^ (d + e) : Nat) : Int) = (n.natAbs : Int) * 2 ^ (d + e) := by simp
  rw [this]
  by_cases h : n < 0
  · rw [if_pos (by simp [h]), show (n.natAbs : Int) = -n by omega, Int.neg_mul, Int.neg_neg]
  · rw [if_neg (by simp [h]), show (n.natAbs : Int) = n by omega]
theorem compare_scale (a b c : Int) (hc : 0 < c) : compare (a * c) (b * c) = compare a b := by
  have h1 : a * c < b * c ↔ a < b := Int.mul_lt_mul_right hc
  have h2 : a * c = b * c ↔ a = b := ⟨fun h => Int.eq_of_mul_eq_mul_right (by omega) h, fun h => by rw [h]⟩
  simp only [compare, compareOfLessAndEq, h1, h2]
theorem order_float (a b : Int) (ha0 : -1048576 ≤ a) (ha1 : a ≤ 1048576) (hb0 : -1048576 ≤ b) (hb1 : b ≤ 1048576) :
    FloatKind.f64.format.order (floatOfInt .f64 a) (floatOfInt .f64 b) = some (compare a b) := by
  obtain ⟨d, hd⟩ := read_float a ha0 ha1
  obtain ⟨e, he⟩ := read_float b hb0 hb1
  unfold Ieee.Format.order
  rw [hd, he]
  unfold Ieee.Datum.order
  simp only
  rw [signed_pow, signed_pow]
  by_cases h : d ≤ e
  · rw [show d + (-(d : Int) - min (-(d : Int)) (-(e : Int))).toNat = e by omega, show e + (-(e : Int) - min (-(d : Int)) (-(e : Int))).toNat = e by omega, compare_scale _ _ _ (Int.pow_pos (by decide))]
  · rw [show d + (-(d : Int) - min (-(d : Int)) (-(e : Int))).toNat = d by omega, show e + (-(e : Int) - min (-(d : Int)) (-(e : Int))).toNat = d by omega, compare_scale _ _ _ (Int.pow_pos (by decide))]
theorem toInt_float (n : Int) (h0 : -1048576 ≤ n) (h1 : n ≤ 1048576) : floatToIntVal .f64 (floatOfInt .f64 n) .i64 = some n := by
  obtain ⟨d, hd⟩ := read_float n h0 h1
  unfold floatToIntVal FloatKind.decode
  rw [hd]
  unfold Ieee.Datum.toInt Ieee.Datum.integral
  simp only [Int.neg_neg, Int.toNat_natCast]
  rw [show (-(d : Int)).toNat = 0 by omega, Nat.shiftLeft_zero, cut_zero_pow]
  have := signed_pow n 0 0
  simp only [Nat.pow_zero, Nat.mul_one, Nat.add_zero, Int.pow_zero, Int.mul_one] at this
  rw [this]
  show (if _ then _ else _) = _
  rw [if_pos]
  simp [IntKind.min, IntKind.max, IntKind.signed, IntKind.bits]
  omega
theorem fok_float (n : Int) (h0 : -1048576 ≤ n) (h1 : n ≤ 1048576) : fok (floatOfInt .f64 n) = true := by unfold fok; rw [toInt_float n h0 h1]; rfl
theorem ftoi_float (n : Int) (h0 : -1048576 ≤ n) (h1 : n ≤ 1048576) : ftoi (floatOfInt .f64 n) = n := by unfold ftoi; rw [toInt_float n h0 h1]; rfl
theorem bits_low : (13920626448202203136 : Nat) = floatOfInt .f64 (-1048576) := by decide +kernel
theorem bits_high : (4697254411347427328 : Nat) = floatOfInt .f64 1048576 := by decide +kernel
theorem compare_eq (n : Int) : compare n n = .eq := by simp [compare, compareOfLessAndEq]
theorem compare_lt_iff (a b : Int) : compare a b = .lt ↔ a < b := by
  simp only [compare, compareOfLessAndEq]
  by_cases h : a < b
  · simp [h]
  · by_cases h2 : a = b <;> simp [h, h2]
theorem compare_gt_iff (a b : Int) : compare a b = .gt ↔ b < a := by
  simp only [compare, compareOfLessAndEq]
  by_cases h : a < b
  · simp [h]; omega
  · by_cases h2 : a = b
    · simp [h2]
    · simp [h, h2]; omega
end Go.Proofs.Ytmgljgmieomngaa.Oct
namespace Go.Proofs.Ytmgljgmieomngaa.Oct
open Go Go.RowKit Go.Proofs.YtmgljgmieomngaaW.PrintWords Go.Proofs.YtmgljgmieomngaaW.PrintMore Go.Proofs.Ytmgljgmieomngaa.Q
set_option linter.unusedVariables false
theorem TU_once (b : List Int) (hb : Bs b) (p : Int) (h : (TU b p).2.2 = 0) : uB 9 (TU b p).1 = (b.take (TU b p).2.1.toNat).drop p.toNat := by
  unfold TU at *
  by_cases h1 : p < 0 ∨ p > (b.length : Int)
  · rw [if_pos h1] at h; simp at h
  · rw [if_neg h1] at h ⊢
    obtain ⟨v, c, e, hr⟩ : ∃ v c e, tk (b.drop p.toNat) 0 0 = (v, c, e) := ⟨_, _, _, rfl⟩
    rw [hr] at h ⊢
    simp only [fin] at h ⊢
    subst h
    obtain ⟨m, rest, e1, e2, e3, _, _, _⟩ := tk_once _ 0 0 v c (hb.drop _) (by omega) hr
    simp only [if_true]
    have e4 : v = m := by rw [e2]; simp
    rw [e4, List.drop_take, e1, show (p + c).toNat - p.toNat = (uB 9 m).length from by rw [e3]; simp; omega]
    simp
theorem TU_cut (n : Int) (h0 : 0 ≤ n) (h1 : n < 18446744073709551616) (a : List Int) (m : Nat) (hm : m < (uB 9 n).length) (q : Int) (hq : q = a.length) : TU (a ++ (uB 9 n).take m) q = (0, 0, 3) := by
  subst hq
  unfold TU
  rw [if_neg (by simp; omega), Int.toNat_natCast, List.drop_left, tk_cut 9 0 _ 0 m (by decide) (by omega) (by rw [pow64]; omega) hm]
  simp [fin]
theorem TU_at (n : Int) (h0 : 0 ≤ n) (h1 : n < 18446744073709551616) (a c : List Int) (q : Int) (hq : q = a.length) : TU (a ++ (uB 9 n ++ c)) q = (n, q + (uB 9 n).length, 0) := by
  subst hq
  unfold TU
  rw [if_neg (by simp; omega), Int.toNat_natCast, List.drop_left, tk_uB 9 0 _ 0 c (by decide) (by omega) (by rw [pow64]; omega) (.inl rfl)]
  simp [fin]
theorem PT_at (l : List Int) (most : Int) (hl : (l.length : Int) ≤ most) (hm : most ≤ 140737488355328) (a c : List Int) (q : Int) (hq : q = a.length) :
    PT (a ++ (uB 9 l.length ++ l ++ c)) q most = (l, q + (uB 9 l.length ++ l).length, 0) := by
  subst hq
  have := PT_back l most hl hm a c
  rwa [List.append_assoc] at this
theorem PT_cut (l : List Int) (most : Int) (hl : (l.length : Int) ≤ most) (hm : most ≤ 140737488355328) (a : List Int) (m : Nat) (hc : m < (uB 9 l.length ++ l).length) (q : Int) (hq : q = a.length) :
    PT (a ++ (uB 9 l.length ++ l).take m) q most = ([], 0, 3) := by
  rw [List.length_append] at hc
  unfold PT
  by_cases h : m < (uB 9 l.length).length
  · rw [List.take_append, show m - (uB 9 (l.length : Int)).length = 0 from by omega, List.take_zero, List.append_nil, TU_cut _ (by omega) (by omega) a m h q hq]
    simp
  · rw [List.take_append, List.take_of_length_le (by omega)]
    rw [TU_at _ (by omega) (by omega) a _ q hq]
    subst hq
    simp only [if_true]
    rw [if_neg (by omega), if_pos (by simp; omega)]
theorem split_at {b : List Int} {p n : Nat} (h : p ≤ n) (h2 : n ≤ b.length) : b = b.take p ++ ((b.take n).drop p ++ b.drop n) := by
  conv => lhs; rw [← List.take_append_drop n b]
  rw [← List.append_assoc]
  congr 1
  conv => lhs; rw [← List.take_append_drop p (b.take n)]
  rw [List.take_take, Nat.min_eq_left h]
theorem TU_word (b : List Int) (hb : Bs b) (p : Int) (h : (TU b p).2.2 = 0) : 0 ≤ p ∧ p ≤ b.length ∧ ∃ c, b = b.take p.toNat ++ (uB 9 (TU b p).1 ++ c) ∧ (TU b p).2.1 = p + (uB 9 (TU b p).1).length := by
  obtain ⟨r1, r2, r3, r4, _, r6⟩ := TU_range b hb p
  obtain ⟨r6, r7⟩ := r6 h
  have o := TU_once b hb p h
  refine ⟨r6, by omega, b.drop (TU b p).2.1.toNat, ?_, ?_⟩
  · rw [o]; exact split_at (by omega) (by omega)
  · rw [o, List.length_drop, List.length_take]; omega
theorem PT_word (b : List Int) (hb : Bs b) (p most : Int) (h : (PT b p most).2.2 = 0) :
    0 ≤ p ∧ p ≤ b.length ∧ ∃ c, b = b.take p.toNat ++ (uB 9 (PT b p most).1.length ++ (PT b p most).1 ++ c) ∧ (PT b p most).2.1 = p + (uB 9 (PT b p most).1.length ++ (PT b p most).1).length ∧ ((PT b p most).1.length : Int) ≤ most := by
  unfold PT at *
  by_cases e : (TU b p).2.2 = 0
  · obtain ⟨r1, r2, r3, r4, _, r6⟩ := TU_range b hb p
    obtain ⟨k0, k1, c, k2, k3⟩ := TU_word b hb p e
    rw [if_pos e] at h ⊢
    by_cases e1 : (TU b p).1 > most
    · rw [if_pos e1] at h; simp at h
    · rw [if_neg e1] at h ⊢
      by_cases e2 : (TU b p).1 > (b.length : Int) - (TU b p).2.1
      · rw [if_pos e2] at h; simp at h
      · rw [if_neg e2] at h ⊢
        refine ⟨k0, k1, b.drop ((TU b p).2.1.toNat + (TU b p).1.toNat), ?_, ?_, ?_⟩
        · have hl : (((b.drop (TU b p).2.1.toNat).take (TU b p).1.toNat).length : Int) = (TU b p).1 := by rw [List.length_take, List.length_drop]; omega
          simp only [hl]
          have hc : c = b.drop (TU b p).2.1.toNat := by
            have := congrArg (List.drop (TU b p).2.1.toNat) k2
            rw [this, ← List.append_assoc, List.drop_append, List.drop_of_length_le (by simp; omega)]
            rw [show (TU b p).2.1.toNat - (b.take p.toNat ++ uB 9 (TU b p).1).length = 0 by simp; omega]
            rfl
          rw [List.append_assoc, ← List.drop_drop, List.take_append_drop, ← hc]
          exact k2
        · have hl : ((b.drop (TU b p).2.1.toNat).take (TU b p).1.toNat).length = (TU b p).1.toNat := by rw [List.length_take, List.length_drop]; omega
          simp only [hl, List.length_append]
          rw [show (((TU b p).1.toNat : Nat) : Int) = (TU b p).1 by omega]
          omega
        · rw [List.length_take, List.length_drop]; omega
  · rw [if_neg e] at h; exact absurd h e
theorem rd_at (a : List Int) (x : Int) (t : List Int) (q : Int) (hq : q = a.length) : rd (a ++ (x :: t)) q = x := by
  subst hq
  unfold rd
  rw [Int.toNat_natCast]
  simp [List.getD_eq_getElem?_getD]
theorem cons_at {b : List Int} {p : Int} (h0 : 0 ≤ p) (h1 : p < b.length) : b = b.take p.toNat ++ (rd b p :: b.drop (p + 1).toNat) := by
  have h : p.toNat < b.length := by omega
  conv => lhs; rw [← List.take_append_drop p.toNat b]
  congr 1
  rw [List.drop_eq_getElem_cons h, show (p + 1).toNat = p.toNat + 1 by omega]
  congr 1
  unfold rd
  simp [List.getD_eq_getElem?_getD, h]
theorem take_succ_at {b : List Int} {p : Int} (h0 : 0 ≤ p) (h1 : p < b.length) : b.take (p + 1).toNat = b.take p.toNat ++ [rd b p] := by
  have h : p.toNat < b.length := by omega
  rw [show (p + 1).toNat = p.toNat + 1 by omega, List.take_add_one, List.getElem?_eq_getElem h]
  congr 1
  simp [rd, List.getD_eq_getElem?_getD, h]
/-- a right value without idle fields, and its bytes -/
inductive VC : Int → Int → ByteArray → Bool → Cx → List Int → Prop
  | whole (n : Int) (h0 : -9223372036854775808 ≤ n) (h1 : n ≤ 9223372036854775807) : VC 1 n (⟨#[]⟩ : ByteArray) false ⟨0, 0⟩ (1 :: uB 9 (fold n))
  | words (s : ByteArray) (l : List Int) (hl : l = bytesOf s) (h : (l.length : Int) ≤ 200) : VC 2 0 s false ⟨0, 0⟩ (2 :: (uB 9 l.length ++ l))
  | truth (x : Int) (t : Bool) (h : x = if t = true then 1 else 0) : VC 3 0 (⟨#[]⟩ : ByteArray) t ⟨0, 0⟩ [3, x]
  | point (x y : Int) (h0 : -1048576 ≤ x) (h1 : x ≤ 1048576) (h2 : -1048576 ≤ y) (h3 : y ≤ 1048576) : VC 4 0 (⟨#[]⟩ : ByteArray) false ⟨floatOfInt .f64 x, floatOfInt .f64 y⟩ (4 :: (uB 9 (fold x) ++ uB 9 (fold y)))
theorem bytes_str (l : List Int) (h : Bs l) : bytesOf (strOfNums l) = l := by
  unfold bytesOf strOfNums
  simp only [List.map_map]
  conv => rhs; rw [← List.map_id l]
  apply List.map_congr_left
  intro x hx
  have := h x hx
  simp
  omega
theorem PT_bs (b : List Int) (hb : Bs b) (p most : Int) : Bs (PT b p most).1 := by
  unfold PT
  split
  · split
    · exact Bs.nil
    · split
      · exact Bs.nil
      · exact (hb.drop _).take _
  · exact Bs.nil
theorem TI_word (b : List Int) (hb : Bs b) (p : Int) (h : (TI b p).2.2 = 0) :
    0 ≤ p ∧ p ≤ b.length ∧ -9223372036854775808 ≤ (TI b p).1 ∧ (TI b p).1 ≤ 9223372036854775807 ∧ ∃ c, b = b.take p.toNat ++ (uB 9 (fold (TI b p).1) ++ c) ∧ (TI b p).2.1 = p + (uB 9 (fold (TI b p).1)).length := by
  obtain ⟨r1, r2, _⟩ := TU_range b hb p
  obtain ⟨k0, k1, c, k2, k3⟩ := TU_word b hb p h
  have hu := unfold_range r1 r2
  refine ⟨k0, k1, hu.1, hu.2, c, ?_, ?_⟩
  · show b = b.take p.toNat ++ (uB 9 (fold (unfold' (TU b p).1)) ++ c)
    rw [fold_unfold _ r1]; exact k2
  · show (TU b p).2.1 = p + (uB 9 (fold (unfold' (TU b p).1))).length
    rw [fold_unfold _ r1]; exact k3
theorem TI_at (n : Int) (h0 : -9223372036854775808 ≤ n) (h1 : n ≤ 9223372036854775807) (a c : List Int) (q : Int) (hq : q = a.length) : TI (a ++ (uB 9 (fold n) ++ c)) q = (n, q + (uB 9 (fold n)).length, 0) := by
  have hf := fold_range h0 h1
  unfold TI
  rw [TU_at _ hf.1 hf.2 a c q hq, unfold_fold]
theorem TI_cut (n : Int) (h0 : -9223372036854775808 ≤ n) (h1 : n ≤ 9223372036854775807) (a : List Int) (m : Nat) (hm : m < (uB 9 (fold n)).length) (q : Int) (hq : q = a.length) : TI (a ++ (uB 9 (fold n)).take m) q = (0, 0, 3) := by
  have hf := fold_range h0 h1
  unfold TI
  rw [TU_cut _ hf.1 hf.2 a m hm q hq]
  rfl
theorem SD_word (b : List Int) (hb : Bs b) (p : Int) (h : (SD b p).2.2 = 0) :
    0 ≤ p ∧ p ≤ b.length ∧ -1048576 ≤ (SD b p).1 ∧ (SD b p).1 ≤ 1048576 ∧ ∃ c, b = b.take p.toNat ++ (uB 9 (fold (SD b p).1) ++ c) ∧ (SD b p).2.1 = p + (uB 9 (fold (SD b p).1)).length := by
  by_cases e : (TI b p).2.2 = 0
  · by_cases g : (TI b p).1 < -1048576 ∨ (TI b p).1 > 1048576
    · rw [SD_bad e g] at h; simp at h
    · rw [SD_ok e g]
      obtain ⟨k0, k1, _, _, c, k2⟩ := TI_word b hb p e
      exact ⟨k0, k1, by omega, by omega, c, k2⟩
  · rw [SD_err e] at h; exact absurd h e
theorem SD_at (n : Int) (h0 : -1048576 ≤ n) (h1 : n ≤ 1048576) (a c : List Int) (q : Int) (hq : q = a.length) : SD (a ++ (uB 9 (fold n) ++ c)) q = (n, q + (uB 9 (fold n)).length, 0) := by
  have := TI_at n (by omega) (by omega) a c q hq
  rw [SD_ok (by rw [this]) (by rw [this]; simp; omega), this]
theorem SD_cut (n : Int) (h0 : -1048576 ≤ n) (h1 : n ≤ 1048576) (a : List Int) (m : Nat) (hm : m < (uB 9 (fold n)).length) (q : Int) (hq : q = a.length) : SD (a ++ (uB 9 (fold n)).take m) q = (0, 0, 3) := by
  have := TI_cut n (by omega) (by omega) a m hm q hq
  rw [SD_err (by rw [this]; decide), this]
theorem next_at {b : List Int} {p : Nat} {w c : List Int} (h : b = b.take p ++ (w ++ c)) (hp : p ≤ b.length) : b.take (p + w.length) = b.take p ++ w := by
  have e : (b.take p ++ w).length = p + w.length := by simp; omega
  conv => lhs; rw [h, ← List.append_assoc, ← e, List.take_left]
theorem VT_ne {b : List Int} {p : Int} (h : (VT b p).2.2.2.2.2.2 = 0) : 0 ≤ p ∧ p < b.length := by
  unfold VT at h
  by_cases h0 : p < 0 ∨ p > (b.length : Int)
  · rw [if_pos h0] at h; exact absurd h (by decide)
  · rw [if_neg h0] at h
    by_cases h1 : p = (b.length : Int)
    · rw [if_pos h1] at h; exact absurd h (by decide)
    · omega
theorem Z7_err {e : Int} (h : (Z7 e).2.2.2.2.2.2 = 0) : e = 0 := h
/-- a value that is taken, its bytes, and what stands around them -/
theorem VT_word (b : List Int) (hb : Bs b) (p : Int) (h : (VT b p).2.2.2.2.2.2 = 0) :
    0 ≤ p ∧ p ≤ b.length ∧ ∃ w c, VC (VT b p).1 (VT b p).2.1 (VT b p).2.2.1 (VT b p).2.2.2.1 (VT b p).2.2.2.2.1 w ∧ b = b.take p.toNat ++ (w ++ c) ∧ (VT b p).2.2.2.2.2.1 = p + w.length := by
  obtain ⟨p0, p1⟩ := VT_ne h
  refine ⟨p0, by omega, ?_⟩
  have hc := cons_at p0 p1
  have ht := take_succ_at p0 p1
  unfold VT at h ⊢
  have n0 : ¬ (p < 0 ∨ p > (b.length : Int)) := by omega
  have n1 : ¬ p = (b.length : Int) := by omega
  rw [if_neg n0, if_neg n1] at h ⊢
  by_cases k1 : rd b p = 1
  · rw [if_pos k1] at h ⊢
    by_cases e : (TI b (p + 1)).2.2 = 0
    · rw [if_pos e] at h ⊢
      obtain ⟨_, _, g0, g1, c, g2, g3⟩ := TI_word b hb _ e
      refine ⟨_, c, VC.whole _ g0 g1, ?_, ?_⟩
      · rw [ht, k1] at g2
        conv => lhs; rw [g2]
        simp
      · simp only [List.length_cons]; rw [g3]; omega
    · rw [if_neg e] at h; exact absurd (Z7_err h) e
  · rw [if_neg k1] at h ⊢
    by_cases k2 : rd b p = 2
    · rw [if_pos k2] at h ⊢
      by_cases e : (PT b (p + 1) 200).2.2 = 0
      · rw [if_pos e] at h ⊢
        obtain ⟨_, _, c, g2, g3, g4⟩ := PT_word b hb _ _ e
        refine ⟨_, c, VC.words _ _ (bytes_str _ (PT_bs b hb _ _)).symm g4, ?_, ?_⟩
        · rw [ht, k2] at g2
          conv => lhs; rw [g2]
          simp
        · simp only [List.length_cons]; rw [g3]; omega
      · rw [if_neg e] at h; exact absurd (Z7_err h) e
    · rw [if_neg k2] at h ⊢
      by_cases k3 : rd b p = 3
      · rw [if_pos k3] at h ⊢
        by_cases e : p + 1 = (b.length : Int)
        · rw [if_pos e] at h; exact absurd h (by decide)
        · rw [if_neg e] at h ⊢
          by_cases g : rd b (p + 1) > 1
          · rw [if_pos g] at h; exact absurd h (by decide)
          · rw [if_neg g] at h ⊢
            have hc2 := cons_at (b := b) (p := p + 1) (by omega) (by omega)
            have hr := rd_range b hb (p + 1) (by omega) (by omega)
            refine ⟨_, b.drop (p + 1 + 1).toNat, VC.truth (rd b (p + 1)) _ ?_, ?_, ?_⟩
            · by_cases q : rd b (p + 1) = 1
              · simp [q]
              · simp [q]; omega
            · rw [ht, k3] at hc2
              conv => lhs; rw [hc2]
              simp
            · show p + 2 = p + (([3, rd b (p + 1)] : List Int).length : Int)
              simp
      · rw [if_neg k3] at h ⊢
        by_cases k4 : rd b p = 4
        · rw [if_pos k4] at h ⊢
          by_cases e : (SD b (p + 1)).2.2 = 0
          · rw [if_pos e] at h ⊢
            by_cases e2 : (SD b (SD b (p + 1)).2.1).2.2 = 0
            · rw [if_pos e2] at h ⊢
              obtain ⟨_, q1, g0, g1, c, g2, g3⟩ := SD_word b hb _ e
              obtain ⟨_, q2, g0', g1', c', g2', g3'⟩ := SD_word b hb _ e2
              refine ⟨_, c', VC.point _ _ g0 g1 g0' g1', ?_, ?_⟩
              · have hn : (SD b (p + 1)).2.1.toNat = (p + 1).toNat + (uB 9 (fold (SD b (p + 1)).1)).length := by omega
                have hh : b.take (SD b (p + 1)).2.1.toNat = b.take (p + 1).toNat ++ uB 9 (fold (SD b (p + 1)).1) := by
                  rw [hn]; exact next_at g2 (by omega)
                rw [hh, ht, k4] at g2'
                conv => lhs; rw [g2']
                simp
              · simp only [List.length_cons, List.length_append]; rw [g3', g3]; omega
            · rw [if_neg e2] at h; exact absurd (Z7_err h) e2
          · rw [if_neg e] at h; exact absurd (Z7_err h) e
        · rw [if_neg k4] at h; exact absurd h (by decide)
theorem VC.at {k n : Int} {s : ByteArray} {t : Bool} {c : Cx} {w : List Int} (h : VC k n s t c w) (a r : List Int) (q : Int) (hq : q = a.length) :
    VT (a ++ (w ++ r)) q = (k, n, s, t, c, q + w.length, 0) := by
  have hne : ∃ x u, w = x :: u := by cases h <;> exact ⟨_, _, rfl⟩
  obtain ⟨x, u, rfl⟩ := hne
  have n0 : ¬ (q < 0 ∨ q > ((a ++ (x :: u ++ r)).length : Int)) := by simp; omega
  have n1 : ¬ q = ((a ++ (x :: u ++ r)).length : Int) := by simp; omega
  have hr : rd (a ++ (x :: u ++ r)) q = x := by rw [List.cons_append]; exact rd_at a x _ q hq
  have hs : a ++ (x :: u ++ r) = (a ++ [x]) ++ (u ++ r) := by simp
  have hq1 : q + 1 = ((a ++ [x]).length : Int) := by simp; omega
  unfold VT
  rw [if_neg n0, if_neg n1, hr]
  cases h with
  | whole _ h0 h1 =>
    rw [if_pos rfl, hs, TI_at n h0 h1 _ r _ hq1, if_pos rfl]
    simp
    omega
  | words _ l hl h =>
    rw [if_neg (by decide), if_pos rfl, hs, PT_at l 200 h (by decide) _ r _ hq1, if_pos rfl]
    subst hl
    rw [str_bytes]
    simp
    omega
  | truth x t hx =>
    rw [if_neg (by decide), if_neg (by decide), if_pos rfl, if_neg (by simp; omega), hs, List.cons_append, rd_at (a ++ [3]) x _ _ hq1]
    have : ¬ x > 1 := by subst hx; split <;> omega
    rw [if_neg this]
    subst hx
    cases t <;> simp
  | point x y h0 h1 h2 h3 =>
    rw [if_neg (by decide), if_neg (by decide), if_neg (by decide), if_pos rfl, hs, List.append_assoc (uB 9 (fold x)), SD_at x h0 h1 _ _ _ hq1, if_pos rfl]
    simp only
    rw [show a ++ [4] ++ (uB 9 (fold x) ++ (uB 9 (fold y) ++ r)) = (a ++ [4] ++ uB 9 (fold x)) ++ (uB 9 (fold y) ++ r) by simp]
    rw [SD_at y h2 h3 _ r _ (by simp; omega), if_pos rfl]
    simp
    omega
theorem VC.cut {k n : Int} {s : ByteArray} {t : Bool} {c : Cx} {w : List Int} (h : VC k n s t c w) (a : List Int) (m : Nat) (hm : m < w.length) (q : Int) (hq : q = a.length) :
    VT (a ++ w.take m) q = Z7 3 := by
  have hne : ∃ x u, w = x :: u := by cases h <;> exact ⟨_, _, rfl⟩
  obtain ⟨x, u, rfl⟩ := hne
  by_cases hm0 : m = 0
  · subst hm0
    unfold VT
    rw [if_neg (by simp; omega), if_pos (by simp; omega)]
  obtain ⟨m, rfl⟩ : ∃ j, m = j + 1 := ⟨m - 1, by omega⟩
  rw [List.take_succ_cons]
  have n0 : ¬ (q < 0 ∨ q > ((a ++ (x :: u.take m)).length : Int)) := by simp; omega
  have n1 : ¬ q = ((a ++ (x :: u.take m)).length : Int) := by simp; omega
  have hr : rd (a ++ (x :: u.take m)) q = x := rd_at a x _ q hq
  have hs : a ++ (x :: u.take m) = (a ++ [x]) ++ u.take m := by simp
  have hq1 : q + 1 = ((a ++ [x]).length : Int) := by simp; omega
  have hm' : m < u.length := by simpa using hm
  unfold VT
  rw [if_neg n0, if_neg n1, hr]
  cases h with
  | whole _ h0 h1 => rw [if_pos rfl, hs, TI_cut n h0 h1 _ m hm' _ hq1, if_neg (by decide)]
  | words _ l hl h => rw [if_neg (by decide), if_pos rfl, hs, PT_cut l 200 h (by decide) _ m hm' _ hq1, if_neg (by decide)]
  | truth x t hx =>
    have : m = 0 := by simp at hm'; omega
    subst this
    rw [if_neg (by decide), if_neg (by decide), if_pos rfl, if_pos (by simp; omega)]
  | point x y h0 h1 h2 h3 =>
    rw [if_neg (by decide), if_neg (by decide), if_neg (by decide), if_pos rfl, hs]
    by_cases g : m < (uB 9 (fold x)).length
    · rw [List.take_append, show m - (uB 9 (fold x)).length = 0 by omega, List.take_zero, List.append_nil, SD_cut x h0 h1 _ m g _ hq1, if_neg (by decide)]
    · rw [List.take_append, List.take_of_length_le (by omega), SD_at x h0 h1 _ _ _ hq1, if_pos rfl]
      simp only
      rw [← List.append_assoc, SD_cut y h2 h3 _ _ (by simp at hm'; omega) _ (by simp; omega), if_neg (by decide)]
theorem VC.len {k n : Int} {s : ByteArray} {t : Bool} {c : Cx} {w : List Int} (h : VC k n s t c w) : 1 ≤ w.length ∧ w.length ≤ 300 := by
  cases h with
  | whole _ _ _ => have := uB_len 9 (fold n); simp; omega
  | words _ l _ h => have := uB_len 9 (l.length : Int); simp; omega
  | truth => simp
  | point x y => have := uB_len 9 (fold x); have := uB_len 9 (fold y); simp; omega
theorem VC.bs {k n : Int} {s : ByteArray} {t : Bool} {c : Cx} {w : List Int} (h : VC k n s t c w) : Bs w := by
  have hB : ∀ n : Int, -9223372036854775808 ≤ n → n ≤ 9223372036854775807 → Bs (uB 9 (fold n)) := fun n h0 h1 => by
    have hf := fold_range h0 h1
    exact uB_bytes 9 _ (by omega) (by rw [pow128]; omega)
  cases h with
  | whole _ h0 h1 => exact (hB n h0 h1).cons (by omega)
  | words _ l hl h => exact Bs.cons (by omega) ((uB_bytes 9 _ (by omega) (by rw [pow128]; omega)).append (by rw [hl]; exact bytesOf_bs s))
  | truth x t hx => exact Bs.cons (by omega) (Bs.cons (by subst hx; split <;> omega) Bs.nil)
  | point x y h0 h1 h2 h3 => exact Bs.cons (by omega) ((hB x (by omega) (by omega)).append (hB y (by omega) (by omega)))
theorem part_float (n : Int) (h0 : -1048576 ≤ n) (h1 : n ≤ 1048576) : value_part.f (floatOfInt .f64 n) = some (n, true) := by
  unfold value_part.f
  rw [bits_low, bits_high, order_float n _ h0 h1 (by decide) (by decide), order_float n _ h0 h1 (by decide) (by decide), order_float n n h0 h1 h0 h1, fok_float n h0 h1, ftoi_float n h0 h1, order_float n n h0 h1 h0 h1, compare_eq]
  have c1 : ¬ ((some (compare n (-1048576)) == some Ordering.lt) = true) := by
    intro h
    have h := eq_of_beq h
    have := (compare_lt_iff n (-1048576)).1 (Option.some.inj h)
    omega
  have c2 : ¬ ((some (compare n 1048576) == some Ordering.gt) = true) := by
    intro h
    have h := eq_of_beq h
    have := (compare_gt_iff n 1048576).1 (Option.some.inj h)
    omega
  rw [if_neg c1, if_neg c2]
  simp
theorem VC.check {k' n : Int} {s : ByteArray} {t : Bool} {c : Cx} {w : List Int} (h : VC k' n s t c w) (k : Nat) (hk : 1 ≤ k) : value_Check.f k k' n s t c = some 0 := by
  obtain ⟨k, rfl⟩ : ∃ m, k = m + 1 := ⟨k - 1, by omega⟩
  unfold value_Check.f
  cases h with
  | whole => simp [value_Check.j0]
  | words _ l hl h =>
    have : s.size = l.length := by rw [hl, bytesOf_length]
    simp [value_Check.j0]
    omega
  | truth => simp [value_Check.j0]
  | point x y h0 h1 h2 h3 =>
    simp only [value_Check.j0, value_parts.f, part_float x h0 h1, part_float y h2 h3]
    simp
/-- a right value's bytes are put -/
theorem VC.put {k' n : Int} {s : ByteArray} {t : Bool} {c : Cx} {w : List Int} (h : VC k' n s t c w) (k : Nat) (hk : 50 ≤ k) : value_Put.f k k' n s t c = some (w, 0) := by
  unfold value_Put.f
  rw [h.check k (by omega)]
  simp only [Option.bind_some, if_true]
  cases h with
  | whole _ h0 h1 =>
    have := uB_len 9 (fold n)
    rw [if_pos rfl, Int_f n k h0 h1 (by omega)]
    simp only [Option.bind_some]
    rw [if_pos (by simp; omega)]
    rfl
  | words _ l hl h =>
    have hs : s.size = l.length := by rw [hl, bytesOf_length]
    have := uB_len 9 (l.length : Int)
    have e : TX s = (uB 9 l.length ++ l, 0) := by unfold TX; rw [if_neg (by omega), ← hl, hs]
    rw [if_neg (by decide), if_pos rfl, Text_f s k (by omega), e]
    simp only [Option.bind_some]
    rw [if_pos (by simp; omega)]
    rfl
  | truth x t hx =>
    subst hx
    rw [if_neg (by decide), if_neg (by decide), if_pos rfl]
    unfold value_bit.f
    cases t <;> simp
  | point x y h0 h1 h2 h3 =>
    have := uB_len 9 (fold x)
    have := uB_len 9 (fold y)
    rw [if_neg (by decide), if_neg (by decide), if_neg (by decide)]
    unfold value_parts.f
    simp only [part_float x h0 h1, part_float y h2 h3, Option.bind_some, if_true]
    rw [Int_f x k (by omega) (by omega) (by omega), Int_f y k (by omega) (by omega) (by omega)]
    simp only [Option.bind_some]
    rw [if_pos (by simp; omega), if_pos (by simp; omega)]
    rfl
end Go.Proofs.Ytmgljgmieomngaa.Oct
namespace Go.Proofs.Ytmgljgmieomngaa.Oct
open Go Go.RowKit Go.Proofs.YtmgljgmieomngaaW.PrintWords Go.Proofs.YtmgljgmieomngaaW.PrintMore Go.Proofs.Ytmgljgmieomngaa.Q
set_option linter.unusedVariables false
/-- a byte that may stand in a name, first or not -/
def okc (i c : Int) : Bool := decide (c ≥ 97 ∧ c ≤ 122) || decide (i > 0 ∧ (c ≥ 48 ∧ c ≤ 57 ∨ c = 45))
def nm (s : ByteArray) : Nat → Int → Bool
  | 0, _ => true
  | d + 1, i => okc i (bt s i) && nm s d (i + 1)
/-- which names are right -/
def NM (s : ByteArray) : Bool := decide (1 ≤ s.size ∧ s.size ≤ 16) && nm s s.size 0
theorem Name_l0 (s : ByteArray) (hs : s.size ≤ 16) : ∀ (d : Nat) (i : Nat) (k : Nat), i + d = s.size → 2 * d < k → event_Name.l0 k s (s.size : Int) (i : Int) = some (nm s d i)
  | 0, i, k, h, hk => by
    obtain ⟨k, rfl⟩ : ∃ m, k = m + 1 := ⟨k - 1, by omega⟩
    rw [event_Name.l0, if_neg (by omega)]
    rfl
  | d + 1, i, k, h, hk => by
    obtain ⟨k, rfl⟩ : ∃ m, k = m + 2 := ⟨k - 2, by omega⟩
    have ih := Name_l0 s hs d (i + 1) k (by omega) (by omega)
    have hw : wrap64 ((i : Int) + 1) = ((i + 1 : Nat) : Int) := by unfold wrap64; omega
    rw [event_Name.l0, if_pos (by omega), if_pos (by omega), if_pos (by omega)]
    have e : event_Name.l0 k s (s.size : Int) (wrap64 ((i : Int) + 1)) = some (nm s d ((i : Int) + 1)) := by
      rw [hw, ih]; simp
    simp only [event_Name.j2, e, nm]
    generalize bt s (i : Int) = c
    generalize nm s d ((i : Int) + 1) = r
    unfold okc
    repeat' split
    all_goals (simp at *; try omega)
    all_goals (intros; first | omega | (exfalso; omega) | skip)
theorem Name_f (s : ByteArray) (k : Nat) (hk : 40 ≤ k) : event_Name.f k s = some (NM s) := by
  obtain ⟨k, rfl⟩ : ∃ m, k = m + 1 := ⟨k - 1, by omega⟩
  unfold event_Name.f NM
  by_cases h0 : (s.size : Int) < 1
  · rw [if_pos h0, event_Name.j0, if_pos rfl, decide_eq_false (by omega)]
    rfl
  · rw [if_neg h0, event_Name.j0]
    by_cases h1 : (s.size : Int) > 16
    · rw [if_pos (decide_eq_true h1), decide_eq_false (by omega)]
      rfl
    · rw [if_neg (by simpa using h1), decide_eq_true (by omega)]
      have := Name_l0 s (by omega) s.size 0 k (by omega) (by omega)
      simpa using this
/-- what is wrong with a name behind another one -/
def NE (a s : ByteArray) : Int := if NM s = true then (if Op.bytesLess a.toList s.toList = true then 0 else 4) else 11
theorem name_f (a s : ByteArray) (k : Nat) (hk : 40 ≤ k) : event_name.f k a s = some (NE a s) := by
  unfold event_name.f NE
  rw [Name_f s k hk]
  simp only [Option.bind_some]
  repeat' split
  all_goals rfl
theorem NM_ne {s : ByteArray} (h : NM s = true) : s.toList ≠ [] := by
  intro e
  unfold NM at h
  have h1 := (Bool.and_eq_true _ _ ▸ h).1
  have h2 := of_decide_eq_true h1
  have h3 : s.toList.length = s.size := by rw [ByteArray.toList_eq, Array.length_toList]; rfl
  rw [e] at h3
  simp at h3
  omega
theorem nil_toList : (⟨#[]⟩ : ByteArray).toList = [] := by rw [ByteArray.toList_eq]
theorem less_nil {l : List UInt8} (h : l ≠ []) : Op.bytesLess [] l = true := by
  cases l with
  | nil => exact absurd rfl h
  | cons x xs => rfl
end Go.Proofs.Ytmgljgmieomngaa.Oct
namespace Go.Proofs.Ytmgljgmieomngaa.Oct
open Go Go.RowKit Go.Proofs.YtmgljgmieomngaaW.PrintWords Go.Proofs.YtmgljgmieomngaaW.PrintMore Go.Proofs.Ytmgljgmieomngaa.Q
set_option linter.unusedVariables false
set_option linter.unusedSimpArgs false
theorem VC.cx {k n : Int} {s : ByteArray} {t : Bool} {c : Cx} {w : List Int} (h : VC k n s t c w) : FloatKind.f64.format.order c.re c.re = some .eq ∧ FloatKind.f64.format.order c.im c.im = some .eq := by
  have z : FloatKind.f64.format.order 0 0 = some .eq := by decide +kernel
  cases h with
  | whole => exact ⟨z, z⟩
  | words => exact ⟨z, z⟩
  | truth => exact ⟨z, z⟩
  | point x y => exact ⟨float_self x, float_self y⟩

/-- may a comparison stand with a value of that kind -/
def KD (c kd : Int) : Bool := if c = 5 ∨ c = 6 ∨ c = 7 ∨ c = 8 then kd == 1 || kd == 2 else if c = 9 then kd == 2 else if c = 10 then kd == 4 else true
theorem one_two (kd : Int) : (if kd = 1 then some true else some (kd == 2)) = some (kd == 1 || kd == 2) := by
  by_cases h : kd = 1
  · subst h; rfl
  · rw [if_neg h]; have : (kd == 1) = false := by simpa using h
    rw [this]; rfl
theorem bare_f (c : Int) : pred_bare.f c = some (c == 1 || c == 2) := by
  unfold pred_bare.f
  exact one_two c
theorem kind_f (c kd : Int) (k : Nat) (hk : 1 ≤ k) : pred_kind.f k c kd = some (KD c kd) := by
  obtain ⟨k, rfl⟩ : ∃ m, k = m + 1 := ⟨k - 1, by omega⟩
  unfold pred_kind.f
  simp only [pred_kind.j0, one_two]
  by_cases h5 : c = 5
  · subst h5; rfl
  by_cases h6 : c = 6
  · subst h6; rfl
  by_cases h7 : c = 7
  · subst h7; rfl
  by_cases h8 : c = 8
  · subst h8; rfl
  have e8 : ¬ ((c == 8) = true) := by simpa using h8
  rw [if_neg h5, if_neg h6, if_neg h7, if_neg e8]
  unfold KD
  rw [if_neg (by omega : ¬ (c = 5 ∨ c = 6 ∨ c = 7 ∨ c = 8))]
  by_cases h9 : c = 9
  · rw [if_pos h9, if_pos h9]
  · rw [if_neg h9, if_neg h9]
    by_cases h10 : c = 10
    · rw [if_pos h10, if_pos h10]
    · rw [if_neg h10, if_neg h10]
/-- an atom that is right -/
def AT (c : Int) (nm : ByteArray) (kd n : Int) (s : ByteArray) (t : Bool) (x : Cx) (r : Int) : Prop :=
  NM nm = true ∧ 1 ≤ c ∧ c ≤ 10 ∧ (((c = 1 ∨ c = 2) ∧ x = ⟨0, 0⟩) ∨ (2 < c ∧ (∃ w, VC kd n s t x w) ∧ KD c kd = true ∧ (c = 10 → 0 ≤ r ∧ r ≤ 1048576)))
theorem atom_f {c : Int} {nm : ByteArray} {kd n : Int} {s : ByteArray} {t : Bool} {x : Cx} {r : Int} (h : AT c nm kd n s t x r) (k : Nat) (hk : 60 ≤ k) (o : Int) : pred_atom.f k o nm c kd n s t x r = some 0 := by
  obtain ⟨k, rfl⟩ : ∃ m, k = m + 1 := ⟨k - 1, by omega⟩
  obtain ⟨h1, h2, h3, h4⟩ := h
  unfold pred_atom.f
  rw [Name_f nm (k + 1) (by omega)]
  simp only [Option.bind_some, pred_atom.j0, bare_f]
  rw [if_pos h1, if_neg (by omega), if_neg (by simp; omega)]
  rcases h4 with ⟨h4, -⟩ | ⟨h4, ⟨w, hw⟩, h5, h6⟩
  · rw [if_pos (by simpa using h4)]
  · rw [if_neg (by simp; omega), hw.check k (by omega)]
    simp only [Option.bind_some, if_true, kind_f c kd k (by omega)]
    rw [if_pos h5]
    by_cases h10 : c = 10
    · obtain ⟨h7, h8⟩ := h6 h10
      rw [if_pos h10, if_neg (by omega), if_neg (by omega)]
    · rw [if_neg h10]
/-- a term that was taken -/
def OKT (t : S54) : Prop := 1 ≤ t.f0 ∧ t.f0 ≤ 6 ∧ (t.f0 ≠ 3 → t.f3.f4 = ⟨0, 0⟩) ∧ (t.f0 = 3 → AT t.f2 t.f1 t.f3.f0 t.f3.f1 t.f3.f2 t.f3.f3 t.f3.f4 t.f4)
theorem OKT.cx {t : S54} (h : OKT t) : FloatKind.f64.format.order t.f3.f4.re t.f3.f4.re = some .eq ∧ FloatKind.f64.format.order t.f3.f4.im t.f3.f4.im = some .eq := by
  have z : FloatKind.f64.format.order 0 0 = some .eq := by decide +kernel
  by_cases e : t.f0 = 3
  · obtain ⟨_, _, _, h4⟩ := h.2.2.2 e
    rcases h4 with ⟨_, h4⟩ | ⟨_, ⟨w, hw⟩, _⟩
    · rw [h4]; exact ⟨z, z⟩
    · exact hw.cx
  · rw [h.2.2.1 e]; exact ⟨z, z⟩
/-- what is wrong with a row of right terms -/
def CK : List S54 → Int → Int
  | [], n => if n = 1 then 0 else 4
  | t :: ts, n =>
    if t.f0 = 4 then (if n < 1 then 4 else CK ts n)
    else if t.f0 = 5 ∨ t.f0 = 6 then (if n < 2 then 4 else CK ts (n - 1))
    else (if n + 1 > 16 then 6 else CK ts (n + 1))
theorem rdT_drop {xs : List S54} {i : Nat} {t : S54} {ts : List S54} (h : xs.drop i = t :: ts) : rd_T54 xs (i : Int) = t ∧ i < xs.length ∧ xs.drop (i + 1) = ts := by
  have hi : i < xs.length := by
    rcases Nat.lt_or_ge i xs.length with h1 | h1
    · exact h1
    · rw [List.drop_eq_nil_of_le h1] at h; simp at h
  rw [List.drop_eq_getElem_cons hi] at h
  injection h with h1 h2
  refine ⟨?_, hi, h2⟩
  unfold rd_T54
  simp [List.getD_eq_getElem?_getD, hi, h1]
theorem Check_l0 (xs : List S54) (hx : ∀ t ∈ xs, OKT t) (hl : xs.length ≤ 48) : ∀ (rest : List S54) (i k : Nat) (n : Int), xs.drop i = rest → 0 ≤ n → n ≤ 16 → 100 + 3 * rest.length < k →
    pred_Check.l0 k n xs (xs.length : Int) (i : Int) = some (CK rest n)
  | [], i, k, n, h, h0, h1, hk => by
    obtain ⟨k, rfl⟩ : ∃ m, k = m + 1 := ⟨k - 1, by omega⟩
    have hi : xs.length ≤ i := List.drop_eq_nil_iff.1 h
    rw [pred_Check.l0, if_neg (by omega), CK]
    split <;> rfl
  | t :: ts, i, k, n, h, h0, h1, hk => by
    obtain ⟨k, rfl⟩ : ∃ m, k = m + 3 := ⟨k - 3, by simp at hk; omega⟩
    simp only [List.length_cons] at hk
    obtain ⟨e1, e2, e3⟩ := rdT_drop h
    have hw : wrap64 ((i : Int) + 1) = ((i + 1 : Nat) : Int) := by unfold wrap64; omega
    have ih := fun (m : Int) (hm0 : 0 ≤ m) (hm1 : m ≤ 16) => Check_l0 xs hx hl ts (i + 1) k m e3 hm0 hm1 (by omega)
    have hj : ∀ need : Int, 0 ≤ need → need ≤ 2 → pred_Check.j2 (k + 1) n need xs (xs.length : Int) (i : Int) = some (if n < need then 4 else if n + 1 - need > 16 then 6 else CK ts (n + 1 - need)) := by
      intro need g0 g1
      rw [pred_Check.j2, w64_id (x := 1 - need) (by omega) (by omega), w64_id (x := n + (1 - need)) (by omega) (by omega), hw, show n + (1 - need) = n + 1 - need by omega]
      by_cases c1 : n < need
      · rw [if_pos c1, if_pos c1]
      · rw [if_neg c1, if_neg c1]
        by_cases c2 : n + 1 - need > 16
        · rw [if_pos c2, if_pos c2]
        · rw [if_neg c2, if_neg c2]; exact ih _ (by omega) (by omega)
    have hj1 : pred_Check.j2 (k + 1) n 0 xs (xs.length : Int) (i : Int) = some (if n + 1 > 16 then 6 else CK ts (n + 1)) := by
      rw [hj 0 (by omega) (by omega), if_neg (by omega), Int.sub_zero]
    have hj4 : pred_Check.j2 (k + 1) n 1 xs (xs.length : Int) (i : Int) = some (if n < 1 then 4 else CK ts n) := by
      rw [hj 1 (by omega) (by omega), show n + 1 - 1 = n by omega, if_neg (by omega : ¬ (n > 16))]
    have hj5 : pred_Check.j2 (k + 1) n 2 xs (xs.length : Int) (i : Int) = some (if n < 2 then 4 else CK ts (n - 1)) := by
      rw [hj 2 (by omega) (by omega), show n + 1 - 2 = n - 1 by omega, if_neg (by omega : ¬ (n - 1 > 16))]
    have ho := hx t (by have : t ∈ xs.drop i := by rw [h]; exact List.mem_cons_self
                        exact List.mem_of_mem_drop this)
    rw [pred_Check.l0, if_pos (by omega), if_pos (by omega), if_pos (by omega), e1, CK]
    have hc : t.f0 = 1 ∨ t.f0 = 2 ∨ t.f0 = 3 ∨ t.f0 = 4 ∨ t.f0 = 5 ∨ t.f0 = 6 := by have := ho.1; have := ho.2.1; omega
    have hat : t.f0 = 3 → ∀ o, pred_atom.f (k + 1) o t.f1 t.f2 t.f3.f0 t.f3.f1 t.f3.f2 t.f3.f3 t.f3.f4 t.f4 = some 0 := fun e o => atom_f (ho.2.2.2 e) _ (by omega) o
    rcases hc with e | e | e | e | e | e
    · rw [e]; simp only [pred_Check.j1]; simp [hj1, hj4, hj5]
    · rw [e]; simp only [pred_Check.j1]; simp [hj1, hj4, hj5]
    · rw [e]; simp only [pred_Check.j1, hat e]; simp [hj1, hj4, hj5]
    · rw [e]; simp only [pred_Check.j1]; simp [hj1, hj4, hj5]
    · rw [e]; simp only [pred_Check.j1]; simp [hj1, hj4, hj5]
    · rw [e]; simp only [pred_Check.j1]; simp [hj1, hj4, hj5]
end Go.Proofs.Ytmgljgmieomngaa.Oct
namespace Go.Proofs.Ytmgljgmieomngaa.Oct
open Go Go.RowKit Go.Proofs.YtmgljgmieomngaaW.PrintWords Go.Proofs.YtmgljgmieomngaaW.PrintMore Go.Proofs.Ytmgljgmieomngaa.Q
set_option linter.unusedVariables false
set_option linter.unusedSimpArgs false
/-- an atom behind its Op: the error, the term, the place behind it -/
def TK (b : List Int) (p : Int) : Int × S54 × Int :=
  let z : S54 := ⟨3, ⟨#[]⟩, 0, ⟨0, 0, ⟨#[]⟩, false, ⟨0, 0⟩⟩, 0⟩
  let u := PT b p 200
  if u.2.2 = 0 then
    if NM (strOfNums u.1) = true then
      if u.2.1 ≥ (b.length : Int) then (3, z, 0) else
      let c := rd b u.2.1
      if c < 1 ∨ c > 10 then (2, z, 0) else
      if c ≤ 2 then (0, ⟨3, strOfNums u.1, c, ⟨0, 0, ⟨#[]⟩, false, ⟨0, 0⟩⟩, 0⟩, u.2.1 + 1) else
      let v := VT b (u.2.1 + 1)
      if v.2.2.2.2.2.2 = 0 then
        if KD c v.1 = true then
          if c = 10 then
            let n := TU b v.2.2.2.2.2.1
            if n.2.2 = 0 then
              if n.1 > 1048576 then (2, z, 0) else (0, ⟨3, strOfNums u.1, c, ⟨v.1, v.2.1, v.2.2.1, v.2.2.2.1, v.2.2.2.2.1⟩, n.1⟩, n.2.1)
            else (n.2.2, z, 0)
          else (0, ⟨3, strOfNums u.1, c, ⟨v.1, v.2.1, v.2.2.1, v.2.2.2.1, v.2.2.2.2.1⟩, 0⟩, v.2.2.2.2.2.1)
        else (12, z, 0)
      else (v.2.2.2.2.2.2, z, 0)
    else (11, z, 0)
  else (u.2.2, z, 0)
theorem PT_rng (b : List Int) (hb : Bs b) (p most : Int) (h : (PT b p most).2.2 = 0) : 0 ≤ (PT b p most).2.1 ∧ (PT b p most).2.1 ≤ b.length := by
  obtain ⟨p0, p1, c, e, q, _⟩ := PT_word b hb p most h
  have := congrArg List.length e
  simp at this
  rw [q]
  simp
  omega
theorem take_f (b : List Int) (hb : Bs b) (hl : b.length ≤ 140737488355327) (p : Int) (k : Nat) (hk : 100 ≤ k) :
    ∃ o nm c kd n s t z r q, pred_take.f k b p = some (o, nm, c, kd, n, s, t, z, r, q, (TK b p).1) ∧ ((TK b p).1 = 0 → (⟨o, nm, c, ⟨kd, n, s, t, z⟩, r⟩ : S54) = (TK b p).2.1 ∧ q = (TK b p).2.2) := by
  obtain ⟨k, rfl⟩ : ∃ m, k = m + 1 := ⟨k - 1, by omega⟩
  unfold pred_take.f TK
  rw [TakeText_f b hb (by omega) p (k + 1) (by omega)]
  simp only [Option.bind_some]
  have hr := PT_rng b hb p 200
  generalize PT b p 200 = u at *
  by_cases h0 : u.2.2 = 0
  · obtain ⟨q0, q1⟩ := hr h0
    rw [if_pos h0, if_pos h0, Name_f _ (k + 1) (by omega)]
    simp only [Option.bind_some]
    by_cases h1 : NM (strOfNums u.1) = true
    · rw [if_pos h1, if_pos h1]
      by_cases h2 : u.2.1 ≥ (b.length : Int)
      · rw [if_pos h2, if_pos h2]
        exact ⟨_, _, _, _, _, _, _, _, _, _, rfl, fun h => absurd h (by decide)⟩
      · obtain ⟨c0, c1⟩ := rd_range b hb u.2.1 q0 (by omega)
        rw [if_neg h2, if_neg h2, if_pos q0, if_pos (show u.2.1 < (b.length : Int) by omega), w64_id (x := rd b u.2.1) (by omega) (by omega), w64_id (x := u.2.1 + 1) (by omega) (by omega)]
        by_cases h3 : rd b u.2.1 < 1
        · rw [if_pos h3, if_pos (.inl h3), pred_take.j0, if_pos rfl]
          exact ⟨_, _, _, _, _, _, _, _, _, _, rfl, fun h => absurd h (by decide)⟩
        · rw [if_neg h3, pred_take.j0]
          by_cases h4 : rd b u.2.1 > 10
          · rw [if_pos (by simpa using h4), if_pos (.inr h4)]
            exact ⟨_, _, _, _, _, _, _, _, _, _, rfl, fun h => absurd h (by decide)⟩
          · rw [if_neg (by simpa using h4), if_neg (by omega), bare_f]
            simp only [Option.bind_some]
            by_cases h5 : rd b u.2.1 ≤ 2
            · have hc : (rd b u.2.1 == 1 || rd b u.2.1 == 2) = true := by simp; omega
              rw [if_pos hc, if_pos h5]
              exact ⟨_, _, _, _, _, _, _, _, _, _, rfl, fun _ => ⟨rfl, rfl⟩⟩
            · have hc : ¬ ((rd b u.2.1 == 1 || rd b u.2.1 == 2) = true) := by simp; omega
              rw [if_neg hc, if_neg h5, value_Take_f b hb hl (u.2.1 + 1) k (by omega)]
              simp only [Option.bind_some]
              generalize VT b (u.2.1 + 1) = v at *
              by_cases h6 : v.2.2.2.2.2.2 = 0
              · rw [if_pos h6, if_pos h6, kind_f _ v.1 k (by omega)]
                simp only [Option.bind_some]
                by_cases h7 : KD (rd b u.2.1) v.1 = true
                · rw [if_pos h7, if_pos h7]
                  by_cases h8 : rd b u.2.1 = 10
                  · rw [if_pos h8, if_pos h8, TakeUint_f b hb (by omega) _ k (by omega)]
                    simp only [Option.bind_some]
                    obtain ⟨r1, r2, r3, r4, r5, r6⟩ := TU_range b hb v.2.2.2.2.2.1
                    generalize TU b v.2.2.2.2.2.1 = n at *
                    by_cases h9 : n.2.2 = 0
                    · rw [if_pos h9, if_pos h9]
                      by_cases h10 : n.1 > 1048576
                      · rw [if_pos h10, if_pos h10]
                        exact ⟨_, _, _, _, _, _, _, _, _, _, rfl, fun h => absurd h (by decide)⟩
                      · rw [if_neg h10, if_neg h10, w64_id (x := n.1) (by omega) (by omega)]
                        exact ⟨_, _, _, _, _, _, _, _, _, _, rfl, fun _ => ⟨rfl, rfl⟩⟩
                    · rw [if_neg h9, if_neg h9]
                      exact ⟨_, _, _, _, _, _, _, _, _, _, rfl, fun h => absurd h h9⟩
                  · rw [if_neg h8, if_neg h8]
                    exact ⟨_, _, _, _, _, _, _, _, _, _, rfl, fun _ => ⟨rfl, rfl⟩⟩
                · rw [if_neg h7, if_neg h7]
                  exact ⟨_, _, _, _, _, _, _, _, _, _, rfl, fun h => absurd h (by decide)⟩
              · rw [if_neg h6, if_neg h6]
                exact ⟨_, _, _, _, _, _, _, _, _, _, rfl, fun h => absurd h h6⟩
    · rw [if_neg h1, if_neg h1]
      exact ⟨_, _, _, _, _, _, _, _, _, _, rfl, fun h => absurd h (by decide)⟩
  · rw [if_neg h0, if_neg h0]
    exact ⟨_, _, _, _, _, _, _, _, _, _, rfl, fun h => absurd h h0⟩
/-- an atom that was taken, and its bytes behind the Op -/
inductive TA : S54 → List Int → Prop
  | bare (s : ByteArray) (l : List Int) (c : Int) (hl : l = bytesOf s) (h : (l.length : Int) ≤ 200) (hn : NM s = true) (hc : c = 1 ∨ c = 2) :
      TA ⟨3, s, c, ⟨0, 0, ⟨#[]⟩, false, ⟨0, 0⟩⟩, 0⟩ ((uB 9 l.length ++ l) ++ [c])
  | full (s : ByteArray) (l : List Int) (c : Int) (hl : l = bytesOf s) (h : (l.length : Int) ≤ 200) (hn : NM s = true) (hc : 2 < c ∧ c < 10) (kd n : Int) (v : ByteArray) (t : Bool) (z : Cx) (w : List Int) (hv : VC kd n v t z w) (hk : KD c kd = true) :
      TA ⟨3, s, c, ⟨kd, n, v, t, z⟩, 0⟩ ((uB 9 l.length ++ l) ++ (c :: w))
  | near (s : ByteArray) (l : List Int) (hl : l = bytesOf s) (h : (l.length : Int) ≤ 200) (hn : NM s = true) (kd n : Int) (v : ByteArray) (t : Bool) (z : Cx) (w : List Int) (hv : VC kd n v t z w) (hk : KD 10 kd = true) (r : Int) (h0 : 0 ≤ r) (h1 : r ≤ 1048576) :
      TA ⟨3, s, 10, ⟨kd, n, v, t, z⟩, r⟩ ((uB 9 l.length ++ l) ++ (10 :: (w ++ uB 9 r)))
theorem take_len {b : List Int} {p : Int} (h0 : 0 ≤ p) (h1 : p ≤ b.length) : ((b.take p.toNat).length : Int) = p := by rw [List.length_take]; omega
theorem TK_word (b : List Int) (hb : Bs b) (p : Int) (h : (TK b p).1 = 0) : 0 ≤ p ∧ p ≤ b.length ∧ ∃ w c, TA (TK b p).2.1 w ∧ b = b.take p.toNat ++ (w ++ c) ∧ (TK b p).2.2 = p + w.length := by
  unfold TK at h ⊢
  have hr := PT_rng b hb p 200
  have hw := PT_word b hb p 200
  have hs := PT_bs b hb p 200
  generalize PT b p 200 = u at *
  by_cases h0 : u.2.2 = 0
  · obtain ⟨q0, q1⟩ := hr h0
    obtain ⟨p0, p1, c, e, eq, hm⟩ := hw h0
    have hB := (bytes_str u.1 hs).symm
    have hn : b.take u.2.1.toNat = b.take p.toNat ++ (uB 9 u.1.length ++ u.1) := by
      have := next_at e (by omega)
      rw [eq, show (p + ((uB 9 (u.1.length : Int) ++ u.1).length : Int)).toNat = p.toNat + (uB 9 (u.1.length : Int) ++ u.1).length by omega]
      exact this
    refine ⟨p0, p1, ?_⟩
    simp only [h0, if_true] at h ⊢
    by_cases h1 : NM (strOfNums u.1) = true
    · simp only [h1, if_true] at h ⊢
      by_cases h2 : u.2.1 ≥ (b.length : Int)
      · simp only [h2, if_true] at h; exact absurd h (by decide)
      · simp only [h2, if_false] at h ⊢
        have k1 := take_succ_at (b := b) (p := u.2.1) q0 (by omega)
        have k2 := cons_at (b := b) (p := u.2.1) q0 (by omega)
        generalize hcc : rd b u.2.1 = cc at *
        by_cases h3 : cc < 1 ∨ cc > 10
        · simp only [h3, if_true] at h; exact absurd h (by decide)
        · simp only [h3, if_false] at h ⊢
          by_cases h5 : cc ≤ 2
          · simp only [h5, if_true] at h ⊢
            refine ⟨_, b.drop (u.2.1 + 1).toNat, TA.bare _ _ cc hB hm h1 (by omega), ?_, ?_⟩
            · rw [hn] at k2
              conv => lhs; rw [k2]
              simp
            · simp only [List.length_append, List.length_cons, List.length_nil] at eq ⊢; omega
          · simp only [h5, if_false] at h ⊢
            have vw := VT_word b hb (u.2.1 + 1)
            generalize VT b (u.2.1 + 1) = v at *
            by_cases h6 : v.2.2.2.2.2.2 = 0
            · obtain ⟨_, y1, w, c', hv, e', eq'⟩ := vw h6
              simp only [h6, if_true] at h ⊢
              by_cases h7 : KD cc v.1 = true
              · simp only [h7, if_true] at h ⊢
                by_cases h8 : cc = 10
                · simp only [h8, if_true] at h ⊢
                  have tw := TU_word b hb v.2.2.2.2.2.1
                  have tr := TU_range b hb v.2.2.2.2.2.1
                  generalize TU b v.2.2.2.2.2.1 = n at *
                  by_cases h9 : n.2.2 = 0
                  · obtain ⟨z0, z1, c2, e2, eq2⟩ := tw h9
                    simp only [h9, if_true] at h ⊢
                    by_cases h10 : n.1 > 1048576
                    · simp only [h10, if_true] at h; exact absurd h (by decide)
                    · simp only [h10, if_false] at h ⊢
                      rw [h8] at h7
                      refine ⟨_, c2, TA.near _ _ hB hm h1 _ _ _ _ _ w hv h7 n.1 tr.1 (by omega), ?_, ?_⟩
                      · have e3 := next_at e' (by omega)
                        rw [show (u.2.1 + 1).toNat + w.length = v.2.2.2.2.2.1.toNat by omega, k1, hn, h8] at e3
                        rw [e3] at e2
                        conv => lhs; rw [e2]
                        simp
                      · simp only [List.length_append, List.length_cons] at eq eq' eq2 ⊢; omega
                  · simp only [h9, if_false] at h
                · simp only [h8, if_false] at h ⊢
                  refine ⟨_, c', TA.full _ _ cc hB hm h1 (by omega) _ _ _ _ _ w hv h7, ?_, ?_⟩
                  · rw [k1, hn] at e'
                    conv => lhs; rw [e']
                    simp
                  · simp only [List.length_append, List.length_cons] at eq eq' ⊢; omega
              · simp [h7] at h
            · simp only [h6, if_false] at h
    · simp [h1] at h
  · simp only [h0, if_false] at h
theorem NM_str {s : ByteArray} {l : List Int} (hl : l = bytesOf s) : strOfNums l = s := by rw [hl, str_bytes]
theorem TA.at {t : S54} {w : List Int} (h : TA t w) (a c : List Int) (q : Int) (hq : q = a.length) : TK (a ++ (w ++ c)) q = (0, t, q + w.length) := by
  unfold TK
  cases h with
  | bare s l c' hl h hn hc =>
    rw [List.append_assoc, PT_at l 200 h (by decide) a _ q hq]
    simp only [if_true, NM_str hl, hn]
    rw [if_neg (by simp; omega)]
    have e : rd (a ++ (uB 9 (l.length : Int) ++ l ++ ([c'] ++ c))) (q + ((uB 9 (l.length : Int) ++ l).length : Int)) = c' := by
      rw [← List.append_assoc]; exact rd_at _ c' _ _ (by simp; omega)
    simp only [e]
    rw [if_neg (by omega), if_pos (by omega)]
    simp; omega
  | full s l c' hl h hn hc kd n v t z w hv hk =>
    rw [List.append_assoc, PT_at l 200 h (by decide) a _ q hq]
    simp only [if_true, NM_str hl, hn]
    rw [if_neg (by simp; omega)]
    have e : rd (a ++ (uB 9 (l.length : Int) ++ l ++ (c' :: w ++ c))) (q + ((uB 9 (l.length : Int) ++ l).length : Int)) = c' := by
      rw [← List.append_assoc, List.cons_append]; exact rd_at _ c' _ _ (by simp; omega)
    have e2 := hv.at (a ++ (uB 9 (l.length : Int) ++ l) ++ [c']) c (q + ((uB 9 (l.length : Int) ++ l).length : Int) + 1) (by simp; omega)
    rw [show a ++ (uB 9 (l.length : Int) ++ l) ++ [c'] ++ (w ++ c) = a ++ (uB 9 (l.length : Int) ++ l ++ (c' :: w ++ c)) by simp] at e2
    simp only [e, e2]
    rw [if_neg (by omega), if_neg (by omega)]
    simp only [if_true, hk]
    rw [if_neg (by omega)]
    simp; omega
  | near s l hl h hn kd n v t z w hv hk r h0 h1 =>
    rw [List.append_assoc, PT_at l 200 h (by decide) a _ q hq]
    simp only [if_true, NM_str hl, hn]
    rw [if_neg (by simp; omega)]
    have e : rd (a ++ (uB 9 (l.length : Int) ++ l ++ (10 :: (w ++ uB 9 r) ++ c))) (q + ((uB 9 (l.length : Int) ++ l).length : Int)) = 10 := by
      rw [← List.append_assoc, List.cons_append]; exact rd_at _ 10 _ _ (by simp; omega)
    have e2 := hv.at (a ++ (uB 9 (l.length : Int) ++ l) ++ [10]) (uB 9 r ++ c) (q + ((uB 9 (l.length : Int) ++ l).length : Int) + 1) (by simp; omega)
    rw [show a ++ (uB 9 (l.length : Int) ++ l) ++ [10] ++ (w ++ (uB 9 r ++ c)) = a ++ (uB 9 (l.length : Int) ++ l ++ (10 :: (w ++ uB 9 r) ++ c)) by simp] at e2
    have e3 := TU_at r h0 (by omega) (a ++ (uB 9 (l.length : Int) ++ l) ++ [10] ++ w) c (q + ((uB 9 (l.length : Int) ++ l).length : Int) + 1 + w.length) (by simp; omega)
    rw [show a ++ (uB 9 (l.length : Int) ++ l) ++ [10] ++ w ++ (uB 9 r ++ c) = a ++ (uB 9 (l.length : Int) ++ l ++ (10 :: (w ++ uB 9 r) ++ c)) by simp] at e3
    simp only [e, e2, e3]
    rw [if_neg (by omega), if_neg (by omega)]
    simp only [if_true, hk]
    rw [if_neg (by omega)]
    simp; omega
theorem TA.len {t : S54} {w : List Int} (h : TA t w) : 1 ≤ w.length ∧ w.length ≤ 600 := by
  cases h with
  | bare s l c hl h hn hc => have := uB_len 9 (l.length : Int); simp; omega
  | full s l c hl h hn hc kd n v t z w hv hk => have := uB_len 9 (l.length : Int); have := hv.len; simp; omega
  | near s l hl h hn kd n v t z w hv hk r h0 h1 => have := uB_len 9 (l.length : Int); have := uB_len 9 r; have := hv.len; simp; omega
theorem TA.bs {t : S54} {w : List Int} (h : TA t w) : Bs w := by
  have hB : ∀ l : List Int, (l.length : Int) ≤ 200 → Bs (uB 9 (l.length : Int)) := fun l h => uB_bytes 9 _ (by omega) (by rw [pow128]; omega)
  cases h with
  | bare s l c hl h hn hc => exact ((hB l h).append (by rw [hl]; exact bytesOf_bs s)).append (Bs.cons (by omega) Bs.nil)
  | full s l c hl h hn hc kd n v t z w hv hk => exact ((hB l h).append (by rw [hl]; exact bytesOf_bs s)).append (Bs.cons (by omega) hv.bs)
  | near s l hl h hn kd n v t z w hv hk r h0 h1 => exact ((hB l h).append (by rw [hl]; exact bytesOf_bs s)).append (Bs.cons (by omega) (hv.bs.append (uB_bytes 9 _ (by omega) (by rw [pow128]; omega))))
theorem TA.at3 {t : S54} {w : List Int} (h : TA t w) : OKT t := by
  cases h with
  | bare s l c hl h hn hc => exact ⟨by show (1 : Int) ≤ 3; decide, by show (3 : Int) ≤ 6; decide, fun h => absurd rfl h, fun _ => ⟨hn, by show 1 ≤ c; omega, by show c ≤ 10; omega, .inl ⟨hc, rfl⟩⟩⟩
  | full s l c hl h hn hc kd n v t z w hv hk => exact ⟨by show (1 : Int) ≤ 3; decide, by show (3 : Int) ≤ 6; decide, fun h => absurd rfl h, fun _ => ⟨hn, by show 1 ≤ c; omega, by show c ≤ 10; omega, .inr ⟨hc.1, ⟨w, hv⟩, hk, fun h => absurd h (by show c ≠ 10; omega)⟩⟩⟩
  | near s l hl h hn kd n v t z w hv hk r h0 h1 => exact ⟨by show (1 : Int) ≤ 3; decide, by show (3 : Int) ≤ 6; decide, fun h => absurd rfl h, fun _ => ⟨hn, by show (1 : Int) ≤ 10; decide, by show (10 : Int) ≤ 10; decide, .inr ⟨by show (2 : Int) < 10; decide, ⟨w, hv⟩, hk, fun _ => ⟨h0, h1⟩⟩⟩⟩
theorem TA.cut {t : S54} {w : List Int} (h : TA t w) (a : List Int) (m : Nat) (hm : m < w.length) (q : Int) (hq : q = a.length) : (TK (a ++ w.take m) q).1 = 3 := by
  unfold TK
  have hd : ∃ (s : ByteArray) (l : List Int) (c : Int) (x : List Int), l = bytesOf s ∧ (l.length : Int) ≤ 200 ∧ NM s = true ∧ w = (uB 9 l.length ++ l) ++ (c :: x) ∧ 1 ≤ c ∧ c ≤ 10 ∧ ((c ≤ 2 ∧ x = []) ∨
      (2 < c ∧ c < 10 ∧ ∃ kd n v t z, VC kd n v t z x ∧ KD c kd = true) ∨ (c = 10 ∧ ∃ kd n v t z y r, VC kd n v t z y ∧ KD c kd = true ∧ x = y ++ uB 9 r ∧ 0 ≤ r ∧ r ≤ 1048576)) := by
    cases h with
    | bare s l c hl h hn hc => exact ⟨s, l, c, [], hl, h, hn, rfl, by omega, by omega, .inl ⟨by omega, rfl⟩⟩
    | full s l c hl h hn hc kd n v t z w hv hk => exact ⟨s, l, c, w, hl, h, hn, rfl, by omega, by omega, .inr (.inl ⟨hc.1, hc.2, kd, n, v, t, z, hv, hk⟩)⟩
    | near s l hl h hn kd n v t z w hv hk r h0 h1 => exact ⟨s, l, 10, _, hl, h, hn, rfl, by omega, by omega, .inr (.inr ⟨rfl, kd, n, v, t, z, w, r, hv, hk, rfl, h0, h1⟩)⟩
  obtain ⟨s, l, c, x, hl, h, hn, hw, hc1, hc2, hx⟩ := hd
  rw [hw] at hm ⊢
  by_cases h1 : m < (uB 9 (l.length : Int) ++ l).length
  · rw [List.take_append, show m - (uB 9 (l.length : Int) ++ l).length = 0 by omega, List.take_zero, List.append_nil, PT_cut l 200 h (by decide) a m h1 q hq]
    simp
  · rw [List.take_append, List.take_of_length_le (by omega), PT_at l 200 h (by decide) a _ q hq]
    simp only [if_true, NM_str hl, hn]
    have hm2 : m - (uB 9 (l.length : Int) ++ l).length < (c :: x).length := by rw [List.length_append] at hm; omega
    generalize m - (uB 9 (l.length : Int) ++ l).length = m' at *
    cases m' with
    | zero => rw [if_pos (by simp; omega)]
    | succ m' =>
      rw [List.take_succ_cons, if_neg (by simp; omega)]
      have e : rd (a ++ (uB 9 (l.length : Int) ++ l ++ (c :: x.take m'))) (q + ((uB 9 (l.length : Int) ++ l).length : Int)) = c := by
        rw [← List.append_assoc]; exact rd_at _ c _ _ (by simp; omega)
      simp only [e]
      rw [if_neg (by omega)]
      have hm3 : m' < x.length := by simpa using hm2
      rcases hx with ⟨_, hx⟩ | ⟨g1, g2, kd, n, v, t, z, hv, hk⟩ | ⟨g1, kd, n, v, t, z, y, r, hv, hk, hx, r0, r1⟩
      · rw [hx] at hm3; simp at hm3
      · rw [if_neg (by omega)]
        have e2 := hv.cut (a ++ (uB 9 (l.length : Int) ++ l) ++ [c]) m' hm3 (q + ((uB 9 (l.length : Int) ++ l).length : Int) + 1) (by simp; omega)
        rw [show a ++ (uB 9 (l.length : Int) ++ l) ++ [c] ++ x.take m' = a ++ (uB 9 (l.length : Int) ++ l ++ (c :: x.take m')) by simp] at e2
        simp only [e2]
        rfl
      · rw [if_neg (by omega)]
        subst hx
        by_cases h2 : m' < y.length
        · have e2 := hv.cut (a ++ (uB 9 (l.length : Int) ++ l) ++ [c]) m' h2 (q + ((uB 9 (l.length : Int) ++ l).length : Int) + 1) (by simp; omega)
          have e0 : (y ++ uB 9 r).take m' = y.take m' := by rw [List.take_append, show m' - y.length = 0 by omega]; simp
          rw [e0]
          rw [show a ++ (uB 9 (l.length : Int) ++ l) ++ [c] ++ y.take m' = a ++ (uB 9 (l.length : Int) ++ l ++ (c :: y.take m')) by simp] at e2
          simp only [e2]
          rfl
        · have e0 : (y ++ uB 9 r).take m' = y ++ (uB 9 r).take (m' - y.length) := by rw [List.take_append, List.take_of_length_le (by omega)]
          rw [e0]
          have h3 : m' - y.length < (uB 9 r).length := by rw [List.length_append] at hm3; omega
          generalize m' - y.length = m3 at *
          have e2 := hv.at (a ++ (uB 9 (l.length : Int) ++ l) ++ [c]) ((uB 9 r).take m3) (q + ((uB 9 (l.length : Int) ++ l).length : Int) + 1) (by simp; omega)
          rw [show a ++ (uB 9 (l.length : Int) ++ l) ++ [c] ++ (y ++ (uB 9 r).take m3) = a ++ (uB 9 (l.length : Int) ++ l ++ (c :: (y ++ (uB 9 r).take m3))) by simp] at e2
          have e3 := TU_cut r r0 (by omega) (a ++ (uB 9 (l.length : Int) ++ l) ++ [c] ++ y) m3 h3 (q + ((uB 9 (l.length : Int) ++ l).length : Int) + 1 + y.length) (by simp; omega)
          rw [show a ++ (uB 9 (l.length : Int) ++ l) ++ [c] ++ y ++ (uB 9 r).take m3 = a ++ (uB 9 (l.length : Int) ++ l ++ (c :: (y ++ (uB 9 r).take m3))) by simp] at e3
          simp only [e2, e3]
          rw [if_pos trivial, if_pos hk, if_pos g1]
          rfl
end Go.Proofs.Ytmgljgmieomngaa.Oct
namespace Go.Proofs.Ytmgljgmieomngaa.Oct
open Go Go.RowKit Go.Proofs.YtmgljgmieomngaaW.PrintWords Go.Proofs.YtmgljgmieomngaaW.PrintMore Go.Proofs.Ytmgljgmieomngaa.Q
set_option linter.unusedVariables false
set_option linter.unusedSimpArgs false
/-- a term that was taken, and its bytes -/
inductive TW : S54 → List Int → Prop
  | op (c : Int) (h0 : 1 ≤ c) (h1 : c ≤ 6) (h3 : c ≠ 3) : TW ⟨c, ⟨#[]⟩, 0, ⟨0, 0, ⟨#[]⟩, false, ⟨0, 0⟩⟩, 0⟩ [c]
  | atom (t : S54) (w : List Int) (h : TA t w) : TW t (3 :: w)
inductive TS : List S54 → List Int → Prop
  | nil : TS [] []
  | cons (t : S54) (w : List Int) (ts : List S54) (ws : List Int) (h : TW t w) (hs : TS ts ws) : TS (t :: ts) (w ++ ws)
theorem TW.okt {t : S54} {w : List Int} (h : TW t w) : OKT t := by
  cases h with
  | op c h0 h1 h3 => exact ⟨h0, h1, fun _ => rfl, fun h => absurd h h3⟩
  | atom t w h => exact h.at3
theorem TW.len {t : S54} {w : List Int} (h : TW t w) : 1 ≤ w.length ∧ w.length ≤ 700 := by
  cases h with
  | op c h0 h1 h3 => simp
  | atom t w h => have := h.len; simp; omega
theorem TW.bs {t : S54} {w : List Int} (h : TW t w) : Bs w := by
  cases h with
  | op c h0 h1 h3 => exact Bs.cons (by omega) Bs.nil
  | atom t w h => exact Bs.cons (by omega) h.bs
theorem TS.okt {ts : List S54} {ws : List Int} (h : TS ts ws) : ∀ t ∈ ts, OKT t := by
  induction h with
  | nil => simp
  | cons t w ts ws h hs ih =>
    intro u hu
    rcases List.mem_cons.1 hu with e | e
    · rw [e]; exact h.okt
    · exact ih u e
theorem TS.len {ts : List S54} {ws : List Int} (h : TS ts ws) : ws.length ≤ 700 * ts.length := by
  induction h with
  | nil => simp
  | cons t w ts ws h hs ih => have := h.len; simp; omega
theorem TS.bs {ts : List S54} {ws : List Int} (h : TS ts ws) : Bs ws := by
  induction h with
  | nil => exact Bs.nil
  | cons t w ts ws h hs ih => exact h.bs.append ih
theorem TS.hd {t : S54} {ts : List S54} {ws : List Int} (h : TS (t :: ts) ws) : ∃ w ws', TW t w ∧ TS ts ws' ∧ ws = w ++ ws' := by
  cases h with
  | cons t w ts ws h hs => exact ⟨w, ws, h, hs, rfl⟩
theorem Check_f (xs : List S54) (hx : ∀ t ∈ xs, OKT t) (hl : xs.length ≤ 48) (k : Nat) (hk : 500 ≤ k) : pred_Check.f k xs = some (CK xs 0) := by
  unfold pred_Check.f
  rw [if_neg (by omega)]
  exact Check_l0 xs hx hl xs 0 k 0 rfl (by omega) (by omega) (by omega)
/-- one round -/
theorem Take_rd (b : List Int) (hb : Bs b) (hl : b.length ≤ 140737488355327) (N i k : Nat) (hN : N ≤ 48) (hi : i < N) (p : Int) (acc : List S54) (ha : acc.length = i) (hp0 : 0 ≤ p) (hp1 : p < b.length) (hk : 200 ≤ k) :
    pred_Take.l0 (k + 2) b p acc (N : Int) (i : Int) =
      if rd b p < 1 ∨ rd b p > 6 then some ([], 0, 2) else if rd b p = 3 then (if (TK b (p + 1)).1 = 0 then pred_Take.l0 k b (TK b (p + 1)).2.2 (acc ++ [(TK b (p + 1)).2.1]) (N : Int) ((i + 1 : Nat) : Int) else some ([], 0, (TK b (p + 1)).1))
      else pred_Take.l0 k b (p + 1) (acc ++ [⟨rd b p, ⟨#[]⟩, 0, ⟨0, 0, ⟨#[]⟩, false, ⟨0, 0⟩⟩, 0⟩]) (N : Int) ((i + 1 : Nat) : Int) := by
  have hw : wrap64 ((i : Int) + 1) = ((i + 1 : Nat) : Int) := by unfold wrap64; omega
  have hiN : (i : Int) < (N : Int) := by omega
  have hacc : acc.length < 1466015503701 := by omega
  obtain ⟨c0, c1⟩ := rd_range b hb p hp0 hp1
  rw [pred_Take.l0, if_pos hiN, if_neg (show ¬ p ≥ (b.length : Int) by omega), if_pos hp0, if_pos hp1, w64_id (x := rd b p) (by omega) (by omega), w64_id (x := p + 1) (by omega) (by omega)]
  by_cases h3 : rd b p < 1
  · rw [if_pos h3, if_pos (.inl h3), pred_Take.j1, if_pos rfl]
  · rw [if_neg h3, pred_Take.j1]
    by_cases h4 : rd b p > 6
    · rw [if_pos (show decide (rd b p > 6) = true by simpa using h4), if_pos (.inr h4)]
    · rw [if_neg (show ¬ (decide (rd b p > 6) = true) by simpa using h4), if_neg (by omega : ¬ (rd b p < 1 ∨ rd b p > 6))]
      by_cases h5 : rd b p = 3
      · rw [if_pos h5, if_pos h5]
        obtain ⟨o, nm, c, kd, n, s, t, z, r, q, e1, e2⟩ := take_f b hb hl (p + 1) k (by omega)
        rw [e1]
        simp only [Option.bind_some]
        by_cases h6 : (TK b (p + 1)).1 = 0
        · obtain ⟨e3, e4⟩ := e2 h6
          rw [if_pos h6, if_pos h6, if_pos hacc, hw, ← e3, ← e4]
        · rw [if_neg h6, if_neg h6]
      · rw [if_neg h5, if_neg h5, if_pos hacc, hw]
theorem Take_w (b : List Int) (hb : Bs b) (hl : b.length ≤ 140737488355327) (N : Nat) (hN : N ≤ 48) : ∀ (d i k : Nat) (p : Int) (acc : List S54), i + d = N → acc.length = i → (∀ t ∈ acc, OKT t) → 0 ≤ p → p ≤ (b.length : Int) → 2 * d + 600 < k →
    ∃ s : List S54 × Int × Int, pred_Take.l0 k b p acc (N : Int) (i : Int) = some s ∧ (s.2.2 ≠ 0 → s.1 = [] ∧ s.2.1 = 0) ∧
      (s.2.2 = 0 → ∃ ts ws c, TS ts ws ∧ b = b.take p.toNat ++ (ws ++ c) ∧ s.1 = acc ++ ts ∧ ts.length = d ∧ s.2.1 = p + ws.length ∧ CK s.1 0 = 0)
  | 0, i, k, p, acc, h, ha, hx, hp0, hp1, hk => by
    obtain ⟨k, rfl⟩ : ∃ m, k = m + 1 := ⟨k - 1, by omega⟩
    rw [pred_Take.l0, if_neg (by omega), Check_f acc hx (by omega) k (by omega)]
    simp only [Option.bind_some]
    by_cases c : CK acc 0 = 0
    · rw [if_pos c]
      refine ⟨_, rfl, fun h => absurd rfl h, fun _ => ⟨[], [], b.drop p.toNat, TS.nil, ?_, by simp, rfl, by simp, c⟩⟩
      rw [List.nil_append, List.take_append_drop]
    · rw [if_neg c]; exact ⟨_, rfl, fun _ => ⟨rfl, rfl⟩, fun h => absurd h c⟩
  | d + 1, i, k, p, acc, h, ha, hx, hp0, hp1, hk => by
    obtain ⟨k, rfl⟩ : ∃ m, k = m + 2 := ⟨k - 2, by omega⟩
    by_cases h2 : p = (b.length : Int)
    · rw [pred_Take.l0, if_pos (by omega), if_pos (by omega)]; exact ⟨_, rfl, fun _ => ⟨rfl, rfl⟩, fun h => absurd h (by decide)⟩
    · rw [Take_rd b hb hl N i k hN (by omega) p acc ha hp0 (by omega) (by omega)]
      have step : ∀ (t : S54) (w c : List Int) (q : Int), TW t w → b = b.take p.toNat ++ (w ++ c) → q = p + w.length → ∃ s : List S54 × Int × Int, pred_Take.l0 k b q (acc ++ [t]) (N : Int) ((i + 1 : Nat) : Int) = some s ∧ (s.2.2 ≠ 0 → s.1 = [] ∧ s.2.1 = 0) ∧
          (s.2.2 = 0 → ∃ ts ws c, TS ts ws ∧ b = b.take p.toNat ++ (ws ++ c) ∧ s.1 = acc ++ ts ∧ ts.length = d + 1 ∧ s.2.1 = p + ws.length ∧ CK s.1 0 = 0) := by
        intro t w c q ht hb' hq
        have hlen := congrArg List.length hb'
        simp at hlen
        have hn := next_at hb' (by omega)
        obtain ⟨s, e1, e2, e3⟩ := Take_w b hb hl N hN d (i + 1) k q (acc ++ [t]) (by omega) (by simp; omega) (fun u hu => by
          rcases List.mem_append.1 hu with hu | hu
          · exact hx u hu
          · rw [List.mem_singleton.1 hu]; exact ht.okt) (by omega) (by omega) (by omega)
        refine ⟨s, e1, e2, fun h => ?_⟩
        obtain ⟨ts, ws, c', f1, f2, f3, f4, f5, f6⟩ := e3 h
        refine ⟨t :: ts, w ++ ws, c', TS.cons t w ts ws ht f1, ?_, by rw [f3]; simp, by simp [f4], ?_, f6⟩
        · rw [show q.toNat = p.toNat + w.length by omega, hn] at f2
          conv => lhs; rw [f2]
          simp
        · rw [f5, hq, List.length_append]; omega
      by_cases h3 : rd b p < 1 ∨ rd b p > 6
      · rw [if_pos h3]; exact ⟨_, rfl, fun _ => ⟨rfl, rfl⟩, fun h => absurd h (by decide)⟩
      · rw [if_neg h3]
        have hc := cons_at hp0 (by omega : p < (b.length : Int))
        by_cases h5 : rd b p = 3
        · rw [if_pos h5]
          by_cases h6 : (TK b (p + 1)).1 = 0
          · rw [if_pos h6]
            obtain ⟨_, _, w, c, g1, g2, g3⟩ := TK_word b hb (p + 1) h6
            refine step _ (3 :: w) c _ (TW.atom _ _ g1) ?_ (by rw [g3]; simp; omega)
            rw [take_succ_at hp0 (by omega), h5] at g2
            conv => lhs; rw [g2]
            simp
          · rw [if_neg h6]; exact ⟨_, rfl, fun _ => ⟨rfl, rfl⟩, fun h => absurd h h6⟩
        · rw [if_neg h5]
          exact step _ [rd b p] _ _ (TW.op _ (by omega) (by omega) h5) hc rfl
theorem Take_word (b : List Int) (hb : Bs b) (hl : b.length ≤ 140737488355327) (p : Int) (k : Nat) (hk : 800 ≤ k) :
    ∃ s : List S54 × Int × Int, pred_Take.f k b p = some s ∧ (s.2.2 ≠ 0 → s.1 = [] ∧ s.2.1 = 0) ∧
      (s.2.2 = 0 → ∃ ws c, TS s.1 ws ∧ s.1.length ≤ 48 ∧ b = b.take p.toNat ++ ((uB 9 s.1.length ++ ws) ++ c) ∧ s.2.1 = p + (uB 9 s.1.length ++ ws).length ∧ CK s.1 0 = 0) := by
  unfold pred_Take.f
  rw [TakeUint_f b hb (by omega) p k (by omega)]
  simp only [Option.bind_some]
  obtain ⟨r1, r2, r3, r4, r5, r6⟩ := TU_range b hb p
  have hw := TU_word b hb p
  generalize TU b p = u at *
  by_cases h : u.2.2 = 0
  · obtain ⟨p0, p1, c0, w1, w2⟩ := hw h
    rw [if_pos h]
    by_cases h1 : u.1 > 48
    · rw [if_pos h1]; exact ⟨_, rfl, fun _ => ⟨rfl, rfl⟩, fun h => absurd h (by decide)⟩
    · rw [if_neg h1, w64_id (x := u.1) (by omega) (by omega)]
      obtain ⟨s, e1, e2, e3⟩ := Take_w b hb hl u.1.toNat (by omega) u.1.toNat 0 k u.2.1 [] (by omega) rfl (by simp) r3 r4 (by omega)
      rw [show ((u.1.toNat : Nat) : Int) = u.1 by omega] at e1
      refine ⟨s, e1, e2, fun h => ?_⟩
      obtain ⟨ts, ws, c, f1, f2, f3, f4, f5, f6⟩ := e3 h
      rw [List.nil_append] at f3
      have hn : (s.1.length : Int) = u.1 := by rw [f3, f4]; omega
      refine ⟨ws, c, by rw [f3]; exact f1, by rw [f3, f4]; omega, ?_, ?_, f6⟩
      · rw [hn]
        have := next_at w1 (by omega)
        rw [show p.toNat + (uB 9 u.1).length = u.2.1.toNat by omega] at this
        rw [this] at f2
        conv => lhs; rw [f2]
        simp
      · rw [hn, f5, w2, List.length_append]; omega
  · rw [if_neg h]; exact ⟨_, rfl, fun _ => ⟨rfl, rfl⟩, fun g => absurd g h⟩
theorem TK_tk {a x : List Int} {q : Int} (hq : q = a.length) (y : Int) : a ++ (y :: x) = (a ++ [y]) ++ x ∧ q + 1 = ((a ++ [y]).length : Int) := ⟨by simp, by simp; omega⟩
theorem Take_c (N : Nat) (hN : N ≤ 48) : ∀ (ts : List S54) (ws : List Int) (hT : TS ts ws) (i k : Nat) (a : List Int) (m : Nat) (q : Int) (acc : List S54), Bs a → a.length + ws.length ≤ 140737488355327 → i + ts.length = N → acc.length = i → q = a.length → m < ws.length → 2 * ts.length + 600 < k →
    pred_Take.l0 k (a ++ ws.take m) q acc (N : Int) (i : Int) = some ([], 0, 3)
  | [], ws, hT, i, k, a, m, q, acc, ha, hl, hi, hacc, hq, hm, hk => by
    cases hT
    simp at hm
  | t :: ts, ws, hT, i, k, a, m, q, acc, ha, hl, hi, hacc, hq, hm, hk => by
    obtain ⟨k, rfl⟩ : ∃ j, k = j + 2 := ⟨k - 2, by omega⟩
    obtain ⟨w, ws', hw, hs, rfl⟩ := hT.hd
    simp only [List.length_cons] at hi hk
    cases m with
    | zero => rw [pred_Take.l0, if_pos (by omega), if_pos (by simp; omega)]
    | succ m =>
      have hB : Bs (a ++ (w ++ ws').take (m + 1)) := ha.append ((hw.bs.append hs.bs).take _)
      have hL : (a ++ (w ++ ws').take (m + 1)).length ≤ 140737488355327 := by rw [List.length_append, List.length_take]; omega
      cases hw with
      | op c h0 h1 h3 =>
        have e : ([c] ++ ws').take (m + 1) = c :: ws'.take m := by simp
        rw [e] at hB hL ⊢
        rw [Take_rd _ hB hL N i k hN (by omega) q acc hacc (by omega) (by simp; omega) (by omega), rd_at a c _ q hq, if_neg (by omega), if_neg h3, (TK_tk hq c).1]
        exact Take_c N hN ts ws' hs (i + 1) k (a ++ [c]) m (q + 1) _ (ha.append (Bs.cons (by omega) Bs.nil)) (by simp at hl ⊢; omega) (by omega) (by simp; omega) (TK_tk (x := []) hq c).2 (by simpa using hm) (by omega)
      | atom t w h =>
        have e : (3 :: w ++ ws').take (m + 1) = 3 :: (w ++ ws').take m := by simp
        rw [e] at hB hL ⊢
        rw [Take_rd _ hB hL N i k hN (by omega) q acc hacc (by omega) (by simp; omega) (by omega), rd_at a 3 _ q hq, if_neg (by omega), if_pos rfl, (TK_tk hq 3).1]
        have hq1 := (TK_tk (x := []) hq 3).2
        by_cases h1 : m < w.length
        · have := h.cut (a ++ [3]) m h1 (q + 1) hq1
          rw [List.take_append, show m - w.length = 0 by omega, List.take_zero, List.append_nil, this, if_neg (by decide)]
        · have := h.at (a ++ [3]) (ws'.take (m - w.length)) (q + 1) hq1
          rw [List.take_append, List.take_of_length_le (by omega), this, if_pos rfl, ← List.append_assoc]
          exact Take_c N hN ts ws' hs (i + 1) k (a ++ [3] ++ w) (m - w.length) _ _ ((ha.append (Bs.cons (by omega) Bs.nil)).append h.bs) (by simp at hl ⊢; omega) (by omega) (by simp; omega) (by simp; omega) (by simp at hm; omega) (by omega)
theorem Take_cut (ts : List S54) (ws : List Int) (hT : TS ts ws) (hl : ts.length ≤ 48) (m : Nat) (hm : m < (uB 9 ts.length ++ ws).length) (k : Nat) (hk : 800 ≤ k) : pred_Take.f k ((uB 9 ts.length ++ ws).take m) 0 = some ([], 0, 3) := by
  have hu := uB_len 9 (ts.length : Int)
  have hub : Bs (uB 9 (ts.length : Int)) := uB_bytes 9 _ (by omega) (by rw [pow128]; omega)
  have hB : Bs ((uB 9 (ts.length : Int) ++ ws).take m) := (hub.append hT.bs).take _
  have hL := hT.len
  unfold pred_Take.f
  rw [TakeUint_f _ hB (by rw [List.length_take, List.length_append]; omega) 0 k (by omega)]
  simp only [Option.bind_some]
  by_cases h : m < (uB 9 (ts.length : Int)).length
  · have := TU_cut (ts.length : Int) (by omega) (by omega) [] m h 0 rfl
    rw [List.nil_append] at this
    rw [List.take_append, show m - (uB 9 (ts.length : Int)).length = 0 by omega, List.take_zero, List.append_nil, this]
    rfl
  · have hm2 : m - (uB 9 (ts.length : Int)).length < ws.length := by rw [List.length_append] at hm; omega
    rw [List.take_append, List.take_of_length_le (by omega)]
    generalize m - (uB 9 (ts.length : Int)).length = m' at *
    have := TU_at (ts.length : Int) (by omega) (by omega) [] (ws.take m') 0 rfl
    rw [List.nil_append] at this
    rw [this]
    simp only [if_true]
    rw [if_neg (by omega), w64_id (by omega) (by omega)]
    exact Take_c ts.length hl ts ws hT 0 k (uB 9 (ts.length : Int)) m' _ [] hub (by omega) (by omega) rfl (by omega) hm2 (by omega)
theorem byte_id {x : Int} (h0 : 0 ≤ x) (h1 : x ≤ 255) : x % 256 = x := by omega
theorem Put_l0 (xs : List S54) (hx : xs.length ≤ 48) : ∀ (d i k : Nat) (ws out : List Int), i + d = xs.length → TS (xs.drop i) ws → out.length + 700 * d ≤ 100000 → d + 100 < k →
    pred_Put.l0 k out xs (xs.length : Int) (i : Int) = some (out ++ ws, 0)
  | 0, i, k, ws, out, h, hT, ho, hk => by
    obtain ⟨k, rfl⟩ : ∃ m, k = m + 1 := ⟨k - 1, by omega⟩
    rw [List.drop_of_length_le (by omega)] at hT
    cases hT
    rw [pred_Put.l0, if_neg (by omega), List.append_nil]
  | d + 1, i, k, ws, out, h, hT, ho, hk => by
    obtain ⟨k, rfl⟩ : ∃ m, k = m + 1 := ⟨k - 1, by omega⟩
    obtain ⟨t, ts, hd⟩ : ∃ t ts, xs.drop i = t :: ts := by
      cases e : xs.drop i with
      | nil => have := List.drop_eq_nil_iff.1 e; omega
      | cons t ts => exact ⟨t, ts, rfl⟩
    obtain ⟨e1, e2, e3⟩ := rdT_drop hd
    rw [hd] at hT
    obtain ⟨w, ws', hw, hs, rfl⟩ := hT.hd
    rw [← e3] at hs
    have hi : wrap64 ((i : Int) + 1) = ((i + 1 : Nat) : Int) := by unfold wrap64; omega
    have ih := fun (o : List Int) (ho : o.length ≤ out.length + 700) => Put_l0 xs hx d (i + 1) k ws' o (by omega) hs (by omega) (by omega)
    have hwl := hw.len
    rw [pred_Put.l0, if_pos (by omega), if_pos (by omega), if_pos (by omega), e1, hi]
    cases hw with
    | op c h0 h1 h3 =>
      simp only [Option.bind_some, byte_id (show 0 ≤ c by omega) (by omega)]
      rw [if_pos (by simp; omega), if_neg h3, ih _ (by simp)]
      simp
    | atom t w h =>
      have hX : ∀ (s : ByteArray) (l : List Int), l = bytesOf s → (l.length : Int) ≤ 200 → TX s = (uB 9 l.length ++ l, 0) := by
        intro s l hl h
        have hs : s.size = l.length := by rw [hl, bytesOf_length]
        unfold TX
        rw [if_neg (by omega), ← hl, hs]
      have hlen := h.len
      cases h with
      | bare s l c hl h hn hc =>
        have := uB_len 9 (l.length : Int)
        have hc1 : (c == 1 || c == 2) = true := by simp; omega
        simp only [Option.bind_some, byte_id (show (0 : Int) ≤ 3 by decide) (by decide), byte_id (show 0 ≤ c by omega) (by omega), if_true, Text_f s k (by omega), hX s l hl h, bare_f, hc1]
        rw [if_pos (by simp; omega), if_pos (by simp; omega), if_pos (by simp; omega), if_neg (by omega), ih _ (by simp; omega)]
        simp
      | full s l c hl h hn hc kd n v t z w hv hk =>
        have := uB_len 9 (l.length : Int)
        have hvl := hv.len
        have hc1 : (c == 1 || c == 2) = false := by simp; omega
        simp only [Option.bind_some, byte_id (show (0 : Int) ≤ 3 by decide) (by decide), byte_id (show 0 ≤ c by omega) (by omega), if_true, Text_f s k (by omega), hX s l hl h, bare_f, hc1, hv.put k (by omega)]
        rw [if_pos (by simp; omega), if_pos (by simp; omega), if_pos (by simp; omega), if_neg (by decide), if_pos (by simp; omega), if_neg (by omega), ih _ (by simp; omega)]
        simp
      | near s l hl h hn kd n v t z w hv hk r h0 h1 =>
        have := uB_len 9 (l.length : Int)
        have := uB_len 9 r
        have hvl := hv.len
        have hc1 : ((10 : Int) == 1 || (10 : Int) == 2) = false := by decide
        simp only [Option.bind_some, byte_id (show (0 : Int) ≤ 3 by decide) (by decide), byte_id (show (0 : Int) ≤ 10 by decide) (by decide), if_true, Text_f s k (by omega), hX s l hl h, bare_f, hc1, hv.put k (by omega), u64w_id (x := r) (by omega) (by omega), Uint_f r k (by omega) (by omega) (by omega)]
        rw [if_pos (by simp; omega), if_pos (by simp; omega), if_pos (by simp; omega), if_neg (by decide), if_pos (by simp; omega), if_pos (by simp; omega), ih _ (by simp; omega)]
        simp
theorem Put_f (xs : List S54) (ws : List Int) (hT : TS xs ws) (hx : xs.length ≤ 48) (hC : CK xs 0 = 0) (k : Nat) (hk : 800 ≤ k) : pred_Put.f k xs = some (uB 9 xs.length ++ ws, 0) := by
  have := uB_len 9 (xs.length : Int)
  unfold pred_Put.f
  rw [Check_f xs hT.okt hx k (by omega), hC]
  simp only [Option.bind_some, if_true]
  rw [u64w_id (x := (xs.length : Int)) (by omega) (by omega), Uint_f _ k (by omega) (by omega) (by omega)]
  simp only [Option.bind_some]
  exact Put_l0 xs hx xs.length 0 k ws _ (by omega) hT (by omega) (by omega)
end Go.Proofs.Ytmgljgmieomngaa.Oct
namespace Go.Proofs.Ytmgljgmieomngaa.Pure
open Go Go.RowKit Go.Proofs.Ytmgljgmieomngaa.Q Go.Proofs.Ytmgljgmieomngaa.Oct Go.Proofs.YtmgljgmieomngaaW.PrintWords Go.Proofs.YtmgljgmieomngaaW.PrintMore
set_option linter.unusedVariables false
theorem tm (K n : Int) (h0 : 0 ≤ K) (h1 : 0 < n) : ∃ m : Nat, Int.tmod K n = m ∧ (m : Int) < n := by
  rw [Int.tmod_eq_emod_of_nonneg h0]
  exact ⟨(K % n).toNat, (Int.toNat_of_nonneg (Int.emod_nonneg _ (by omega))).symm, by rw [Int.toNat_of_nonneg (Int.emod_nonneg _ (by omega))]; exact Int.emod_lt_of_pos _ h1⟩
theorem PredOnce : grapevinelaw05_PredOnce.Pure := by
  intro b K hm hs hbb hK
  obtain ⟨k, hk⟩ : ∃ k : Nat, 1000 ≤ k := ⟨_, Nat.le_refl _⟩
  refine ⟨k, ?_⟩
  have hB := Bs.of_wf hbb
  have hK0 : 0 ≤ K ∧ K ≤ 65535 := by
    simp [Lit.wf, IntKind.min, IntKind.max, IntKind.signed, IntKind.bits] at hK
    omega
  obtain ⟨s, e1, e2, e3⟩ := Take_word b hB (by omega) 0 k (by omega)
  unfold grapevinelaw05_PredOnce.f
  rw [e1]
  simp only [Option.bind_some, grapevinelaw05_live.f, if_true]
  by_cases h : s.2.2 = 0
  · rw [if_pos h]
    obtain ⟨ws, c, hT, hx, hw, hq, hC⟩ := e3 h
    have hcut := fun m hm k hk => Take_cut s.1 ws hT hx m hm k hk
    rw [Put_f s.1 ws hT hx hC k (by omega)]
    have hu := uB_len 9 (s.1.length : Int)
    have hlen : 1 ≤ (uB 9 (s.1.length : Int) ++ ws).length ∧ (uB 9 (s.1.length : Int) ++ ws).length ≤ 100000 := by
      have := hT.len
      simp only [List.length_append]
      omega
    generalize uB 9 (s.1.length : Int) ++ ws = B at *
    have hwl : b.take B.length = B := by
      have : b = B ++ c := by simpa using hw
      conv => lhs; rw [this, List.take_left]
    have hle : B.length ≤ b.length := by rw [← hwl, List.length_take]; omega
    simp only [Option.bind_some, if_true]
    rw [if_pos (by omega), if_neg (by omega), if_pos (by omega), if_pos (by omega), show s.2.1.toNat = B.length by omega, hwl]
    simp only [bne_self_eq_false]
    obtain ⟨k, rfl⟩ : ∃ m, k = m + 1 := ⟨k - 1, by omega⟩
    simp only [grapevinelaw05_PredOnce.j0]
    rw [if_neg (by decide), if_neg (by omega), w64_id (x := K) (by omega) (by omega)]
    obtain ⟨m, hm1, hm2⟩ := tm K (B.length : Int) hK0.1 (by omega)
    rw [hm1, if_pos (by omega), if_pos (by omega), Int.toNat_natCast, hcut m (by omega) k (by omega)]
    rfl
  · rw [if_neg h]
    obtain ⟨h1, h2⟩ := e2 h
    rw [h1, h2]
    rfl
end Go.Proofs.Ytmgljgmieomngaa.Pure
