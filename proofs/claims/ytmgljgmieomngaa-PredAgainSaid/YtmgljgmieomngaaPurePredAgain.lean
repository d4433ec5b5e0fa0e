/- What is parsed is printed, and parsed again as the same terms, where the text is not too long: for every text. -/
import Derived.Laws.BitsAllLaws
import Derived.RowKit
import Derived.Test.YtmgljgmieomngaaWd
import Derived.Test.YtmgljgmieomngaaQx0
import Derived.Test.YtmgljgmieomngaaFl
import Derived.Test.YtmgljgmieomngaaQx6
import Derived.Test.YtmgljgmieomngaaQx4
import Derived.Test.YtmgljgmieomngaaQx5
import Derived.Test.YtmgljgmieomngaaQx3
import Derived.Test.YtmgljgmieomngaaQx27
import Derived.Test.YtmgljgmieomngaaQx7
import Derived.Test.YtmgljgmieomngaaQx2
import Derived.Test.YtmgljgmieomngaaQx8
import Derived.Test.YtmgljgmieomngaaQx9
import Derived.Test.YtmgljgmieomngaaQx41
import Derived.Test.YtmgljgmieomngaaPy5
import Derived.Test.YtmgljgmieomngaaPy4
import Derived.Test.YtmgljgmieomngaaQx43
import Derived.Test.YtmgljgmieomngaaQx44
import Derived.Test.YtmgljgmieomngaaQx45
import Derived.Test.YtmgljgmieomngaaQx46
import Derived.Test.YtmgljgmieomngaaQx47
import Derived.Test.YtmgljgmieomngaaQx48
import Derived.Test.YtmgljgmieomngaaQx49
import Derived.Test.YtmgljgmieomngaaQx50
import Derived.Test.YtmgljgmieomngaaQx51
namespace Go.Proofs.Ytmgljgmieomngaa.Oct
open Go Go.RowKit Go.Proofs.YtmgljgmieomngaaW.PrintWords Go.Proofs.YtmgljgmieomngaaW.PrintMore
set_option linter.unusedVariables false

theorem u64w (x : Int) : IntKind.u64.wrap x = x % 18446744073709551616 := IntKind.wrap_u64 x
theorem u64w_id {x : Int} (h0 : 0 ≤ x) (h1 : x < 18446744073709551616) : IntKind.u64.wrap x = x := by rw [u64w]; omega
theorem w64_id {x : Int} (h0 : -9223372036854775808 ≤ x) (h1 : x < 9223372036854775808) : wrap64 x = x := by unfold wrap64; omega

/-- bytes: all from 0 to 255 -/
def Bs (l : List Int) : Prop := ∀ x ∈ l, 0 ≤ x ∧ x ≤ 255
theorem Bs.of_wf {l : List Int} (h : ∀ x ∈ l, (Lit.int .u8 x).wf = true) : Bs l := by
  intro x hx
  have := h x hx
  simp [Lit.wf, IntKind.min, IntKind.max, IntKind.signed, IntKind.bits] at this
  omega
theorem Bs.nil : Bs [] := by intro x hx; simp at hx
theorem Bs.cons {x : Int} {l : List Int} (h : 0 ≤ x ∧ x ≤ 255) (hl : Bs l) : Bs (x :: l) := by
  intro y hy
  rcases List.mem_cons.mp hy with rfl | hy
  · exact h
  · exact hl y hy
theorem Bs.append {a b : List Int} (ha : Bs a) (hb : Bs b) : Bs (a ++ b) := by
  intro x hx
  rcases List.mem_append.mp hx with h | h
  · exact ha x h
  · exact hb x h
theorem Bs.drop {l : List Int} (h : Bs l) (n : Nat) : Bs (l.drop n) := fun x hx => h x (List.mem_of_mem_drop hx)
theorem Bs.take {l : List Int} (h : Bs l) (n : Nat) : Bs (l.take n) := fun x hx => h x (List.mem_of_mem_take hx)

/-! ### a number's bytes -/
def uB : Nat → Int → List Int
  | 0, n => [n]
  | f + 1, n => if n ≥ 128 then (n % 128 + 128) :: uB f (n / 128) else [n]

theorem or128 (x : Int) (h0 : 0 ≤ x) (h1 : x < 256) : Go.bits .or .u8 x 128 = x % 128 + 128 := by
  rw [u8_or x 128 h0 h1 (by decide) (by decide)]
  have key : ∀ n : Fin 256, (n.val ||| 128) = n.val % 128 + 128 := by decide +kernel
  have := key ⟨x.toNat, by omega⟩
  simp only at this
  rw [show (128 : Int).toNat = 128 from rfl, this]
  omega
theorem and127 (x : Int) (h0 : 0 ≤ x) (h1 : x < 256) : Go.bits .and .u8 x 127 = x % 128 := by
  rw [u8_and x 127 h0 h1 (by decide) (by decide)]
  rw [show (127 : Int).toNat = 127 from rfl, nat_mask7]
  omega

theorem uB_len (f : Nat) (n : Int) : 1 ≤ (uB f n).length ∧ (uB f n).length ≤ f + 1 := by
  induction f generalizing n with
  | zero => simp [uB]
  | succ f ih =>
    unfold uB
    split
    · have := ih (n / 128)
      simp only [List.length_cons]
      omega
    · simp
theorem uB_small (f : Nat) (n : Int) (h : n < 128) : uB f n = [n] := by
  cases f with
  | zero => rfl
  | succ f => unfold uB; rw [if_neg (by omega)]
theorem uB_bytes (f : Nat) (n : Int) (h0 : 0 ≤ n) (h1 : n < 128 ^ (f + 1)) : Bs (uB f n) := by
  induction f generalizing n with
  | zero => exact Bs.cons ⟨h0, by simp at h1; omega⟩ Bs.nil
  | succ f ih =>
    unfold uB
    split
    · refine Bs.cons ⟨by omega, by omega⟩ (ih _ (by omega) ?_)
      rw [Int.pow_succ] at h1
      exact Int.ediv_lt_of_lt_mul (by decide) h1
    · exact Bs.cons ⟨h0, by omega⟩ Bs.nil

theorem uB_mono (f : Nat) : ∀ a b : Int, 0 ≤ a → a ≤ b → b < 128 ^ (f + 1) → (uB f a).length ≤ (uB f b).length := by
  induction f with
  | zero => intro a b _ _ _; simp [uB]
  | succ f ih =>
    intro a b ha hab hb
    unfold uB
    by_cases h1 : a ≥ 128
    · rw [if_pos h1, if_pos (by omega)]
      simp only [List.length_cons]
      have hb' : b / 128 < 128 ^ (f + 1) := by
        rw [Int.pow_succ] at hb
        exact Int.ediv_lt_of_lt_mul (by decide) hb
      have := ih (a / 128) (b / 128) (by omega) (by omega) hb'
      omega
    · rw [if_neg h1]
      have := (uB_len (f + 1) b).1
      unfold uB at this
      exact this

/-- what stands for a number: the value, how many bytes, the error -/
def tk : List Int → Nat → Int → Int × Int × Int
  | [], _, _ => (0, 0, 3)
  | x :: xs, i, n =>
    if i = 9 ∧ x > 1 then (0, 0, 6)
    else if x ≥ 128 then tk xs (i + 1) (n + x % 128 * 2 ^ (7 * i))
    else if x = 0 ∧ i > 0 then (0, 0, 4)
    else (n + x % 128 * 2 ^ (7 * i), (i : Int) + 1, 0)
def fin (at' : Int) (r : Int × Int × Int) : Int × Int × Int := (r.1, if r.2.2 = 0 then at' + r.2.1 else 0, r.2.2)
/-- the number at a place, and the place behind it, or the error -/
def TU (b : List Int) (at' : Int) : Int × Int × Int :=
  if at' < 0 ∨ at' > (b.length : Int) then (0, 0, 2) else fin at' (tk (b.drop at'.toNat) 0 0)

theorem pow2_le {a b : Nat} (h : a ≤ b) : (2 : Int) ^ a ≤ 2 ^ b := by
  have : ((2 ^ a : Nat) : Int) ≤ ((2 ^ b : Nat) : Int) := Int.ofNat_le.mpr (Nat.pow_le_pow_right (by decide) h)
  rw [Int.natCast_pow, Int.natCast_pow] at this
  exact this
theorem pow7 (i : Nat) : (2 : Int) ^ (7 * (i + 1)) = 2 ^ (7 * i) * 128 := by
  rw [Nat.mul_add, Int.pow_add]; rfl
theorem pow7pos (i : Nat) : (0 : Int) < 2 ^ (7 * i) := Int.pow_pos (by decide)
theorem pow_le9 {i : Nat} (h : i ≤ 9) : (2 : Int) ^ (7 * i) ≤ 9223372036854775808 := by
  have : (2 : Int) ^ (7 * i) ≤ 2 ^ (7 * 9) := pow2_le (by omega)
  exact this

/-- the digit's share, beside what was there -/
theorem or_shl (n x : Int) (i : Nat) (hi : i ≤ 9) (hn0 : 0 ≤ n) (hn : n < 2 ^ (7 * i)) (hx0 : 0 ≤ x) (hx : x ≤ 255) (h9 : i = 9 → x ≤ 1) :
    Go.bits .or .u64 n (shl .u64 (IntKind.u64.wrap (Go.bits .and .u8 x 127)) (wrap64 (7 * (i : Int)))) = n + x % 128 * 2 ^ (7 * i) ∧
      n + x % 128 * 2 ^ (7 * i) < 18446744073709551616 ∧ (i < 9 → n + x % 128 * 2 ^ (7 * i) < 2 ^ (7 * (i + 1))) := by
  have hp := pow7pos i
  have hp9 := pow_le9 hi
  have hm : x % 128 * 2 ^ (7 * i) + n < 18446744073709551616 := by
    by_cases h : i = 9
    · subst h
      have : x % 128 ≤ 1 := by have := h9 rfl; omega
      have e : (2 : Int) ^ (7 * 9) = 9223372036854775808 := by decide +kernel
      rw [e] at hn ⊢
      omega
    · have h8 : (2 : Int) ^ (7 * i) ≤ 2 ^ (7 * 8) := pow2_le (by omega)
      have e : (2 : Int) ^ (7 * 8) = 72057594037927936 := by decide +kernel
      rw [e] at h8
      have : x % 128 * 2 ^ (7 * i) ≤ 127 * 2 ^ (7 * i) := Int.mul_le_mul_of_nonneg_right (by omega) (by omega)
      omega
  have hlt : i < 9 → n + x % 128 * 2 ^ (7 * i) < 2 ^ (7 * (i + 1)) := by
    intro _
    rw [pow7]
    have : x % 128 * 2 ^ (7 * i) ≤ 127 * 2 ^ (7 * i) := Int.mul_le_mul_of_nonneg_right (by omega) (by omega)
    omega
  refine ⟨?_, by omega, hlt⟩
  rw [and127 x hx0 (by omega), u64w_id (by omega) (by omega), w64_id (by omega) (by omega)]
  have hs : min (7 * (i : Int)).toNat (IntKind.u64).bits = 7 * i := by
    have : (7 * (i : Int)).toNat = 7 * i := by omega
    rw [this]
    show min (7 * i) 64 = 7 * i
    omega
  unfold shl
  rw [hs]
  have hnn : 0 ≤ x % 128 * 2 ^ (7 * i) := Int.mul_nonneg (by omega) (by omega)
  rw [u64w_id hnn (by omega)]
  rw [u64_or n _ hn0 (by omega) hnn (by omega)]
  have e1 : (x % 128 * 2 ^ (7 * i)).toNat = 2 ^ (7 * i) * (x % 128).toNat := by
    have : x % 128 * 2 ^ (7 * i) = ((2 ^ (7 * i) * (x % 128).toNat : Nat) : Int) := by
      rw [Int.natCast_mul, Int.natCast_pow, Int.toNat_of_nonneg (by omega), Int.mul_comm]; rfl
    rw [this]; rfl
  have hnlt : n.toNat < 2 ^ (7 * i) := by
    have : (n.toNat : Int) < ((2 ^ (7 * i) : Nat) : Int) := by
      rw [Int.toNat_of_nonneg hn0, Int.natCast_pow]; exact hn
    omega
  rw [e1, Nat.or_comm, ← Nat.two_pow_add_eq_or_of_lt hnlt, Int.natCast_add, Int.natCast_mul, Int.natCast_pow, Int.toNat_of_nonneg (by omega), Int.toNat_of_nonneg hn0]
  have : ((2 : Nat) : Int) ^ (7 * i) = 2 ^ (7 * i) := rfl
  rw [this, Int.mul_comm]; omega

/-- what is told of a number's bytes, whatever stands behind -/
theorem tk_uB : ∀ (f i : Nat) (n acc : Int) (rest : List Int), i + f = 9 → 0 ≤ n → n < 2 ^ (64 - 7 * i) → (i = 0 ∨ n > 0) →
    tk (uB f n ++ rest) i acc = (acc + n * 2 ^ (7 * i), (i : Int) + (uB f n).length, 0) := by
  intro f
  induction f with
  | zero =>
    intro i n acc rest hi h0 h1 hz
    obtain rfl : i = 9 := by omega
    have hn : n < 2 := h1
    simp only [uB, List.singleton_append, tk]
    rw [if_neg (by omega), if_neg (by omega), if_neg (by omega)]
    rw [Int.emod_eq_of_lt h0 (by omega)]
    simp
  | succ f ih =>
    intro i n acc rest hi h0 h1 hz
    unfold uB
    by_cases h : n ≥ 128
    · rw [if_pos h]
      simp only [List.cons_append, tk]
      rw [if_neg (by omega), if_pos (by omega)]
      have e64 : 64 - 7 * i = 7 + (64 - 7 * (i + 1)) := by omega
      have hd : n / 128 < 2 ^ (64 - 7 * (i + 1)) := by
        rw [e64, Int.pow_add] at h1
        exact Int.ediv_lt_of_lt_mul (by decide) (by rw [Int.mul_comm]; exact h1)
      rw [ih (i + 1) (n / 128) _ rest (by omega) (by omega) hd (by omega)]
      have e1 : (n % 128 + 128) % 128 = n % 128 := by omega
      rw [e1, pow7]
      have e2 : n = n % 128 + 128 * (n / 128) := by omega
      have e3 : acc + n % 128 * 2 ^ (7 * i) + n / 128 * (2 ^ (7 * i) * 128) = acc + n * 2 ^ (7 * i) := by
        have : n * 2 ^ (7 * i) = n % 128 * 2 ^ (7 * i) + n / 128 * (2 ^ (7 * i) * 128) := by
          conv => lhs; rw [e2]
          rw [Int.add_mul, Int.mul_comm (2 ^ (7 * i)) 128, ← Int.mul_assoc, Int.mul_comm 128 (n / 128)]
        omega
      rw [e3]
      simp only [List.length_cons]
      congr 2
      omega
    · rw [if_neg h]
      simp only [List.singleton_append, tk]
      rw [if_neg (by omega), if_neg (by omega), if_neg (by omega), Int.emod_eq_of_lt h0 (by omega)]
      simp

/-- what is taken for a number are just its bytes -/
theorem tk_once : ∀ (l : List Int) (i : Nat) (acc v c : Int), Bs l → i ≤ 9 → tk l i acc = (v, c, 0) →
    ∃ (m : Int) (rest : List Int), l = uB (9 - i) m ++ rest ∧ v = acc + m * 2 ^ (7 * i) ∧ c = (i : Int) + (uB (9 - i) m).length ∧ 0 ≤ m ∧ m < 2 ^ (64 - 7 * i) ∧ (i > 0 → m > 0) := by
  intro l
  induction l with
  | nil => intro i acc v c _ _ h; simp [tk] at h
  | cons x xs ih =>
    intro i acc v c hb hi h
    have hx := hb x (by simp)
    unfold tk at h
    by_cases h1 : i = 9 ∧ x > 1
    · rw [if_pos h1] at h; simp at h
    · rw [if_neg h1] at h
      by_cases h2 : x ≥ 128
      · rw [if_pos h2] at h
        have hi' : i + 1 ≤ 9 := by omega
        obtain ⟨m, rest, hl, hv, hc, hm0, hm1, hmp⟩ := ih (i + 1) _ v c (fun y hy => hb y (by simp [hy])) hi' h
        have hmp := hmp (by omega)
        refine ⟨128 * m + x % 128, rest, ?_, ?_, ?_, by omega, ?_, by omega⟩
        · obtain ⟨f, hf⟩ : ∃ f, 9 - i = f + 1 := ⟨8 - i, by omega⟩
          rw [hf]
          unfold uB
          rw [if_pos (by omega)]
          have e1 : (128 * m + x % 128) % 128 + 128 = x := by omega
          have e2 : (128 * m + x % 128) / 128 = m := by omega
          rw [e1, e2, List.cons_append, hl, show f = 9 - (i + 1) from by omega]
        · rw [hv, pow7, Int.add_mul, Int.mul_comm (2 ^ (7 * i)) 128, ← Int.mul_assoc, Int.mul_comm m 128]
          omega
        · rw [hc]
          obtain ⟨f, hf⟩ : ∃ f, 9 - i = f + 1 := ⟨8 - i, by omega⟩
          rw [hf]
          conv => rhs; unfold uB
          rw [if_pos (by omega)]
          have e2 : (128 * m + x % 128) / 128 = m := by omega
          rw [e2, List.length_cons, show 9 - (i + 1) = f from by omega]
          omega
        · have e64 : 64 - 7 * i = 7 + (64 - 7 * (i + 1)) := by omega
          rw [e64, Int.pow_add]
          have : (2 : Int) ^ 7 = 128 := by decide
          rw [this]
          omega
      · rw [if_neg h2] at h
        by_cases h3 : x = 0 ∧ i > 0
        · rw [if_pos h3] at h; simp at h
        · rw [if_neg h3] at h
          simp only [Prod.mk.injEq] at h
          obtain ⟨hv, hc, _⟩ := h
          refine ⟨x, xs, ?_, ?_, ?_, by omega, ?_, by omega⟩
          · rw [uB_small _ _ (by omega)]; rfl
          · rw [← hv, Int.emod_eq_of_lt (by omega) (by omega)]
          · rw [uB_small _ _ (by omega), ← hc]; rfl
          · by_cases h9 : i = 9
            · subst h9
              show x < 2
              omega
            · have : (2 : Int) ^ 8 ≤ 2 ^ (64 - 7 * i) := pow2_le (by omega)
              have e : (2 : Int) ^ 8 = 256 := by decide
              omega

/-- cut short -/
theorem tk_cut : ∀ (f i : Nat) (n acc : Int) (m : Nat), i + f = 9 → 0 ≤ n → n < 2 ^ (64 - 7 * i) → m < (uB f n).length → tk ((uB f n).take m) i acc = (0, 0, 3) := by
  intro f
  induction f with
  | zero =>
    intro i n acc m hi h0 h1 hm
    simp [uB] at hm
    subst hm
    simp [tk]
  | succ f ih =>
    intro i n acc m hi h0 h1 hm
    cases m with
    | zero => simp [tk]
    | succ m =>
      unfold uB at hm ⊢
      by_cases h : n ≥ 128
      · rw [if_pos h] at hm ⊢
        simp only [List.take_succ_cons, tk]
        rw [if_neg (by omega), if_pos (by omega)]
        have e64 : 64 - 7 * i = 7 + (64 - 7 * (i + 1)) := by omega
        refine ih (i + 1) (n / 128) _ m (by omega) (by omega) ?_ (by simpa using hm)
        rw [e64, Int.pow_add] at h1
        exact Int.ediv_lt_of_lt_mul (by decide) (by rw [Int.mul_comm]; exact h1)
      · rw [if_neg h] at hm
        simp at hm
theorem tk_range : ∀ (l : List Int) (i : Nat) (acc : Int), Bs l → i ≤ 9 → 0 ≤ acc → acc < 2 ^ (7 * i) →
    0 ≤ (tk l i acc).1 ∧ (tk l i acc).1 < 18446744073709551616 ∧ 0 ≤ (tk l i acc).2.1 ∧ (tk l i acc).2.1 ≤ (i : Int) + l.length ∧ ((tk l i acc).2.2 ≠ 0 → (tk l i acc).1 = 0 ∧ (tk l i acc).2.1 = 0) ∧ ((tk l i acc).2.2 = 0 → (i : Int) < (tk l i acc).2.1) := by
  intro l
  induction l with
  | nil => intro i acc _ _ _ _; simp [tk] <;> omega
  | cons x xs ih =>
    intro i acc hb hi h0 h1
    have hx := hb x (by simp)
    unfold tk
    by_cases c1 : i = 9 ∧ x > 1
    · rw [if_pos c1]; simp; omega
    · rw [if_neg c1]
      obtain ⟨_, r1, r2⟩ := or_shl acc x i hi h0 h1 hx.1 hx.2 (by omega)
      have hnn : 0 ≤ x % 128 * 2 ^ (7 * i) := Int.mul_nonneg (by omega) (by have := pow7pos i; omega)
      by_cases c2 : x ≥ 128
      · rw [if_pos c2]
        have := ih (i + 1) (acc + x % 128 * 2 ^ (7 * i)) (fun y hy => hb y (by simp [hy])) (by omega) (by omega) (r2 (by omega))
        simp only [List.length_cons]
        refine ⟨this.1, this.2.1, this.2.2.1, by have := this.2.2.2.1; omega, this.2.2.2.2.1, fun h => by have := this.2.2.2.2.2 h; omega⟩
      · rw [if_neg c2]
        by_cases c3 : x = 0 ∧ i > 0
        · rw [if_pos c3]; simp; omega
        · rw [if_neg c3]
          simp only [List.length_cons]
          refine ⟨by omega, r1, by omega, by omega, by simp, by omega⟩
theorem pow64 : (2 : Int) ^ (64 - 7 * 0) = 18446744073709551616 := by decide +kernel
theorem pow128 : (128 : Int) ^ (9 + 1) = 1180591620717411303424 := by decide +kernel

/-! ### numbers that may be below 0 -/
def fold (n : Int) : Int := if n ≥ 0 then 2 * n else -2 * n - 1
def unfold' (u : Int) : Int := if u % 2 = 0 then u / 2 else -(u / 2) - 1
theorem fold_range {n : Int} (h0 : -9223372036854775808 ≤ n) (h1 : n ≤ 9223372036854775807) : 0 ≤ fold n ∧ fold n < 18446744073709551616 := by
  unfold fold; split <;> omega
theorem unfold_fold (n : Int) : unfold' (fold n) = n := by
  unfold unfold' fold
  split
  · rw [if_pos (by omega)]; omega
  · rw [if_neg (by omega)]; omega
theorem fold_unfold (u : Int) (h : 0 ≤ u) : fold (unfold' u) = u := by
  unfold unfold' fold
  split
  · rw [if_pos (by omega)]; omega
  · rw [if_neg (by omega)]; omega
theorem unfold_range {u : Int} (h0 : 0 ≤ u) (h1 : u < 18446744073709551616) : -9223372036854775808 ≤ unfold' u ∧ unfold' u ≤ 9223372036854775807 := by
  unfold unfold'; split <;> omega
theorem xor_all64 (a : Nat) (h : a < 18446744073709551616) : a ^^^ 18446744073709551615 = 18446744073709551615 - a := by
  have h1 : (BitVec.ofNat 64 a ^^^ BitVec.allOnes 64).toNat = a ^^^ 18446744073709551615 := by
    rw [BitVec.toNat_xor, BitVec.toNat_allOnes, BitVec.toNat_ofNat, Nat.mod_eq_of_lt h]
  have h2 : (BitVec.ofNat 64 a ^^^ BitVec.allOnes 64).toNat = 18446744073709551615 - a := by
    rw [BitVec.xor_allOnes, BitVec.toNat_not, BitVec.toNat_ofNat, Nat.mod_eq_of_lt h]
  omega
theorem xor_fold (n : Int) (h0 : -9223372036854775808 ≤ n) (h1 : n ≤ 9223372036854775807) :
    Go.bits .xor .u64 (IntKind.u64.wrap ((IntKind.u64.wrap n) * 2)) (IntKind.u64.wrap (n / 9223372036854775808)) = fold n := by
  rw [u64w, u64w, u64w]
  have hr : 0 ≤ (n % 18446744073709551616 * 2) % 18446744073709551616 ∧ (n % 18446744073709551616 * 2) % 18446744073709551616 < 18446744073709551616 := by omega
  by_cases h : n ≥ 0
  · have e : n / 9223372036854775808 = 0 := by omega
    rw [e]
    have e2 : (n % 18446744073709551616 * 2) % 18446744073709551616 = 2 * n := by omega
    rw [e2]
    obtain ⟨m, hm⟩ : ∃ m : Nat, 2 * n = m := ⟨(2 * n).toNat, by omega⟩
    rw [hm]
    have := bits_xor_u64_nat m 0 (by omega) (by omega)
    simp only [Int.ofNat_zero, Nat.xor_zero] at this
    rw [show ((0 : Int) % 18446744073709551616) = ((0 : Nat) : Int) from rfl]
    have := bits_xor_u64_nat m 0 (by omega) (by omega)
    rw [this, Nat.xor_zero]
    unfold fold; rw [if_pos h, hm]
  · have e : n / 9223372036854775808 = -1 := by omega
    rw [e]
    obtain ⟨m, hm⟩ : ∃ m : Nat, (n % 18446744073709551616 * 2) % 18446744073709551616 = m := ⟨_, (Int.toNat_of_nonneg hr.1).symm⟩
    rw [hm]
    rw [show ((-1 : Int) % 18446744073709551616) = ((18446744073709551615 : Nat) : Int) from rfl]
    rw [bits_xor_u64_nat m 18446744073709551615 (by omega) (by omega), xor_all64 m (by omega)]
    unfold fold; rw [if_neg h]
    omega
theorem xor_unfold (u : Int) (h0 : 0 ≤ u) (h1 : u < 18446744073709551616) :
    Go.bits .xor .i64 (wrap64 (u / 2)) (wrap64 (-(wrap64 (Go.bits .and .u64 u 1)))) = unfold' u := by
  rw [u64_and u 1 h0 h1 (by decide) (by decide), show (1 : Int).toNat = 1 from rfl, nat_mask1]
  rw [w64_id (x := u / 2) (by omega) (by omega)]
  have e0 : ((u.toNat % 2 : Nat) : Int) = u % 2 := by omega
  rw [e0, w64_id (x := u % 2) (by omega) (by omega), w64_id (x := -(u % 2)) (by omega) (by omega)]
  obtain ⟨m, hm⟩ : ∃ m : Nat, u / 2 = m := ⟨_, (Int.toNat_of_nonneg (by omega)).symm⟩
  unfold unfold'
  rw [hm]
  show IntKind.i64.wrap ((BitVec.ofInt 64 (m : Int) ^^^ BitVec.ofInt 64 (-(u % 2))).toNat : Int) = _
  by_cases h : u % 2 = 0
  · rw [if_pos h, h]
    have : BitVec.ofInt 64 (-0) = 0#64 := by decide
    rw [this, BitVec.xor_zero, ofInt_u64 m (by omega), IntKind.wrap_i64]
    omega
  · rw [if_neg h, show u % 2 = 1 from by omega]
    have : BitVec.ofInt 64 (-1) = BitVec.allOnes 64 := by decide
    rw [this, BitVec.xor_allOnes, BitVec.toNat_not, ofInt_u64 m (by omega), IntKind.wrap_i64]
    omega
end Go.Proofs.Ytmgljgmieomngaa.Oct
namespace Go.Proofs.Ytmgljgmieomngaa.Oct
open Go Go.RowKit Go.Proofs.YtmgljgmieomngaaW.PrintWords Go.Proofs.YtmgljgmieomngaaW.PrintMore Go.Proofs.Ytmgljgmieomngaa.Q
set_option linter.unusedVariables false

theorem wf_u64 {n : Int} (h : (Lit.int .u64 n).wf = true) : 0 ≤ n ∧ n < 18446744073709551616 := by
  simp [Lit.wf, IntKind.min, IntKind.max, IntKind.signed, IntKind.bits] at h
  omega
theorem wf_i64 {n : Int} (h : (Lit.int .i64 n).wf = true) : -9223372036854775808 ≤ n ∧ n ≤ 9223372036854775807 := by
  simp [Lit.wf, IntKind.min, IntKind.max, IntKind.signed, IntKind.bits] at h
  omega
end Go.Proofs.Ytmgljgmieomngaa.Oct
namespace Go.Proofs.Ytmgljgmieomngaa.Oct
open Go Go.RowKit Go.Proofs.YtmgljgmieomngaaW.PrintWords Go.Proofs.YtmgljgmieomngaaW.PrintMore Go.Proofs.Ytmgljgmieomngaa.Q
set_option linter.unusedVariables false

theorem rd_drop {b : List Int} {p : Nat} {x : Int} {xs : List Int} (h : b.drop p = x :: xs) {j : Int} (hj : j = p) : rd b j = x := by
  subst hj
  unfold rd
  rw [Int.toNat_natCast, List.getD_eq_getElem?_getD]
  have : (b.drop p)[0]? = some x := by rw [h]; rfl
  rw [List.getElem?_drop] at this
  simp at this
  simp [this]
theorem drop_succ {b : List Int} {p : Nat} {x : Int} {xs : List Int} (h : b.drop p = x :: xs) : b.drop (p + 1) = xs := by
  rw [← List.drop_drop, h]; rfl
theorem drop_lt {b : List Int} {p : Nat} {x : Int} {xs : List Int} (h : b.drop p = x :: xs) : p < b.length := by
  rcases Nat.lt_or_ge p b.length with h' | h'
  · exact h'
  · rw [List.drop_of_length_le h'] at h; cases h

theorem TU_range (b : List Int) (hb : Bs b) (p : Int) : 0 ≤ (TU b p).1 ∧ (TU b p).1 < 18446744073709551616 ∧ 0 ≤ (TU b p).2.1 ∧ (TU b p).2.1 ≤ b.length ∧ ((TU b p).2.2 ≠ 0 → (TU b p).1 = 0 ∧ (TU b p).2.1 = 0) ∧ ((TU b p).2.2 = 0 → 0 ≤ p ∧ p < (TU b p).2.1) := by
  unfold TU
  by_cases h : p < 0 ∨ p > (b.length : Int)
  · rw [if_pos h]; simp
  · rw [if_neg h]
    obtain ⟨r1, r2, r3, r4, r5, r6⟩ := tk_range (b.drop p.toNat) 0 0 (hb.drop _) (by omega) (by omega) (by decide)
    rw [List.length_drop] at r4
    unfold fin
    generalize tk (b.drop p.toNat) 0 0 = t at *
    by_cases e : t.2.2 = 0
    · rw [if_pos e]
      have := r6 e
      dsimp only
      refine ⟨r1, r2, by omega, by omega, fun h => absurd e h, fun _ => by omega⟩
    · rw [if_neg e]
      dsimp only
      refine ⟨r1, r2, by omega, by omega, fun h => ⟨(r5 h).1, rfl⟩, fun h => absurd h e⟩
end Go.Proofs.Ytmgljgmieomngaa.Oct
namespace Go.Proofs.Ytmgljgmieomngaa.Oct
open Go Go.RowKit Go.Proofs.YtmgljgmieomngaaW.PrintWords Go.Proofs.YtmgljgmieomngaaW.PrintMore Go.Proofs.Ytmgljgmieomngaa.Q
set_option linter.unusedVariables false

/-- the number that may be below 0 at a place -/
def TI (b : List Int) (p : Int) : Int × Int × Int := (unfold' (TU b p).1, (TU b p).2.1, (TU b p).2.2)

end Go.Proofs.Ytmgljgmieomngaa.Oct
namespace Go.Proofs.Ytmgljgmieomngaa.Oct
open Go Go.RowKit Go.Proofs.YtmgljgmieomngaaW.PrintWords Go.Proofs.YtmgljgmieomngaaW.PrintMore Go.Proofs.Ytmgljgmieomngaa.Q
set_option linter.unusedVariables false

/-- as many bytes as the number at a place says -/
def PT (b : List Int) (p most : Int) : List Int × Int × Int :=
  if (TU b p).2.2 = 0 then
    if (TU b p).1 > most then ([], 0, 6)
    else if (TU b p).1 > (b.length : Int) - (TU b p).2.1 then ([], 0, 3)
    else ((b.drop (TU b p).2.1.toNat).take (TU b p).1.toNat, (TU b p).2.1 + (TU b p).1, 0)
  else ([], 0, (TU b p).2.2)
def TX (s : ByteArray) : List Int × Int := if (s.size : Int) > 200 then ([], 6) else (uB 9 s.size ++ bytesOf s, 0)

theorem str_bytes (s : ByteArray) : strOfNums (bytesOf s) = s := by
  cases s with
  | mk d =>
    unfold strOfNums bytesOf
    congr 1
    simp only [List.map_map]
    have : (fun n : Int => UInt8.ofNat n.toNat) ∘ (fun b : UInt8 => (b.toNat : Int)) = id := by
      funext b
      simp
    rw [this]
    simp
theorem bytesOf_bs (s : ByteArray) : Bs (bytesOf s) := by
  intro x hx
  unfold bytesOf at hx
  obtain ⟨b, _, rfl⟩ := List.mem_map.mp hx
  have := b.toNat_lt
  omega
/-- bytes that are put behind their length are taken as they were -/
theorem PT_back (l : List Int) (most : Int) (hl : (l.length : Int) ≤ most) (hm : most ≤ 140737488355328) (a c : List Int) :
    PT (a ++ (uB 9 l.length ++ l) ++ c) a.length most = (l, (a.length : Int) + (uB 9 l.length ++ l).length, 0) := by
  have hT : TU (a ++ (uB 9 l.length ++ l) ++ c) a.length = ((l.length : Int), (a.length : Int) + (uB 9 l.length).length, 0) := by
    unfold TU
    rw [if_neg (by simp; omega), Int.toNat_natCast, List.append_assoc, List.drop_left, List.append_assoc, tk_uB 9 0 _ 0 (l ++ c) (by decide) (by omega) (by rw [pow64]; omega) (.inl rfl)]
    simp [fin]
  unfold PT
  rw [hT]
  simp only [if_true]
  rw [if_neg (by omega), if_neg (by simp; omega)]
  congr 1
  · rw [show ((a.length : Int) + (uB 9 l.length).length).toNat = (a ++ uB 9 l.length).length from by simp; omega]
    rw [show a ++ (uB 9 l.length ++ l) ++ c = (a ++ uB 9 l.length) ++ (l ++ c) from by simp, List.drop_left, Int.toNat_natCast, List.take_left]
  · congr 1
    simp
    omega
end Go.Proofs.Ytmgljgmieomngaa.Oct
namespace Go.Proofs.Ytmgljgmieomngaa.Oct
open Go Go.RowKit Go.Proofs.YtmgljgmieomngaaW.PrintWords
set_option linter.unusedVariables false
theorem order_self (w : Nat) (h : ((FloatKind.f64.format.read w).isNaN) = false) : FloatKind.f64.format.order w w = some .eq := by
  unfold Ieee.Format.order
  generalize FloatKind.f64.format.read w = d at *
  cases d with
  | number s m e => simp [Ieee.Datum.order]
  | infinity s => simp [Ieee.Datum.order]
  | nan s f => simp [Ieee.Datum.isNaN] at h
theorem fmt_sw : FloatKind.f64.format.signWeight = 9223372036854775808 := by decide +kernel
theorem fmt_bin : FloatKind.f64.format.binade = 4503599627370496 := by decide +kernel
theorem fmt_inf : FloatKind.f64.format.infRung = 9218868437227405312 := by decide +kernel
theorem fmt_lp : FloatKind.f64.format.leastPlace = -1074 := by decide +kernel
theorem read_word (neg : Bool) (rung : Nat) (h : rung ≤ 9218868437227405312) : ((FloatKind.f64.format.read (FloatKind.f64.format.word neg rung)).isNaN) = false := by
  unfold Ieee.Format.read Ieee.Format.word
  rw [fmt_sw, fmt_bin, fmt_inf]
  have e : (if neg = true then 9223372036854775808 + rung else rung) % 9223372036854775808 = rung := by split <;> omega
  simp only [e]
  split
  · rfl
  · split
    · rfl
    · rw [if_pos (by omega)]; rfl
theorem float_self (n : Int) : FloatKind.f64.format.order (floatOfInt .f64 n) (floatOfInt .f64 n) = some .eq := by
  apply order_self
  unfold floatOfInt FloatKind.nearest FloatKind.encode Ieee.Format.write Ieee.Format.nearest
  simp only
  split
  · exact read_word _ _ (by omega)
  · refine read_word _ _ ?_
    rw [fmt_inf]
    exact Nat.min_le_right _ _
end Go.Proofs.Ytmgljgmieomngaa.Oct
namespace Go.Proofs.Ytmgljgmieomngaa.Oct
open Go Go.RowKit Go.Proofs.YtmgljgmieomngaaW.PrintWords Go.Proofs.YtmgljgmieomngaaW.PrintMore Go.Proofs.Ytmgljgmieomngaa.Q
set_option linter.unusedVariables false
abbrev T7 := Int × Int × ByteArray × Bool × Cx × Int × Int
def Z7 (e : Int) : T7 := (0, 0, (⟨#[]⟩ : ByteArray), false, (⟨0, 0⟩ : Cx), 0, e)
/-- a point's part -/
def SD (b : List Int) (p : Int) : Int × Int × Int :=
  if (TI b p).2.2 = 0 then if (TI b p).1 < -1048576 ∨ (TI b p).1 > 1048576 then (0, 0, 6) else TI b p else (0, 0, (TI b p).2.2)
/-- the value at a place -/
def VT (b : List Int) (p : Int) : T7 :=
  if p < 0 ∨ p > (b.length : Int) then Z7 2
  else if p = (b.length : Int) then Z7 3
  else if rd b p = 1 then (if (TI b (p + 1)).2.2 = 0 then (1, (TI b (p + 1)).1, (⟨#[]⟩ : ByteArray), false, (⟨0, 0⟩ : Cx), (TI b (p + 1)).2.1, 0) else Z7 (TI b (p + 1)).2.2)
  else if rd b p = 2 then (if (PT b (p + 1) 200).2.2 = 0 then (2, 0, strOfNums (PT b (p + 1) 200).1, false, (⟨0, 0⟩ : Cx), (PT b (p + 1) 200).2.1, 0) else Z7 (PT b (p + 1) 200).2.2)
  else if rd b p = 3 then (if p + 1 = (b.length : Int) then Z7 3 else if rd b (p + 1) > 1 then Z7 4 else (3, 0, (⟨#[]⟩ : ByteArray), rd b (p + 1) == 1, (⟨0, 0⟩ : Cx), p + 2, 0))
  else if rd b p = 4 then (if (SD b (p + 1)).2.2 = 0 then
      (if (SD b (SD b (p + 1)).2.1).2.2 = 0 then (4, 0, (⟨#[]⟩ : ByteArray), false, (⟨floatOfInt .f64 (SD b (p + 1)).1, floatOfInt .f64 (SD b (SD b (p + 1)).2.1).1⟩ : Cx), (SD b (SD b (p + 1)).2.1).2.1, 0) else Z7 (SD b (SD b (p + 1)).2.1).2.2)
    else Z7 (SD b (p + 1)).2.2)
  else Z7 12
theorem rd_range (b : List Int) (hb : Bs b) (p : Int) (h0 : 0 ≤ p) (h1 : p < b.length) : 0 ≤ rd b p ∧ rd b p ≤ 255 := by
  obtain ⟨n, rfl⟩ : ∃ n : Nat, p = n := ⟨_, (Int.toNat_of_nonneg h0).symm⟩
  have hn : n < b.length := by omega
  have : rd b (n : Int) = b[n] := by unfold rd; rw [Int.toNat_natCast]; simp [List.getD_eq_getElem?_getD, hn]
  rw [this]
  exact hb _ (List.getElem_mem hn)
theorem SD_bad {b : List Int} {p : Int} (h : (TI b p).2.2 = 0) (h1 : (TI b p).1 < -1048576 ∨ (TI b p).1 > 1048576) : SD b p = (0, 0, 6) := by unfold SD; rw [if_pos h, if_pos h1]
theorem SD_ok {b : List Int} {p : Int} (h : (TI b p).2.2 = 0) (h1 : ¬ ((TI b p).1 < -1048576 ∨ (TI b p).1 > 1048576)) : SD b p = TI b p := by unfold SD; rw [if_pos h, if_neg h1]
theorem SD_err {b : List Int} {p : Int} (h : (TI b p).2.2 ≠ 0) : SD b p = (0, 0, (TI b p).2.2) := by unfold SD; rw [if_neg h]
theorem VT_cx (b : List Int) (p : Int) : FloatKind.f64.format.order (VT b p).2.2.2.2.1.re (VT b p).2.2.2.2.1.re = some .eq ∧ FloatKind.f64.format.order (VT b p).2.2.2.2.1.im (VT b p).2.2.2.2.1.im = some .eq := by
  have z : FloatKind.f64.format.order 0 0 = some .eq := by decide +kernel
  unfold VT
  repeat' split
  all_goals first | exact ⟨z, z⟩ | exact ⟨float_self _, float_self _⟩
end Go.Proofs.Ytmgljgmieomngaa.Oct
namespace Go.Proofs.Ytmgljgmieomngaa.Oct
open Go Go.RowKit Go.Proofs.YtmgljgmieomngaaW.PrintWords
set_option linter.unusedVariables false
theorem cut_even_one (neg : Bool) (n : Nat) : Ieee.Toward.even.cut neg n 0 = n := by
  unfold Ieee.Toward.cut
  simp [Nat.mod_one]
theorem cut_zero_pow (neg : Bool) (m d : Nat) : Ieee.Toward.zero.cut neg (m * 2 ^ d) d = m := by
  unfold Ieee.Toward.cut
  simp only [Bool.toNat_false, Nat.add_zero, Nat.shiftLeft_eq, Nat.one_mul]
  by_cases hm : m = 0
  · subst hm; simp
  · have h : d ≤ (m * 2 ^ d).log2 := by
      rw [Nat.le_log2 (Nat.mul_ne_zero hm (Nat.pos_iff_ne_zero.mp (Nat.pow_pos (by decide))))]
      exact Nat.le_mul_of_pos_left _ (by omega)
    rw [Nat.min_eq_left (by omega)]
    exact Nat.mul_div_cancel _ (Nat.pow_pos (by decide))
/-- what a whole number's float stands for -/
theorem read_float (n : Int) (h0 : -1048576 ≤ n) (h1 : n ≤ 1048576) :
    ∃ d : Nat, FloatKind.f64.format.read (floatOfInt .f64 n) = .number (decide (n < 0)) (n.natAbs * 2 ^ d) (-(d : Int)) := by
  unfold floatOfInt FloatKind.nearest FloatKind.encode Ieee.Format.write
  simp only
  by_cases hz : n = 0
  · subst hz
    exact ⟨1074, by decide +kernel⟩
  · have hm : n.natAbs ≠ 0 := by omega
    have hm2 : n.natAbs ≤ 1048576 := by omega
    generalize n.natAbs = m at hm hm2
    generalize decide (n < 0) = neg
    have hL : m.log2 ≤ 20 := by
      have : ¬ 21 ≤ m.log2 := by rw [Nat.le_log2 hm]; omega
      omega
    have hlo : 2 ^ m.log2 ≤ m := by have := (Nat.le_log2 hm (k := m.log2)).1 (Nat.le_refl _); exact this
    have hhi : m < 2 ^ (m.log2 + 1) := Nat.lt_log2_self
    refine ⟨52 - m.log2, ?_⟩
    unfold Ieee.Format.nearest
    rw [if_neg hm]
    generalize m.log2 = L at *
    have hfb : FloatKind.f64.format.fractionBits = 52 := rfl
    simp only [fmt_lp, hfb]
    rw [show max ((0 : Int) + (L : Int) - ((52 : Nat) : Int)) (-1074) = (L : Int) - 52 by omega]
    rw [show ((0 : Int) - ((L : Int) - 52)).toNat = 52 - L by omega, show ((L : Int) - 52 - 0).toNat = 0 by omega, cut_even_one, Nat.shiftLeft_eq]
    rw [show ((L : Int) - 52 - -1074).toNat = L + 1022 by omega, fmt_bin, fmt_inf]
    have k1 : 2 ^ L * 2 ^ (52 - L) = 4503599627370496 := by rw [← Nat.pow_add, show L + (52 - L) = 52 by omega]
    have k2 : 2 ^ (L + 1) * 2 ^ (52 - L) = 9007199254740992 := by rw [← Nat.pow_add, show L + 1 + (52 - L) = 53 by omega]
    have hlo' : 4503599627370496 ≤ m * 2 ^ (52 - L) := by rw [← k1]; exact Nat.mul_le_mul_right _ hlo
    have hhi' : m * 2 ^ (52 - L) < 9007199254740992 := by rw [← k2]; exact Nat.mul_lt_mul_of_pos_right hhi (Nat.pow_pos (by decide))
    generalize m * 2 ^ (52 - L) = K at *
    rw [Nat.min_eq_left (by omega)]
    unfold Ieee.Format.read Ieee.Format.word
    rw [fmt_sw, fmt_bin, fmt_inf, fmt_lp]
    have hr : (L + 1022) * 4503599627370496 + K < 9218868437227405312 := by omega
    obtain ⟨R, hR⟩ : ∃ R, R = (L + 1022) * 4503599627370496 + K := ⟨_, rfl⟩
    rw [← hR] at hr ⊢
    have e : (if neg = true then 9223372036854775808 + R else R) % 9223372036854775808 = R := by split <;> omega
    have e2 : ((if neg = true then 9223372036854775808 + R else R) / 9223372036854775808 % 2 == 1) = neg := by
      cases neg
      · simp; omega
      · simp; omega
    simp only [e, e2]
    rw [if_neg (by omega), if_pos hr]
    congr 1
    · omega
    · omega
theorem signed_pow (n : Int) (d e : Nat) : Ieee.signed (decide (n < 0)) (n.natAbs * 2 ^ d) e = n * 2 ^ (d + e) := by
  unfold Ieee.signed
  rw [Nat.shiftLeft_eq, Nat.mul_assoc, ← Nat.pow_add]
  have : ((n.natAbs * 2 ^ (d + e) : Nat) : Int) = (n.natAbs : Int) * 2 ^ (d + e) := by simp
  rw [this]
  by_cases h : n < 0
  · rw [if_pos (by simp [h]), show (n.natAbs : Int) = -n by omega, Int.neg_mul, Int.neg_neg]
  · rw [if_neg (by simp [h]), show (n.natAbs : Int) = n by omega]
theorem compare_scale (a b c : Int) (hc : 0 < c) : compare (a * c) (b * c) = compare a b := by
  have h1 : a * c < b * c ↔ a < b := Int.mul_lt_mul_right hc
  have h2 : a * c = b * c ↔ a = b := ⟨fun h => Int.eq_of_mul_eq_mul_right (by omega) h, fun h => by rw [h]⟩
  simp only [compare, compareOfLessAndEq, h1, h2]
theorem order_float (a b : Int) (ha0 : -1048576 ≤ a) (ha1 : a ≤ 1048576) (hb0 : -1048576 ≤ b) (hb1 : b ≤ 1048576) :
    FloatKind.f64.format.order (floatOfInt .f64 a) (floatOfInt .f64 b) = some (compare a b) := by
  obtain ⟨d, hd⟩ := read_float a ha0 ha1
  obtain ⟨e, he⟩ := read_float b hb0 hb1
  unfold Ieee.Format.order
  rw [hd, he]
  unfold Ieee.Datum.order
  simp only
  rw [signed_pow, signed_pow]
  by_cases h : d ≤ e
  · rw [show d + (-(d : Int) - min (-(d : Int)) (-(e : Int))).toNat = e by omega, show e + (-(e : Int) - min (-(d : Int)) (-(e : Int))).toNat = e by omega, compare_scale _ _ _ (Int.pow_pos (by decide))]
  · rw [show d + (-(d : Int) - min (-(d : Int)) (-(e : Int))).toNat = d by omega, show e + (-(e : Int) - min (-(d : Int)) (-(e : Int))).toNat = d by omega, compare_scale _ _ _ (Int.pow_pos (by decide))]
theorem toInt_float (n : Int) (h0 : -1048576 ≤ n) (h1 : n ≤ 1048576) : floatToIntVal .f64 (floatOfInt .f64 n) .i64 = some n := by
  obtain ⟨d, hd⟩ := read_float n h0 h1
  unfold floatToIntVal FloatKind.decode
  rw [hd]
  unfold Ieee.Datum.toInt Ieee.Datum.integral
  simp only [Int.neg_neg, Int.toNat_natCast]
  rw [show (-(d : Int)).toNat = 0 by omega, Nat.shiftLeft_zero, cut_zero_pow]
  have := signed_pow n 0 0
  simp only [Nat.pow_zero, Nat.mul_one, Nat.add_zero, Int.pow_zero, Int.mul_one] at this
  rw [this]
  show (if _ then _ else _) = _
  rw [if_pos]
  simp [IntKind.min, IntKind.max, IntKind.signed, IntKind.bits]
  omega
theorem fok_float (n : Int) (h0 : -1048576 ≤ n) (h1 : n ≤ 1048576) : fok (floatOfInt .f64 n) = true := by unfold fok; rw [toInt_float n h0 h1]; rfl
theorem ftoi_float (n : Int) (h0 : -1048576 ≤ n) (h1 : n ≤ 1048576) : ftoi (floatOfInt .f64 n) = n := by unfold ftoi; rw [toInt_float n h0 h1]; rfl
theorem bits_low : (13920626448202203136 : Nat) = floatOfInt .f64 (-1048576) := by decide +kernel
theorem bits_high : (4697254411347427328 : Nat) = floatOfInt .f64 1048576 := by decide +kernel
theorem compare_eq (n : Int) : compare n n = .eq := by simp [compare, compareOfLessAndEq]
theorem compare_lt_iff (a b : Int) : compare a b = .lt ↔ a < b := by
  simp only [compare, compareOfLessAndEq]
  by_cases h : a < b
  · simp [h]
  · by_cases h2 : a = b <;> simp [h, h2]
theorem compare_gt_iff (a b : Int) : compare a b = .gt ↔ b < a := by
  simp only [compare, compareOfLessAndEq]
  by_cases h : a < b
  · simp [h]; omega
  · by_cases h2 : a = b
    · simp [h2]
    · simp [h, h2]; omega
end Go.Proofs.Ytmgljgmieomngaa.Oct
namespace Go.Proofs.Ytmgljgmieomngaa.Oct
open Go Go.RowKit Go.Proofs.YtmgljgmieomngaaW.PrintWords Go.Proofs.YtmgljgmieomngaaW.PrintMore Go.Proofs.Ytmgljgmieomngaa.Q
set_option linter.unusedVariables false
theorem TU_once (b : List Int) (hb : Bs b) (p : Int) (h : (TU b p).2.2 = 0) : uB 9 (TU b p).1 = (b.take (TU b p).2.1.toNat).drop p.toNat := by
  unfold TU at *
  by_cases h1 : p < 0 ∨ p > (b.length : Int)
  · rw [if_pos h1] at h; simp at h
  · rw [if_neg h1] at h ⊢
    obtain ⟨v, c, e, hr⟩ : ∃ v c e, tk (b.drop p.toNat) 0 0 = (v, c, e) := ⟨_, _, _, rfl⟩
    rw [hr] at h ⊢
    simp only [fin] at h ⊢
    subst h
    obtain ⟨m, rest, e1, e2, e3, _, _, _⟩ := tk_once _ 0 0 v c (hb.drop _) (by omega) hr
    simp only [if_true]
    have e4 : v = m := by rw [e2]; simp
    rw [e4, List.drop_take, e1, show (p + c).toNat - p.toNat = (uB 9 m).length from by rw [e3]; simp; omega]
    simp
theorem TU_cut (n : Int) (h0 : 0 ≤ n) (h1 : n < 18446744073709551616) (a : List Int) (m : Nat) (hm : m < (uB 9 n).length) (q : Int) (hq : q = a.length) : TU (a ++ (uB 9 n).take m) q = (0, 0, 3) := by
  subst hq
  unfold TU
  rw [if_neg (by simp; omega), Int.toNat_natCast, List.drop_left, tk_cut 9 0 _ 0 m (by decide) (by omega) (by rw [pow64]; omega) hm]
  simp [fin]
theorem TU_at (n : Int) (h0 : 0 ≤ n) (h1 : n < 18446744073709551616) (a c : List Int) (q : Int) (hq : q = a.length) : TU (a ++ (uB 9 n ++ c)) q = (n, q + (uB 9 n).length, 0) := by
  subst hq
  unfold TU
  rw [if_neg (by simp; omega), Int.toNat_natCast, List.drop_left, tk_uB 9 0 _ 0 c (by decide) (by omega) (by rw [pow64]; omega) (.inl rfl)]
  simp [fin]
theorem PT_at (l : List Int) (most : Int) (hl : (l.length : Int) ≤ most) (hm : most ≤ 140737488355328) (a c : List Int) (q : Int) (hq : q = a.length) :
    PT (a ++ (uB 9 l.length ++ l ++ c)) q most = (l, q + (uB 9 l.length ++ l).length, 0) := by
  subst hq
  have := PT_back l most hl hm a c
  rwa [List.append_assoc] at this
theorem PT_cut (l : List Int) (most : Int) (hl : (l.length : Int) ≤ most) (hm : most ≤ 140737488355328) (a : List Int) (m : Nat) (hc : m < (uB 9 l.length ++ l).length) (q : Int) (hq : q = a.length) :
    PT (a ++ (uB 9 l.length ++ l).take m) q most = ([], 0, 3) := by
  rw [List.length_append] at hc
  unfold PT
  by_cases h : m < (uB 9 l.length).length
  · rw [List.take_append, show m - (uB 9 (l.length : Int)).length = 0 from by omega, List.take_zero, List.append_nil, TU_cut _ (by omega) (by omega) a m h q hq]
    simp
  · rw [List.take_append, List.take_of_length_le (by omega)]
    rw [TU_at _ (by omega) (by omega) a _ q hq]
    subst hq
    simp only [if_true]
    rw [if_neg (by omega), if_pos (by simp; omega)]
theorem split_at {b : List Int} {p n : Nat} (h : p ≤ n) (h2 : n ≤ b.length) : b = b.take p ++ ((b.take n).drop p ++ b.drop n) := by
  conv => lhs; rw [← List.take_append_drop n b]
  rw [← List.append_assoc]
  congr 1
  conv => lhs; rw [← List.take_append_drop p (b.take n)]
  rw [List.take_take, Nat.min_eq_left h]
theorem TU_word (b : List Int) (hb : Bs b) (p : Int) (h : (TU b p).2.2 = 0) : 0 ≤ p ∧ p ≤ b.length ∧ ∃ c, b = b.take p.toNat ++ (uB 9 (TU b p).1 ++ c) ∧ (TU b p).2.1 = p + (uB 9 (TU b p).1).length := by
  obtain ⟨r1, r2, r3, r4, _, r6⟩ := TU_range b hb p
  obtain ⟨r6, r7⟩ := r6 h
  have o := TU_once b hb p h
  refine ⟨r6, by omega, b.drop (TU b p).2.1.toNat, ?_, ?_⟩
  · rw [o]; exact split_at (by omega) (by omega)
  · rw [o, List.length_drop, List.length_take]; omega
theorem PT_word (b : List Int) (hb : Bs b) (p most : Int) (h : (PT b p most).2.2 = 0) :
    0 ≤ p ∧ p ≤ b.length ∧ ∃ c, b = b.take p.toNat ++ (uB 9 (PT b p most).1.length ++ (PT b p most).1 ++ c) ∧ (PT b p most).2.1 = p + (uB 9 (PT b p most).1.length ++ (PT b p most).1).length ∧ ((PT b p most).1.length : Int) ≤ most := by
  unfold PT at *
  by_cases e : (TU b p).2.2 = 0
  · obtain ⟨r1, r2, r3, r4, _, r6⟩ := TU_range b hb p
    obtain ⟨k0, k1, c, k2, k3⟩ := TU_word b hb p e
    rw [if_pos e] at h ⊢
    by_cases e1 : (TU b p).1 > most
    · rw [if_pos e1] at h; simp at h
    · rw [if_neg e1] at h ⊢
      by_cases e2 : (TU b p).1 > (b.length : Int) - (TU b p).2.1
      · rw [if_pos e2] at h; simp at h
      · rw [if_neg e2] at h ⊢
        refine ⟨k0, k1, b.drop ((TU b p).2.1.toNat + (TU b p).1.toNat), ?_, ?_, ?_⟩
        · have hl : (((b.drop (TU b p).2.1.toNat).take (TU b p).1.toNat).length : Int) = (TU b p).1 := by rw [List.length_take, List.length_drop]; omega
          simp only [hl]
          have hc : c = b.drop (TU b p).2.1.toNat := by
            have := congrArg (List.drop (TU b p).2.1.toNat) k2
            rw [this, ← List.append_assoc, List.drop_append, List.drop_of_length_le (by simp; omega)]
            rw [show (TU b p).2.1.toNat - (b.take p.toNat ++ uB 9 (TU b p).1).length = 0 by simp; omega]
            rfl
          rw [List.append_assoc, ← List.drop_drop, List.take_append_drop, ← hc]
          exact k2
        · have hl : ((b.drop (TU b p).2.1.toNat).take (TU b p).1.toNat).length = (TU b p).1.toNat := by rw [List.length_take, List.length_drop]; omega
          simp only [hl, List.length_append]
          rw [show (((TU b p).1.toNat : Nat) : Int) = (TU b p).1 by omega]
          omega
        · rw [List.length_take, List.length_drop]; omega
  · rw [if_neg e] at h; exact absurd h e
theorem rd_at (a : List Int) (x : Int) (t : List Int) (q : Int) (hq : q = a.length) : rd (a ++ (x :: t)) q = x := by
  subst hq
  unfold rd
  rw [Int.toNat_natCast]
  simp [List.getD_eq_getElem?_getD]
theorem cons_at {b : List Int} {p : Int} (h0 : 0 ≤ p) (h1 : p < b.length) : b = b.take p.toNat ++ (rd b p :: b.drop (p + 1).toNat) := by
  have h : p.toNat < b.length := by omega
  conv => lhs; rw [← List.take_append_drop p.toNat b]
  congr 1
  rw [List.drop_eq_getElem_cons h, show (p + 1).toNat = p.toNat + 1 by omega]
  congr 1
  unfold rd
  simp [List.getD_eq_getElem?_getD, h]
theorem take_succ_at {b : List Int} {p : Int} (h0 : 0 ≤ p) (h1 : p < b.length) : b.take (p + 1).toNat = b.take p.toNat ++ [rd b p] := by
  have h : p.toNat < b.length := by omega
  rw [show (p + 1).toNat = p.toNat + 1 by omega, List.take_add_one, List.getElem?_eq_getElem h]
  congr 1
  simp [rd, List.getD_eq_getElem?_getD, h]
/-- a right value without idle fields, and its bytes -/
inductive VC : Int → Int → ByteArray → Bool → Cx → List Int → Prop
  | whole (n : Int) (h0 : -9223372036854775808 ≤ n) (h1 : n ≤ 9223372036854775807) : VC 1 n (⟨#[]⟩ : ByteArray) false ⟨0, 0⟩ (1 :: uB 9 (fold n))
  | words (s : ByteArray) (l : List Int) (hl : l = bytesOf s) (h : (l.length : Int) ≤ 200) : VC 2 0 s false ⟨0, 0⟩ (2 :: (uB 9 l.length ++ l))
  | truth (x : Int) (t : Bool) (h : x = if t = true then 1 else 0) : VC 3 0 (⟨#[]⟩ : ByteArray) t ⟨0, 0⟩ [3, x]
  | point (x y : Int) (h0 : -1048576 ≤ x) (h1 : x ≤ 1048576) (h2 : -1048576 ≤ y) (h3 : y ≤ 1048576) : VC 4 0 (⟨#[]⟩ : ByteArray) false ⟨floatOfInt .f64 x, floatOfInt .f64 y⟩ (4 :: (uB 9 (fold x) ++ uB 9 (fold y)))
theorem bytes_str (l : List Int) (h : Bs l) : bytesOf (strOfNums l) = l := by
  unfold bytesOf strOfNums
  simp only [List.map_map]
  conv => rhs; rw [← List.map_id l]
  apply List.map_congr_left
  intro x hx
  have := h x hx
  simp
  omega
theorem PT_bs (b : List Int) (hb : Bs b) (p most : Int) : Bs (PT b p most).1 := by
  unfold PT
  split
  · split
    · exact Bs.nil
    · split
      · exact Bs.nil
      · exact (hb.drop _).take _
  · exact Bs.nil
theorem TI_word (b : List Int) (hb : Bs b) (p : Int) (h : (TI b p).2.2 = 0) :
    0 ≤ p ∧ p ≤ b.length ∧ -9223372036854775808 ≤ (TI b p).1 ∧ (TI b p).1 ≤ 9223372036854775807 ∧ ∃ c, b = b.take p.toNat ++ (uB 9 (fold (TI b p).1) ++ c) ∧ (TI b p).2.1 = p + (uB 9 (fold (TI b p).1)).length := by
  obtain ⟨r1, r2, _⟩ := TU_range b hb p
  obtain ⟨k0, k1, c, k2, k3⟩ := TU_word b hb p h
  have hu := unfold_range r1 r2
  refine ⟨k0, k1, hu.1, hu.2, c, ?_, ?_⟩
  · show b = b.take p.toNat ++ (uB 9 (fold (unfold' (TU b p).1)) ++ c)
    rw [fold_unfold _ r1]; exact k2
  · show (TU b p).2.1 = p + (uB 9 (fold (unfold' (TU b p).1))).length
    rw [fold_unfold _ r1]; exact k3
theorem TI_at (n : Int) (h0 : -9223372036854775808 ≤ n) (h1 : n ≤ 9223372036854775807) (a c : List Int) (q : Int) (hq : q = a.length) : TI (a ++ (uB 9 (fold n) ++ c)) q = (n, q + (uB 9 (fold n)).length, 0) := by
  have hf := fold_range h0 h1
  unfold TI
  rw [TU_at _ hf.1 hf.2 a c q hq, unfold_fold]
theorem TI_cut (n : Int) (h0 : -9223372036854775808 ≤ n) (h1 : n ≤ 9223372036854775807) (a : List Int) (m : Nat) (hm : m < (uB 9 (fold n)).length) (q : Int) (hq : q = a.length) : TI (a ++ (uB 9 (fold n)).take m) q = (0, 0, 3) := by
  have hf := fold_range h0 h1
  unfold TI
  rw [TU_cut _ hf.1 hf.2 a m hm q hq]
  rfl
theorem SD_word (b : List Int) (hb : Bs b) (p : Int) (h : (SD b p).2.2 = 0) :
    0 ≤ p ∧ p ≤ b.length ∧ -1048576 ≤ (SD b p).1 ∧ (SD b p).1 ≤ 1048576 ∧ ∃ c, b = b.take p.toNat ++ (uB 9 (fold (SD b p).1) ++ c) ∧ (SD b p).2.1 = p + (uB 9 (fold (SD b p).1)).length := by
  by_cases e : (TI b p).2.2 = 0
  · by_cases g : (TI b p).1 < -1048576 ∨ (TI b p).1 > 1048576
    · rw [SD_bad e g] at h; simp at h
    · rw [SD_ok e g]
      obtain ⟨k0, k1, _, _, c, k2⟩ := TI_word b hb p e
      exact ⟨k0, k1, by omega, by omega, c, k2⟩
  · rw [SD_err e] at h; exact absurd h e
theorem SD_at (n : Int) (h0 : -1048576 ≤ n) (h1 : n ≤ 1048576) (a c : List Int) (q : Int) (hq : q = a.length) : SD (a ++ (uB 9 (fold n) ++ c)) q = (n, q + (uB 9 (fold n)).length, 0) := by
  have := TI_at n (by omega) (by omega) a c q hq
  rw [SD_ok (by rw [this]) (by rw [this]; simp; omega), this]
theorem SD_cut (n : Int) (h0 : -1048576 ≤ n) (h1 : n ≤ 1048576) (a : List Int) (m : Nat) (hm : m < (uB 9 (fold n)).length) (q : Int) (hq : q = a.length) : SD (a ++ (uB 9 (fold n)).take m) q = (0, 0, 3) := by
  have := TI_cut n (by omega) (by omega) a m hm q hq
  rw [SD_err (by rw [this]; decide), this]
theorem next_at {b : List Int} {p : Nat} {w c : List Int} (h : b = b.take p ++ (w ++ c)) (hp : p ≤ b.length) : b.take (p + w.length) = b.take p ++ w := by
  have e : (b.take p ++ w).length = p + w.length := by simp; omega
  conv => lhs; rw [h, ← List.append_assoc, ← e, List.take_left]
theorem VT_ne {b : List Int} {p : Int} (h : (VT b p).2.2.2.2.2.2 = 0) : 0 ≤ p ∧ p < b.length := by
  unfold VT at h
  by_cases h0 : p < 0 ∨ p > (b.length : Int)
  · rw [if_pos h0] at h; exact absurd h (by decide)
  · rw [if_neg h0] at h
    by_cases h1 : p = (b.length : Int)
    · rw [if_pos h1] at h; exact absurd h (by decide)
    · omega
theorem Z7_err {e : Int} (h : (Z7 e).2.2.2.2.2.2 = 0) : e = 0 := h
/-- a value that is taken, its bytes, and what stands around them -/
theorem VT_word (b : List Int) (hb : Bs b) (p : Int) (h : (VT b p).2.2.2.2.2.2 = 0) :
    0 ≤ p ∧ p ≤ b.length ∧ ∃ w c, VC (VT b p).1 (VT b p).2.1 (VT b p).2.2.1 (VT b p).2.2.2.1 (VT b p).2.2.2.2.1 w ∧ b = b.take p.toNat ++ (w ++ c) ∧ (VT b p).2.2.2.2.2.1 = p + w.length := by
  obtain ⟨p0, p1⟩ := VT_ne h
  refine ⟨p0, by omega, ?_⟩
  have hc := cons_at p0 p1
  have ht := take_succ_at p0 p1
  unfold VT at h ⊢
  have n0 : ¬ (p < 0 ∨ p > (b.length : Int)) := by omega
  have n1 : ¬ p = (b.length : Int) := by omega
  rw [if_neg n0, if_neg n1] at h ⊢
  by_cases k1 : rd b p = 1
  · rw [if_pos k1] at h ⊢
    by_cases e : (TI b (p + 1)).2.2 = 0
    · rw [if_pos e] at h ⊢
      obtain ⟨_, _, g0, g1, c, g2, g3⟩ := TI_word b hb _ e
      refine ⟨_, c, VC.whole _ g0 g1, ?_, ?_⟩
      · rw [ht, k1] at g2
        conv => lhs; rw [g2]
        simp
      · simp only [List.length_cons]; rw [g3]; omega
    · rw [if_neg e] at h; exact absurd (Z7_err h) e
  · rw [if_neg k1] at h ⊢
    by_cases k2 : rd b p = 2
    · rw [if_pos k2] at h ⊢
      by_cases e : (PT b (p + 1) 200).2.2 = 0
      · rw [if_pos e] at h ⊢
        obtain ⟨_, _, c, g2, g3, g4⟩ := PT_word b hb _ _ e
        refine ⟨_, c, VC.words _ _ (bytes_str _ (PT_bs b hb _ _)).symm g4, ?_, ?_⟩
        · rw [ht, k2] at g2
          conv => lhs; rw [g2]
          simp
        · simp only [List.length_cons]; rw [g3]; omega
      · rw [if_neg e] at h; exact absurd (Z7_err h) e
    · rw [if_neg k2] at h ⊢
      by_cases k3 : rd b p = 3
      · rw [if_pos k3] at h ⊢
        by_cases e : p + 1 = (b.length : Int)
        · rw [if_pos e] at h; exact absurd h (by decide)
        · rw [if_neg e] at h ⊢
          by_cases g : rd b (p + 1) > 1
          · rw [if_pos g] at h; exact absurd h (by decide)
          · rw [if_neg g] at h ⊢
            have hc2 := cons_at (b := b) (p := p + 1) (by omega) (by omega)
            have hr := rd_range b hb (p + 1) (by omega) (by omega)
            refine ⟨_, b.drop (p + 1 + 1).toNat, VC.truth (rd b (p + 1)) _ ?_, ?_, ?_⟩
            · by_cases q : rd b (p + 1) = 1
              · simp [q]
              · simp [q]; omega
            · rw [ht, k3] at hc2
              conv => lhs; rw [hc2]
              simp
            · show p + 2 = p + (([3, rd b (p + 1)] : List Int).length : Int)
              simp
      · rw [if_neg k3] at h ⊢
        by_cases k4 : rd b p = 4
        · rw [if_pos k4] at h ⊢
          by_cases e : (SD b (p + 1)).2.2 = 0
          · rw [if_pos e] at h ⊢
            by_cases e2 : (SD b (SD b (p + 1)).2.1).2.2 = 0
            · rw [if_pos e2] at h ⊢
              obtain ⟨_, q1, g0, g1, c, g2, g3⟩ := SD_word b hb _ e
              obtain ⟨_, q2, g0', g1', c', g2', g3'⟩ := SD_word b hb _ e2
              refine ⟨_, c', VC.point _ _ g0 g1 g0' g1', ?_, ?_⟩
              · have hn : (SD b (p + 1)).2.1.toNat = (p + 1).toNat + (uB 9 (fold (SD b (p + 1)).1)).length := by omega
                have hh : b.take (SD b (p + 1)).2.1.toNat = b.take (p + 1).toNat ++ uB 9 (fold (SD b (p + 1)).1) := by
                  rw [hn]; exact next_at g2 (by omega)
                rw [hh, ht, k4] at g2'
                conv => lhs; rw [g2']
                simp
              · simp only [List.length_cons, List.length_append]; rw [g3', g3]; omega
            · rw [if_neg e2] at h; exact absurd (Z7_err h) e2
          · rw [if_neg e] at h; exact absurd (Z7_err h) e
        · rw [if_neg k4] at h; exact absurd h (by decide)
theorem VC.at {k n : Int} {s : ByteArray} {t : Bool} {c : Cx} {w : List Int} (h : VC k n s t c w) (a r : List Int) (q : Int) (hq : q = a.length) :
    VT (a ++ (w ++ r)) q = (k, n, s, t, c, q + w.length, 0) := by
  have hne : ∃ x u, w = x :: u := by cases h <;> exact ⟨_, _, rfl⟩
  obtain ⟨x, u, rfl⟩ := hne
  have n0 : ¬ (q < 0 ∨ q > ((a ++ (x :: u ++ r)).length : Int)) := by simp; omega
  have n1 : ¬ q = ((a ++ (x :: u ++ r)).length : Int) := by simp; omega
  have hr : rd (a ++ (x :: u ++ r)) q = x := by rw [List.cons_append]; exact rd_at a x _ q hq
  have hs : a ++ (x :: u ++ r) = (a ++ [x]) ++ (u ++ r) := by simp
  have hq1 : q + 1 = ((a ++ [x]).length : Int) := by simp; omega
  unfold VT
  rw [if_neg n0, if_neg n1, hr]
  cases h with
  | whole _ h0 h1 =>
    rw [if_pos rfl, hs, TI_at n h0 h1 _ r _ hq1, if_pos rfl]
    simp
    omega
  | words _ l hl h =>
    rw [if_neg (by decide), if_pos rfl, hs, PT_at l 200 h (by decide) _ r _ hq1, if_pos rfl]
    subst hl
    rw [str_bytes]
    simp
    omega
  | truth x t hx =>
    rw [if_neg (by decide), if_neg (by decide), if_pos rfl, if_neg (by simp; omega), hs, List.cons_append, rd_at (a ++ [3]) x _ _ hq1]
    have : ¬ x > 1 := by subst hx; split <;> omega
    rw [if_neg this]
    subst hx
    cases t <;> simp
  | point x y h0 h1 h2 h3 =>
    rw [if_neg (by decide), if_neg (by decide), if_neg (by decide), if_pos rfl, hs, List.append_assoc (uB 9 (fold x)), SD_at x h0 h1 _ _ _ hq1, if_pos rfl]
    simp only
    rw [show a ++ [4] ++ (uB 9 (fold x) ++ (uB 9 (fold y) ++ r)) = (a ++ [4] ++ uB 9 (fold x)) ++ (uB 9 (fold y) ++ r) by simp]
    rw [SD_at y h2 h3 _ r _ (by simp; omega), if_pos rfl]
    simp
    omega
theorem VC.cut {k n : Int} {s : ByteArray} {t : Bool} {c : Cx} {w : List Int} (h : VC k n s t c w) (a : List Int) (m : Nat) (hm : m < w.length) (q : Int) (hq : q = a.length) :
    VT (a ++ w.take m) q = Z7 3 := by
  have hne : ∃ x u, w = x :: u := by cases h <;> exact ⟨_, _, rfl⟩
  obtain ⟨x, u, rfl⟩ := hne
  by_cases hm0 : m = 0
  · subst hm0
    unfold VT
    rw [if_neg (by simp; omega), if_pos (by simp; omega)]
  obtain ⟨m, rfl⟩ : ∃ j, m = j + 1 := ⟨m - 1, by omega⟩
  rw [List.take_succ_cons]
  have n0 : ¬ (q < 0 ∨ q > ((a ++ (x :: u.take m)).length : Int)) := by simp; omega
  have n1 : ¬ q = ((a ++ (x :: u.take m)).length : Int) := by simp; omega
  have hr : rd (a ++ (x :: u.take m)) q = x := rd_at a x _ q hq
  have hs : a ++ (x :: u.take m) = (a ++ [x]) ++ u.take m := by simp
  have hq1 : q + 1 = ((a ++ [x]).length : Int) := by simp; omega
  have hm' : m < u.length := by simpa using hm
  unfold VT
  rw [if_neg n0, if_neg n1, hr]
  cases h with
  | whole _ h0 h1 => rw [if_pos rfl, hs, TI_cut n h0 h1 _ m hm' _ hq1, if_neg (by decide)]
  | words _ l hl h => rw [if_neg (by decide), if_pos rfl, hs, PT_cut l 200 h (by decide) _ m hm' _ hq1, if_neg (by decide)]
  | truth x t hx =>
    have : m = 0 := by simp at hm'; omega
    subst this
    rw [if_neg (by decide), if_neg (by decide), if_pos rfl, if_pos (by simp; omega)]
  | point x y h0 h1 h2 h3 =>
    rw [if_neg (by decide), if_neg (by decide), if_neg (by decide), if_pos rfl, hs]
    by_cases g : m < (uB 9 (fold x)).length
    · rw [List.take_append, show m - (uB 9 (fold x)).length = 0 by omega, List.take_zero, List.append_nil, SD_cut x h0 h1 _ m g _ hq1, if_neg (by decide)]
    · rw [List.take_append, List.take_of_length_le (by omega), SD_at x h0 h1 _ _ _ hq1, if_pos rfl]
      simp only
      rw [← List.append_assoc, SD_cut y h2 h3 _ _ (by simp at hm'; omega) _ (by simp; omega), if_neg (by decide)]
theorem VC.len {k n : Int} {s : ByteArray} {t : Bool} {c : Cx} {w : List Int} (h : VC k n s t c w) : 1 ≤ w.length ∧ w.length ≤ 300 := by
  cases h with
  | whole _ _ _ => have := uB_len 9 (fold n); simp; omega
  | words _ l _ h => have := uB_len 9 (l.length : Int); simp; omega
  | truth => simp
  | point x y => have := uB_len 9 (fold x); have := uB_len 9 (fold y); simp; omega
theorem VC.bs {k n : Int} {s : ByteArray} {t : Bool} {c : Cx} {w : List Int} (h : VC k n s t c w) : Bs w := by
  have hB : ∀ n : Int, -9223372036854775808 ≤ n → n ≤ 9223372036854775807 → Bs (uB 9 (fold n)) := fun n h0 h1 => by
    have hf := fold_range h0 h1
    exact uB_bytes 9 _ (by omega) (by rw [pow128]; omega)
  cases h with
  | whole _ h0 h1 => exact (hB n h0 h1).cons (by omega)
  | words _ l hl h => exact Bs.cons (by omega) ((uB_bytes 9 _ (by omega) (by rw [pow128]; omega)).append (by rw [hl]; exact bytesOf_bs s))
  | truth x t hx => exact Bs.cons (by omega) (Bs.cons (by subst hx; split <;> omega) Bs.nil)
  | point x y h0 h1 h2 h3 => exact Bs.cons (by omega) ((hB x (by omega) (by omega)).append (hB y (by omega) (by omega)))
theorem part_float (n : Int) (h0 : -1048576 ≤ n) (h1 : n ≤ 1048576) : value_part.f (floatOfInt .f64 n) = some (n, true) := by
  unfold value_part.f
  rw [bits_low, bits_high, order_float n _ h0 h1 (by decide) (by decide), order_float n _ h0 h1 (by decide) (by decide), order_float n n h0 h1 h0 h1, fok_float n h0 h1, ftoi_float n h0 h1, order_float n n h0 h1 h0 h1, compare_eq]
  have c1 : ¬ ((some (compare n (-1048576)) == some Ordering.lt) = true) := by
    intro h
    have h := eq_of_beq h
    have := (compare_lt_iff n (-1048576)).1 (Option.some.inj h)
    omega
  have c2 : ¬ ((some (compare n 1048576) == some Ordering.gt) = true) := by
    intro h
    have h := eq_of_beq h
    have := (compare_gt_iff n 1048576).1 (Option.some.inj h)
    omega
  rw [if_neg c1, if_neg c2]
  simp
theorem VC.check {k' n : Int} {s : ByteArray} {t : Bool} {c : Cx} {w : List Int} (h : VC k' n s t c w) (k : Nat) (hk : 1 ≤ k) : value_Check.f k k' n s t c = some 0 := by
  obtain ⟨k, rfl⟩ : ∃ m, k = m + 1 := ⟨k - 1, by omega⟩
  unfold value_Check.f
  cases h with
  | whole => simp [value_Check.j0]
  | words _ l hl h =>
    have : s.size = l.length := by rw [hl, bytesOf_length]
    simp [value_Check.j0]
    omega
  | truth => simp [value_Check.j0]
  | point x y h0 h1 h2 h3 =>
    simp only [value_Check.j0, value_parts.f, part_float x h0 h1, part_float y h2 h3]
    simp
end Go.Proofs.Ytmgljgmieomngaa.Oct
namespace Go.Proofs.Ytmgljgmieomngaa.Oct
open Go Go.RowKit Go.Proofs.YtmgljgmieomngaaW.PrintWords Go.Proofs.YtmgljgmieomngaaW.PrintMore Go.Proofs.Ytmgljgmieomngaa.Q
set_option linter.unusedVariables false
/-- a byte that may stand in a name, first or not -/
def okc (i c : Int) : Bool := decide (c ≥ 97 ∧ c ≤ 122) || decide (i > 0 ∧ (c ≥ 48 ∧ c ≤ 57 ∨ c = 45))
def nm (s : ByteArray) : Nat → Int → Bool
  | 0, _ => true
  | d + 1, i => okc i (bt s i) && nm s d (i + 1)
/-- which names are right -/
def NM (s : ByteArray) : Bool := decide (1 ≤ s.size ∧ s.size ≤ 16) && nm s s.size 0
theorem Name_l0 (s : ByteArray) (hs : s.size ≤ 16) : ∀ (d : Nat) (i : Nat) (k : Nat), i + d = s.size → 2 * d < k → event_Name.l0 k s (s.size : Int) (i : Int) = some (nm s d i)
  | 0, i, k, h, hk => by
    obtain ⟨k, rfl⟩ : ∃ m, k = m + 1 := ⟨k - 1, by omega⟩
    rw [event_Name.l0, if_neg (by omega)]
    rfl
  | d + 1, i, k, h, hk => by
    obtain ⟨k, rfl⟩ : ∃ m, k = m + 2 := ⟨k - 2, by omega⟩
    have ih := Name_l0 s hs d (i + 1) k (by omega) (by omega)
    have hw : wrap64 ((i : Int) + 1) = ((i + 1 : Nat) : Int) := by unfold wrap64; omega
    rw [event_Name.l0, if_pos (by omega), if_pos (by omega), if_pos (by omega)]
    have e : event_Name.l0 k s (s.size : Int) (wrap64 ((i : Int) + 1)) = some (nm s d ((i : Int) + 1)) := by
      rw [hw, ih]; simp
    simp only [event_Name.j2, e, nm]
    generalize bt s (i : Int) = c
    generalize nm s d ((i : Int) + 1) = r
    unfold okc
    repeat' split
    all_goals (simp at *; try omega)
    all_goals (intros; first | omega | (exfalso; omega) | skip)
theorem Name_f (s : ByteArray) (k : Nat) (hk : 40 ≤ k) : event_Name.f k s = some (NM s) := by
  obtain ⟨k, rfl⟩ : ∃ m, k = m + 1 := ⟨k - 1, by omega⟩
  unfold event_Name.f NM
  by_cases h0 : (s.size : Int) < 1
  · rw [if_pos h0, event_Name.j0, if_pos rfl, decide_eq_false (by omega)]
    rfl
  · rw [if_neg h0, event_Name.j0]
    by_cases h1 : (s.size : Int) > 16
    · rw [if_pos (decide_eq_true h1), decide_eq_false (by omega)]
      rfl
    · rw [if_neg (by simpa using h1), decide_eq_true (by omega)]
      have := Name_l0 s (by omega) s.size 0 k (by omega) (by omega)
      simpa using this
/-- what is wrong with a name behind another one -/
def NE (a s : ByteArray) : Int := if NM s = true then (if Op.bytesLess a.toList s.toList = true then 0 else 4) else 11
theorem name_f (a s : ByteArray) (k : Nat) (hk : 40 ≤ k) : event_name.f k a s = some (NE a s) := by
  unfold event_name.f NE
  rw [Name_f s k hk]
  simp only [Option.bind_some]
  repeat' split
  all_goals rfl
theorem NM_ne {s : ByteArray} (h : NM s = true) : s.toList ≠ [] := by
  intro e
  unfold NM at h
  have h1 := (Bool.and_eq_true _ _ ▸ h).1
  have h2 := of_decide_eq_true h1
  have h3 : s.toList.length = s.size := by rw [ByteArray.toList_eq, Array.length_toList]; rfl
  rw [e] at h3
  simp at h3
  omega
theorem nil_toList : (⟨#[]⟩ : ByteArray).toList = [] := by rw [ByteArray.toList_eq]
theorem less_nil {l : List UInt8} (h : l ≠ []) : Op.bytesLess [] l = true := by
  cases l with
  | nil => exact absurd rfl h
  | cons x xs => rfl
end Go.Proofs.Ytmgljgmieomngaa.Oct
namespace Go.Proofs.Ytmgljgmieomngaa.Oct
open Go Go.RowKit Go.Proofs.YtmgljgmieomngaaW.PrintWords Go.Proofs.YtmgljgmieomngaaW.PrintMore Go.Proofs.Ytmgljgmieomngaa.Q
set_option linter.unusedVariables false
set_option linter.unusedSimpArgs false
theorem VC.cx {k n : Int} {s : ByteArray} {t : Bool} {c : Cx} {w : List Int} (h : VC k n s t c w) : FloatKind.f64.format.order c.re c.re = some .eq ∧ FloatKind.f64.format.order c.im c.im = some .eq := by
  have z : FloatKind.f64.format.order 0 0 = some .eq := by decide +kernel
  cases h with
  | whole => exact ⟨z, z⟩
  | words => exact ⟨z, z⟩
  | truth => exact ⟨z, z⟩
  | point x y => exact ⟨float_self x, float_self y⟩

/-- may a comparison stand with a value of that kind -/
def KD (c kd : Int) : Bool := if c = 5 ∨ c = 6 ∨ c = 7 ∨ c = 8 then kd == 1 || kd == 2 else if c = 9 then kd == 2 else if c = 10 then kd == 4 else true
theorem one_two (kd : Int) : (if kd = 1 then some true else some (kd == 2)) = some (kd == 1 || kd == 2) := by
  by_cases h : kd = 1
  · subst h; rfl
  · rw [if_neg h]; have : (kd == 1) = false := by simpa using h
    rw [this]; rfl
theorem bare_f (c : Int) : pred_bare.f c = some (c == 1 || c == 2) := by
  unfold pred_bare.f
  exact one_two c
theorem kind_f (c kd : Int) (k : Nat) (hk : 1 ≤ k) : pred_kind.f k c kd = some (KD c kd) := by
  obtain ⟨k, rfl⟩ : ∃ m, k = m + 1 := ⟨k - 1, by omega⟩
  unfold pred_kind.f
  simp only [pred_kind.j0, one_two]
  by_cases h5 : c = 5
  · subst h5; rfl
  by_cases h6 : c = 6
  · subst h6; rfl
  by_cases h7 : c = 7
  · subst h7; rfl
  by_cases h8 : c = 8
  · subst h8; rfl
  have e8 : ¬ ((c == 8) = true) := by simpa using h8
  rw [if_neg h5, if_neg h6, if_neg h7, if_neg e8]
  unfold KD
  rw [if_neg (by omega : ¬ (c = 5 ∨ c = 6 ∨ c = 7 ∨ c = 8))]
  by_cases h9 : c = 9
  · rw [if_pos h9, if_pos h9]
  · rw [if_neg h9, if_neg h9]
    by_cases h10 : c = 10
    · rw [if_pos h10, if_pos h10]
    · rw [if_neg h10, if_neg h10]
/-- an atom that is right -/
def AT (c : Int) (nm : ByteArray) (kd n : Int) (s : ByteArray) (t : Bool) (x : Cx) (r : Int) : Prop :=
  NM nm = true ∧ 1 ≤ c ∧ c ≤ 10 ∧ (((c = 1 ∨ c = 2) ∧ x = ⟨0, 0⟩) ∨ (2 < c ∧ (∃ w, VC kd n s t x w) ∧ KD c kd = true ∧ (c = 10 → 0 ≤ r ∧ r ≤ 1048576)))
theorem atom_f {c : Int} {nm : ByteArray} {kd n : Int} {s : ByteArray} {t : Bool} {x : Cx} {r : Int} (h : AT c nm kd n s t x r) (k : Nat) (hk : 60 ≤ k) (o : Int) : pred_atom.f k o nm c kd n s t x r = some 0 := by
  obtain ⟨k, rfl⟩ : ∃ m, k = m + 1 := ⟨k - 1, by omega⟩
  obtain ⟨h1, h2, h3, h4⟩ := h
  unfold pred_atom.f
  rw [Name_f nm (k + 1) (by omega)]
  simp only [Option.bind_some, pred_atom.j0, bare_f]
  rw [if_pos h1, if_neg (by omega), if_neg (by simp; omega)]
  rcases h4 with ⟨h4, -⟩ | ⟨h4, ⟨w, hw⟩, h5, h6⟩
  · rw [if_pos (by simpa using h4)]
  · rw [if_neg (by simp; omega), hw.check k (by omega)]
    simp only [Option.bind_some, if_true, kind_f c kd k (by omega)]
    rw [if_pos h5]
    by_cases h10 : c = 10
    · obtain ⟨h7, h8⟩ := h6 h10
      rw [if_pos h10, if_neg (by omega), if_neg (by omega)]
    · rw [if_neg h10]
/-- a term that was taken -/
def OKT (t : S54) : Prop := 1 ≤ t.f0 ∧ t.f0 ≤ 6 ∧ (t.f0 ≠ 3 → t.f3.f4 = ⟨0, 0⟩) ∧ (t.f0 = 3 → AT t.f2 t.f1 t.f3.f0 t.f3.f1 t.f3.f2 t.f3.f3 t.f3.f4 t.f4)
theorem OKT.cx {t : S54} (h : OKT t) : FloatKind.f64.format.order t.f3.f4.re t.f3.f4.re = some .eq ∧ FloatKind.f64.format.order t.f3.f4.im t.f3.f4.im = some .eq := by
  have z : FloatKind.f64.format.order 0 0 = some .eq := by decide +kernel
  by_cases e : t.f0 = 3
  · obtain ⟨_, _, _, h4⟩ := h.2.2.2 e
    rcases h4 with ⟨_, h4⟩ | ⟨_, ⟨w, hw⟩, _⟩
    · rw [h4]; exact ⟨z, z⟩
    · exact hw.cx
  · rw [h.2.2.1 e]; exact ⟨z, z⟩
/-- what is wrong with a row of right terms -/
def CK : List S54 → Int → Int
  | [], n => if n = 1 then 0 else 4
  | t :: ts, n =>
    if t.f0 = 4 then (if n < 1 then 4 else CK ts n)
    else if t.f0 = 5 ∨ t.f0 = 6 then (if n < 2 then 4 else CK ts (n - 1))
    else (if n + 1 > 16 then 6 else CK ts (n + 1))
theorem rdT_drop {xs : List S54} {i : Nat} {t : S54} {ts : List S54} (h : xs.drop i = t :: ts) : rd_T54 xs (i : Int) = t ∧ i < xs.length ∧ xs.drop (i + 1) = ts := by
  have hi : i < xs.length := by
    rcases Nat.lt_or_ge i xs.length with h1 | h1
    · exact h1
    · rw [List.drop_eq_nil_of_le h1] at h; simp at h
  rw [List.drop_eq_getElem_cons hi] at h
  injection h with h1 h2
  refine ⟨?_, hi, h2⟩
  unfold rd_T54
  simp [List.getD_eq_getElem?_getD, hi, h1]
theorem Check_l0 (xs : List S54) (hx : ∀ t ∈ xs, OKT t) (hl : xs.length ≤ 48) : ∀ (rest : List S54) (i k : Nat) (n : Int), xs.drop i = rest → 0 ≤ n → n ≤ 16 → 100 + 3 * rest.length < k →
    pred_Check.l0 k n xs (xs.length : Int) (i : Int) = some (CK rest n)
  | [], i, k, n, h, h0, h1, hk => by
    obtain ⟨k, rfl⟩ : ∃ m, k = m + 1 := ⟨k - 1, by omega⟩
    have hi : xs.length ≤ i := List.drop_eq_nil_iff.1 h
    rw [pred_Check.l0, if_neg (by omega), CK]
    split <;> rfl
  | t :: ts, i, k, n, h, h0, h1, hk => by
    obtain ⟨k, rfl⟩ : ∃ m, k = m + 3 := ⟨k - 3, by simp at hk; omega⟩
    simp only [List.length_cons] at hk
    obtain ⟨e1, e2, e3⟩ := rdT_drop h
    have hw : wrap64 ((i : Int) + 1) = ((i + 1 : Nat) : Int) := by unfold wrap64; omega
    have ih := fun (m : Int) (hm0 : 0 ≤ m) (hm1 : m ≤ 16) => Check_l0 xs hx hl ts (i + 1) k m e3 hm0 hm1 (by omega)
    have hj : ∀ need : Int, 0 ≤ need → need ≤ 2 → pred_Check.j2 (k + 1) n need xs (xs.length : Int) (i : Int) = some (if n < need then 4 else if n + 1 - need > 16 then 6 else CK ts (n + 1 - need)) := by
      intro need g0 g1
      rw [pred_Check.j2, w64_id (x := 1 - need) (by omega) (by omega), w64_id (x := n + (1 - need)) (by omega) (by omega), hw, show n + (1 - need) = n + 1 - need by omega]
      by_cases c1 : n < need
      · rw [if_pos c1, if_pos c1]
      · rw [if_neg c1, if_neg c1]
        by_cases c2 : n + 1 - need > 16
        · rw [if_pos c2, if_pos c2]
        · rw [if_neg c2, if_neg c2]; exact ih _ (by omega) (by omega)
    have hj1 : pred_Check.j2 (k + 1) n 0 xs (xs.length : Int) (i : Int) = some (if n + 1 > 16 then 6 else CK ts (n + 1)) := by
      rw [hj 0 (by omega) (by omega), if_neg (by omega), Int.sub_zero]
    have hj4 : pred_Check.j2 (k + 1) n 1 xs (xs.length : Int) (i : Int) = some (if n < 1 then 4 else CK ts n) := by
      rw [hj 1 (by omega) (by omega), show n + 1 - 1 = n by omega, if_neg (by omega : ¬ (n > 16))]
    have hj5 : pred_Check.j2 (k + 1) n 2 xs (xs.length : Int) (i : Int) = some (if n < 2 then 4 else CK ts (n - 1)) := by
      rw [hj 2 (by omega) (by omega), show n + 1 - 2 = n - 1 by omega, if_neg (by omega : ¬ (n - 1 > 16))]
    have ho := hx t (by have : t ∈ xs.drop i := by rw [h]; exact List.mem_cons_self
                        exact List.mem_of_mem_drop this)
    rw [pred_Check.l0, if_pos (by omega), if_pos (by omega), if_pos (by omega), e1, CK]
    have hc : t.f0 = 1 ∨ t.f0 = 2 ∨ t.f0 = 3 ∨ t.f0 = 4 ∨ t.f0 = 5 ∨ t.f0 = 6 := by have := ho.1; have := ho.2.1; omega
    have hat : t.f0 = 3 → ∀ o, pred_atom.f (k + 1) o t.f1 t.f2 t.f3.f0 t.f3.f1 t.f3.f2 t.f3.f3 t.f3.f4 t.f4 = some 0 := fun e o => atom_f (ho.2.2.2 e) _ (by omega) o
    rcases hc with e | e | e | e | e | e
    · rw [e]; simp only [pred_Check.j1]; simp [hj1, hj4, hj5]
    · rw [e]; simp only [pred_Check.j1]; simp [hj1, hj4, hj5]
    · rw [e]; simp only [pred_Check.j1, hat e]; simp [hj1, hj4, hj5]
    · rw [e]; simp only [pred_Check.j1]; simp [hj1, hj4, hj5]
    · rw [e]; simp only [pred_Check.j1]; simp [hj1, hj4, hj5]
    · rw [e]; simp only [pred_Check.j1]; simp [hj1, hj4, hj5]
end Go.Proofs.Ytmgljgmieomngaa.Oct
namespace Go.Proofs.Ytmgljgmieomngaa.Oct
open Go Go.RowKit Go.Proofs.YtmgljgmieomngaaW.PrintWords Go.Proofs.YtmgljgmieomngaaW.PrintMore Go.Proofs.Ytmgljgmieomngaa.Q
set_option linter.unusedVariables false
set_option linter.unusedSimpArgs false
theorem Same_l0 (xs : List S54) (hx : ∀ t ∈ xs, OKT t) (hl : xs.length ≤ 48) : ∀ (rest : List S54) (i k : Nat), xs.drop i = rest → rest.length < k → grapevineref05_Same.l0 k xs xs (i : Int) = some true
  | [], i, k, h, hk => by
    obtain ⟨k, rfl⟩ : ∃ m, k = m + 1 := ⟨k - 1, by omega⟩
    have hi : xs.length ≤ i := List.drop_eq_nil_iff.1 h
    rw [grapevineref05_Same.l0, if_neg (by omega)]
  | t :: ts, i, k, h, hk => by
    obtain ⟨k, rfl⟩ : ∃ m, k = m + 1 := ⟨k - 1, by omega⟩
    simp only [List.length_cons] at hk
    obtain ⟨e1, e2, e3⟩ := rdT_drop h
    have hw : wrap64 ((i : Int) + 1) = ((i + 1 : Nat) : Int) := by unfold wrap64; omega
    have ho := (hx t (by have : t ∈ xs.drop i := by rw [h]; exact List.mem_cons_self
                         exact List.mem_of_mem_drop this)).cx
    rw [grapevineref05_Same.l0, if_pos (by omega), if_pos (by omega), if_pos (by omega), e1, ho.1, ho.2, if_neg (by simp), hw]
    exact Same_l0 xs hx hl ts (i + 1) k e3 (by omega)
theorem Same_f (xs : List S54) (hx : ∀ t ∈ xs, OKT t) (hl : xs.length ≤ 48) (k : Nat) (hk : 60 ≤ k) : grapevineref05_Same.f k xs xs = some true := by
  unfold grapevineref05_Same.f
  rw [if_pos rfl]
  exact Same_l0 xs hx hl xs 0 k rfl (by omega)
end Go.Proofs.Ytmgljgmieomngaa.Oct
namespace Go.Proofs.Ytmgljgmieomngaa.Pz
open Go Go.RowKit Go.Proofs.YtmgljgmieomngaaW.PrintWords Go.Proofs.YtmgljgmieomngaaW.PrintLast Go.Proofs.YtmgljgmieomngaaW.PrintMore Go.Proofs.Ytmgljgmieomngaa.Q Go.Proofs.Ytmgljgmieomngaa.Oct
set_option linter.unusedVariables false
theorem bt_ext (s : ByteArray) (a b : Nat) (hb : b ≤ s.size) (i : Int) (h0 : 0 ≤ i) (h1 : (a : Int) + i < b) : bt (s.extract a b) i = bt s (a + i) := by
  have hs : (s.extract a b).size = min b s.size - a := ByteArray.size_extract
  have hi : i.toNat < (s.extract a b).size := by rw [hs]; omega
  have hi2 : ((a : Int) + i).toNat < s.size := by omega
  rw [← bt_at (s.extract a b) i hi, ← bt_at s (a + i) hi2, ByteArray.getElem_extract]
  have e : ((a : Int) + i).toNat = a + i.toNat := by omega
  simp only [e]
theorem scan_all (f : Int → Bool) (s : ByteArray) : ∀ (d : Nat) (p i : Int), p ≤ i → i < scan f s d p → f (bt s i) = true
  | 0, p, i, h0, h1 => by rw [scan] at h1; omega
  | d + 1, p, i, h0, h1 => by
    rw [scan] at h1
    by_cases c : p < (s.size : Int)
    · rw [if_pos c] at h1
      by_cases e : f (bt s p) = true
      · rw [if_pos e] at h1
        by_cases g : i = p
        · rw [g]; exact e
        · exact scan_all f s d (p + 1) i (by omega) h1
      · rw [if_neg e] at h1; omega
    · rw [if_neg c] at h1; omega
theorem nm_of (s : ByteArray) : ∀ (d : Nat) (i : Int), (∀ j : Int, i ≤ j → j < i + d → okc j (bt s j) = true) → nm s d i = true
  | 0, i, h => rfl
  | d + 1, i, h => by
    rw [nm, h i (Int.le_refl _) (by omega), Bool.true_and]
    exact nm_of s d (i + 1) (fun j h0 h1 => h j (by omega) (by omega))
theorem nameF_nm {s : ByteArray} {p : Int} {r : Int × Wd} (h0 : 0 ≤ p) (h1 : p < (s.size : Int)) (hc : 97 ≤ bt s p ∧ bt s p ≤ 122) (h : nameF s p = .ok r) : NM r.2.tx = true := by
  unfold nameF at h
  simp only at h
  have hr := scan_bnd isNm s s.size p (by omega)
  have ha := scan_all isNm s s.size p
  have hx : p + 1 ≤ scan isNm s s.size p := by
    obtain ⟨d, hd⟩ : ∃ d, s.size = d + 1 := ⟨s.size - 1, by omega⟩
    have hi : isNm (bt s p) = true := by unfold isNm; simp; omega
    have e : scan isNm s s.size p = scan isNm s d (p + 1) := by
      conv => lhs; rw [hd]
      rw [scan, if_pos h1, if_pos hi]
    rw [e]
    exact (scan_bnd isNm s d (p + 1) (by omega)).1
  generalize scan isNm s s.size p = q at *
  by_cases c : 16 < q - p
  · rw [if_pos c] at h; simp at h
  · rw [if_neg c] at h
    injection h with h
    rw [← h]
    simp only
    have hsz : ((s.extract p.toNat q.toNat).size : Int) = q - p := by rw [ByteArray.size_extract]; omega
    unfold NM
    rw [Bool.and_eq_true]
    refine ⟨decide_eq_true (by omega), nm_of _ _ _ (fun j j0 j1 => ?_)⟩
    rw [bt_ext s p.toNat q.toNat (by omega) j j0 (by omega)]
    have e := ha ((p.toNat : Int) + j) (by omega) (by omega)
    unfold isNm at e
    unfold okc
    by_cases g : j = 0
    · subst g
      rw [show ((p.toNat : Int) + 0) = p by omega]
      simp; omega
    · simp at e ⊢; omega
/-- a right word -/
def Wk (w : Wd) : Prop := (w.kd = 110 → NM w.tx = true) ∧ (w.kd = 100 → -9223372036854775808 ≤ w.n ∧ w.n ≤ 9223372036854775807) ∧ (w.kd = 115 → (w.tx.size : Int) ≤ 200)
theorem w64_rng (x : Int) : -9223372036854775808 ≤ wrap64 x ∧ wrap64 x ≤ 9223372036854775807 := by unfold wrap64; omega
theorem strOfNums_size (l : List Int) : (strOfNums l).size = l.length := by
  unfold strOfNums
  simp [ByteArray.size]
theorem nextF_wk {s : ByteArray} {p : Int} {t : St} (h0 : 0 ≤ p) (h1 : p ≤ (s.size : Int)) (h : nextF s p = .ok t) : Wk t.w := by
  unfold nextF at h
  have hs := scan_bnd (fun c => c == 32) s s.size p h1
  simp only at h
  generalize scan (fun c => c == 32) s s.size p = q at *
  split at h
  · rename_i hq
    obtain ⟨a, e1, e2⟩ := Out.bind_ok h
    injection e2 with e2
    rw [← e2]
    simp only
    split at e1
    · rename_i hc
      have hn := nameF_nm (by omega) hq hc e1
      unfold nameF at e1
      simp only at e1
      split at e1
      · simp at e1
      · injection e1 with e1
        rw [← e1] at hn ⊢
        exact ⟨fun _ => hn, fun h => absurd h (by show ¬ (110 : Int) = 100; decide), fun h => absurd h (by show ¬ (110 : Int) = 115; decide)⟩
    · split at e1
      · unfold numF at e1
        simp only at e1
        generalize (if (bt s q == 45) = true then q + 1 else q) = f at e1
        generalize digs s s.size f 0 false = R at e1
        split at e1
        · simp at e1
        · split at e1
          · simp at e1
          · injection e1 with e1
            rw [← e1]
            refine ⟨fun h => absurd h (by show ¬ (100 : Int) = 110; decide), fun _ => ?_, fun h => absurd h (by show ¬ (100 : Int) = 115; decide)⟩
            show -9223372036854775808 ≤ (if (bt s q == 45) = true then wrap64 (IntKind.u64.wrap (-R.2.1)) else wrap64 R.2.1) ∧ (if (bt s q == 45) = true then wrap64 (IntKind.u64.wrap (-R.2.1)) else wrap64 R.2.1) ≤ 9223372036854775807
            split
            · exact w64_rng _
            · exact w64_rng _
      · split at e1
        · unfold strF at e1
          obtain ⟨b, e3, e4⟩ := Out.bind_ok e1
          split at e4
          · simp at e4
          · injection e4 with e4
            rw [← e4]
            refine ⟨fun h => absurd h (by show ¬ (115 : Int) = 110; decide), fun h => absurd h (by show ¬ (115 : Int) = 100; decide), fun _ => ?_⟩
            show ((strOfNums b.2).size : Int) ≤ 200
            rw [strOfNums_size]; omega
        · unfold markF at e1
          have hk : ∀ c : Int, (long3 c = true ∨ sign12 c = true) → c ≠ 110 ∧ c ≠ 100 ∧ c ≠ 115 := by
            intro c hc
            simp only [long3, sign12, Bool.or_eq_true, beq_iff_eq] at hc
            omega
          split at e1
          · rename_i h3
            have := hk _ (.inl h3)
            split at e1
            · injection e1 with e1; rw [← e1]; exact ⟨fun h => absurd h this.1, fun h => absurd h this.2.1, fun h => absurd h this.2.2⟩
            · injection e1 with e1; rw [← e1]; exact ⟨fun h => absurd h this.1, fun h => absurd h this.2.1, fun h => absurd h this.2.2⟩
          · split at e1
            · rename_i h12
              have := hk _ (.inr h12)
              injection e1 with e1; rw [← e1]; exact ⟨fun h => absurd h this.1, fun h => absurd h this.2.1, fun h => absurd h this.2.2⟩
            · simp at e1
  · injection h with h
    rw [← h]
    exact ⟨fun h => absurd h (by show ¬ (101 : Int) = 110; decide), fun h => absurd h (by show ¬ (101 : Int) = 100; decide), fun h => absurd h (by show ¬ (101 : Int) = 115; decide)⟩
theorem isF_wk {s : ByteArray} {c : Int} {t t' : St} {b : Bool} (hi : In s t) (hw : Wk t.w) (h : isF s c t = .ok (b, t')) : Wk t'.w := by
  unfold isF at h
  split at h
  · obtain ⟨a, e1, e2⟩ := Out.bind_ok h
    injection e2 with e2; injection e2 with _ e2; rw [← e2]; exact nextF_wk hi.1 hi.2 e1
  · injection h with h; injection h with _ h; rw [← h]; exact hw
theorem wantF_wk {s : ByteArray} {c : Int} {t t' : St} {u : Wd} (hi : In s t) (h : wantF s c t = .ok (u, t')) : Wk t'.w ∧ u = t.w ∧ u.kd = c := by
  unfold wantF at h
  split at h
  · rename_i hc
    obtain ⟨a, e1, e2⟩ := Out.bind_ok h
    injection e2 with e2; injection e2 with e3 e2; rw [← e2, ← e3]; exact ⟨nextF_wk hi.1 hi.2 e1, rfl, hc.1⟩
  · simp at h
theorem partF_wk {s : ByteArray} {t t' : St} {n : Int} (hi : In s t) (h : partF s t = .ok (n, t')) : Wk t'.w ∧ -1048576 ≤ n ∧ n ≤ 1048576 := by
  unfold partF at h
  split at h
  · split at h
    · simp at h
    · obtain ⟨a, e1, e2⟩ := Out.bind_ok h
      injection e2 with e2; injection e2 with e3 e2; rw [← e2, ← e3]; exact ⟨nextF_wk hi.1 hi.2 e1, by omega⟩
  · simp at h
/-- a right value -/
def VK (x : S43) : Prop := ∃ w, VC x.f0 x.f1 x.f2 x.f3 x.f4 w
theorem pointF_wk {s : ByteArray} {t t' : St} {x : S43} (hi : In s t) (h : pointF s t = .ok (x, t')) : Wk t'.w ∧ VK x ∧ x.f0 = 4 := by
  unfold pointF at h
  obtain ⟨⟨a1, t1⟩, e1, h⟩ := Out.bind_ok h
  obtain ⟨⟨a2, t2⟩, e2, h⟩ := Out.bind_ok h
  obtain ⟨⟨a3, t3⟩, e3, h⟩ := Out.bind_ok h
  obtain ⟨⟨a4, t4⟩, e4, h⟩ := Out.bind_ok h
  obtain ⟨⟨a5, t5⟩, e5, h⟩ := Out.bind_ok h
  injection h with h; injection h with h' h; subst h h'
  have i1 := wantF_in hi e1
  have i2 := partF_in i1.1 e2
  have i3 := wantF_in i2.1 e3
  have i4 := partF_in i3.1 e4
  have p2 := (partF_wk i1.1 e2).2
  have p4 := (partF_wk i3.1 e4).2
  exact ⟨(wantF_wk i4.1 e5).1, ⟨_, VC.point a2 a4 p2.1 p2.2 p4.1 p4.2⟩, rfl⟩
theorem plainF_wk {s : ByteArray} {b : Bool} {t t' : St} {x : S43} (hi : In s t) (hw : Wk t.w) (h : plainF s b t = .ok (x, t')) : Wk t'.w ∧ VK x ∧ (x.f0 = 1 ∨ x.f0 = 2) ∧ (b = true → x.f0 = 2) := by
  unfold plainF at h
  split at h
  · rename_i hc
    obtain ⟨a, e1, e2⟩ := Out.bind_ok h
    injection e2 with e2; injection e2 with e3 e2; rw [← e2, ← e3]
    have := hw.2.1 hc.1
    exact ⟨nextF_wk hi.1 hi.2 e1, ⟨_, VC.whole _ this.1 this.2⟩, .inl rfl, fun h => by rw [hc.2] at h; simp at h⟩
  · obtain ⟨⟨a1, t1⟩, e1, h⟩ := Out.bind_ok h
    injection h with h; injection h with h' h; subst h h'
    obtain ⟨w1, w2, w3⟩ := wantF_wk hi e1
    refine ⟨w1, ⟨_, VC.words _ _ rfl ?_⟩, .inr rfl, fun _ => rfl⟩
    rw [bytesOf_length]
    rw [w2] at w3 ⊢
    exact hw.2.2 w3
theorem anyF_wk {s : ByteArray} {t t' : St} {x : S43} (hi : In s t) (hw : Wk t.w) (h : anyF s t = .ok (x, t')) : Wk t'.w ∧ VK x := by
  unfold anyF at h
  split at h
  · have := pointF_wk hi h; exact ⟨this.1, this.2.1⟩
  · split at h
    · obtain ⟨a, e1, e2⟩ := Out.bind_ok h
      injection e2 with e2; injection e2 with e3 e2; rw [← e2, ← e3]
      exact ⟨nextF_wk hi.1 hi.2 e1, ⟨_, VC.truth _ _ rfl⟩⟩
    · have := plainF_wk hi hw h; exact ⟨this.1, this.2.1⟩
theorem cmp_rng (u : Wd) : 2 ≤ cmpF u ∧ cmpF u ≤ 10 := by
  unfold cmpF
  repeat' split
  all_goals omega
theorem atomF_wk {s nm : ByteArray} {t t' : St} {x : S54} (hi : In s t) (hw : Wk t.w) (hn : NM nm = true) (h : atomF s nm t = .ok (x, t')) : Wk t'.w ∧ OKT x := by
  have hcr := cmp_rng t.w
  unfold atomF at h
  simp only at h
  have ok : ∀ (c : Int) (v : S43) (r : Int), 2 < c → c ≤ 10 → VK v → KD c v.f0 = true → (c = 10 → 0 ≤ r ∧ r ≤ 1048576) → OKT ⟨3, nm, c, v, r⟩ := by
    intro c v r h1 h2 h3 h4 h5
    exact ⟨by show (1 : Int) ≤ 3; decide, by show (3 : Int) ≤ 6; decide, fun h => absurd rfl h, fun _ => ⟨hn, by show 1 ≤ c; omega, h2, .inr ⟨h1, h3, h4, h5⟩⟩⟩
  split at h
  · injection h with h; injection h with h' h; rw [← h, ← h']
    exact ⟨hw, by show (1 : Int) ≤ 3; decide, by show (3 : Int) ≤ 6; decide, fun h => absurd rfl h, fun _ => ⟨hn, by show (1 : Int) ≤ 2; decide, by show (2 : Int) ≤ 10; decide, .inl ⟨.inr rfl, rfl⟩⟩⟩
  · rename_i hc
    obtain ⟨t1, e1, h⟩ := Out.bind_ok h
    have i1 := (nextF_in hi.1 hi.2 e1).1
    have w1 := nextF_wk hi.1 hi.2 e1
    generalize cmpF t.w = c at *
    split at h
    · rename_i h34
      obtain ⟨⟨a, t2⟩, e2, h⟩ := Out.bind_ok h
      injection h with h; injection h with h' h; subst h h'
      have := anyF_wk i1 w1 e2
      refine ⟨this.1, ok c a 0 (by omega) (by omega) this.2 ?_ (fun e => by omega)⟩
      unfold KD
      rw [if_neg (by omega), if_neg (by omega), if_neg (by omega)]
    · split at h
      · rename_i h9
        obtain ⟨⟨a, t2⟩, e2, h⟩ := Out.bind_ok h
        injection h with h; injection h with h' h; subst h h'
        have := plainF_wk i1 w1 e2
        refine ⟨this.1, ok c a 0 (by omega) (by omega) this.2.1 ?_ (fun e => by omega)⟩
        unfold KD
        rw [if_neg (by omega), if_pos h9]
        simpa using this.2.2.2 rfl
      · split at h
        · rename_i h10
          obtain ⟨⟨a, t2⟩, e2, h⟩ := Out.bind_ok h
          obtain ⟨⟨b, t3⟩, e3, h⟩ := Out.bind_ok h
          split at h
          · simp at h
          · rename_i hr
            obtain ⟨⟨d, t4⟩, e4, h⟩ := Out.bind_ok h
            injection h with h; injection h with h' h; subst h h'
            have p2 := pointF_wk i1 e2
            have i2 := (pointF_in i1 e2).1
            have i3 := (wantF_in i2 e3).1
            obtain ⟨w4, w5, w6⟩ := wantF_wk i3 e4
            refine ⟨w4, ok c a _ (by omega) (by omega) p2.2.1 ?_ (fun _ => ?_)⟩
            · unfold KD
              rw [if_neg (by omega), if_neg (by omega), if_pos h10]
              simpa using p2.2.2
            · simp only at hr
              show 0 ≤ d.n ∧ d.n ≤ 1048576
              rw [w5] at w6 ⊢
              omega
        · rename_i hn34 hn9 hn10
          obtain ⟨⟨a, t2⟩, e2, h⟩ := Out.bind_ok h
          injection h with h; injection h with h' h; subst h h'
          have := plainF_wk i1 w1 e2
          refine ⟨this.1, ok c a 0 (by omega) (by omega) this.2.1 ?_ (fun e => absurd e hn10)⟩
          unfold KD
          rw [if_pos (by omega)]
          rcases this.2.2.1 with e | e <;> rw [e] <;> rfl
theorem op54_ok {c : Int} (h1 : 1 ≤ c) (h2 : c ≤ 6) (h3 : c ≠ 3) : OKT (op54 c) := ⟨h1, h2, fun _ => rfl, fun h => absurd h h3⟩
def OkM (o : Out (List S54 × St)) : Prop := ∀ l t', o = .ok (l, t') → (∀ x ∈ l, OKT x) ∧ Wk t'.w
theorem pr_ok (s : ByteArray) : ∀ (k : Nat) (m : Md) (t : St) (o : Out (List S54 × St)), Iw s t → Wk t.w → pr s k m t = some o → OkM o
  | 0, m, t, o, hi, hw, h => by simp [pr] at h
  | k + 1, .unit, t, o, hi, hw, h => by
    intro l t' ho
    subst ho
    rcases pr_unit h with ⟨p, e, _, h⟩ | ⟨t1, o1, a1, a2, a3⟩ | ⟨-, h⟩
    · simp at h
    · obtain ⟨⟨l1, t2⟩, b1, b2⟩ := Out.bind_ok a3.symm
      injection b2 with b2; injection b2 with b2 b3; subst b2 b3
      have u1 := isF_up hi (by decide) a1
      have u2 := pr_ok s k .unit t1 o1 u1.1 (isF_wk hi.1 hw a1) a2 l1 t2 b1
      refine ⟨fun x hx => ?_, u2.2⟩
      rcases List.mem_append.1 hx with hx | hx
      · exact u2.1 x hx
      · rw [List.mem_singleton.1 hx]; exact op54_ok (by decide) (by decide) (by decide)
    rcases h with ⟨p, e, _, h⟩ | ⟨t1, o1, a1, a2, a3⟩ | ⟨-, h⟩
    · simp at h
    · obtain ⟨⟨l1, t2⟩, b1, b2⟩ := Out.bind_ok a3.symm
      obtain ⟨⟨a, t3⟩, b3, b4⟩ := Out.bind_ok b2
      injection b4 with b4; injection b4 with b4 b5; subst b4 b5
      have u1 := isF_up hi (by decide) a1
      have u2 := pr_ok s k .sum t1 o1 u1.1 (isF_wk hi.1 hw a1) a2 l1 t2 b1
      have u3 := pr_up s k .sum t1 o1 u1.1 a2 l1 t2 b1
      exact ⟨u2.1, (wantF_wk u3.1.1 b3).1⟩
    rcases h with ⟨p, e, _, h⟩ | ⟨t1, a1, a3⟩ | ⟨-, h⟩
    · simp at h
    · injection a3 with a3; injection a3 with a3 a4; subst a3 a4
      exact ⟨fun x hx => by rw [List.mem_singleton.1 hx]; exact op54_ok (by decide) (by decide) (by decide), isF_wk hi.1 hw a1⟩
    rcases h with ⟨p, e, _, h⟩ | ⟨t1, a1, a3⟩ | ⟨-, h⟩
    · simp at h
    · injection a3 with a3; injection a3 with a3 a4; subst a3 a4
      exact ⟨fun x hx => by rw [List.mem_singleton.1 hx]; exact op54_ok (by decide) (by decide) (by decide), isF_wk hi.1 hw a1⟩
    rcases h with ⟨p, e, _, h⟩ | ⟨t1, a1, a3⟩ | ⟨-, h⟩
    · simp at h
    · obtain ⟨⟨a, t2⟩, b1, b2⟩ := Out.bind_ok a3.symm
      injection b2 with b2; injection b2 with b2 b3; subst b2 b3
      have u1 := isF_up hi (by decide) a1
      obtain ⟨w1, w2, w3⟩ := wantF_wk u1.1.1 b1
      have hn : NM a.tx = true := by rw [w2] at w3 ⊢; exact (isF_wk hi.1 hw a1).1 w3
      exact ⟨fun x hx => by
        rw [List.mem_singleton.1 hx]
        exact ⟨by show (1 : Int) ≤ 3; decide, by show (3 : Int) ≤ 6; decide, fun h => absurd rfl h, fun _ => ⟨hn, by show (1 : Int) ≤ 1; decide, by show (1 : Int) ≤ 10; decide, .inl ⟨.inl rfl, rfl⟩⟩⟩, w1⟩
    · obtain ⟨⟨a, t2⟩, b1, b2⟩ := Out.bind_ok h.symm
      obtain ⟨⟨x, t3⟩, b3, b4⟩ := Out.bind_ok b2
      injection b4 with b4; injection b4 with b4 b5; subst b4 b5
      obtain ⟨w1, w2, w3⟩ := wantF_wk hi.1 b1
      have hn : NM a.tx = true := by rw [w2] at w3 ⊢; exact hw.1 w3
      have := atomF_wk (wantF_in hi.1 b1).1 w1 hn b3
      exact ⟨fun y hy => by rw [List.mem_singleton.1 hy]; exact this.2, this.1⟩
  | k + 1, .sum, t, o, hi, hw, h => by
    intro l t' ho
    obtain ⟨o1, a1, a2, a3⟩ := pr_sum h
    cases o1 with
    | bad p e => have := a2 p e rfl; rw [ho] at this; simp at this
    | ok r =>
      obtain ⟨l1, t1⟩ := r
      obtain ⟨o2, b1, b2, b3⟩ := a3 l1 t1 rfl
      have u1 := pr_up s k .unit t _ hi a1 l1 t1 rfl
      have v1 := pr_ok s k .unit t _ hi hw a1 l1 t1 rfl
      cases o2 with
      | bad p e => have := b2 p e rfl; rw [ho] at this; simp at this
      | ok r =>
        obtain ⟨l2, t2⟩ := r
        obtain ⟨o3, c1, c2⟩ := b3 l2 t2 rfl
        have u2 := pr_up s k .alls t1 _ u1.1 b1 l2 t2 rfl
        have v2 := pr_ok s k .alls t1 _ u1.1 v1.2 b1 l2 t2 rfl
        rw [ho] at c2
        obtain ⟨⟨l3, t3⟩, d1, d2⟩ := Out.bind_ok c2.symm
        injection d2 with d2; injection d2 with d2 d3; subst d3
        have v3 := pr_ok s k .sums t2 _ u2.1 v2.2 c1 l3 t3 d1
        refine ⟨fun x hx => ?_, v3.2⟩
        rw [← d2] at hx
        simp only [List.nil_append, List.append_nil, List.mem_append] at hx
        rcases hx with (hx | hx) | hx
        · exact v1.1 x hx
        · exact v2.1 x hx
        · exact v3.1 x hx
  | k + 1, .alls, t, o, hi, hw, h => by
    intro l t' ho
    rw [pr] at h
    cases h1 : isF s 38 t with
    | bad p e => rw [h1] at h; injection h with h; rw [ho] at h; simp at h
    | ok r =>
      obtain ⟨b, t1⟩ := r
      cases b with
      | false =>
        rw [h1] at h; injection h with h; rw [ho] at h; injection h with h; injection h with h h'; subst h h'
        exact ⟨by simp, hw⟩
      | true =>
        rw [h1] at h
        simp only at h
        obtain ⟨o1, f1, h⟩ := bind_some' h
        have u1 := isF_up hi (by decide) h1
        cases o1 with
        | bad p e => injection h with h; rw [ho] at h; simp at h
        | ok r =>
          obtain ⟨l1, t2⟩ := r
          simp only at h
          obtain ⟨o2, f2, h⟩ := bind_some' h
          injection h with h; rw [ho] at h
          obtain ⟨⟨l2, t3⟩, d1, d2⟩ := Out.bind_ok h
          injection d2 with d2; injection d2 with d2 d3; subst d2 d3
          have u2 := pr_up s k .unit t1 _ u1.1 f1 l1 t2 rfl
          have v2 := pr_ok s k .unit t1 _ u1.1 (isF_wk hi.1 hw h1) f1 l1 t2 rfl
          have v3 := pr_ok s k .alls t2 _ u2.1 v2.2 f2 l2 t3 d1
          refine ⟨fun x hx => ?_, v3.2⟩
          simp only [List.mem_append, List.mem_singleton] at hx
          rcases hx with (hx | hx) | hx
          · exact v2.1 x hx
          · rw [hx]; exact op54_ok (by decide) (by decide) (by decide)
          · exact v3.1 x hx
  | k + 1, .sums, t, o, hi, hw, h => by
    intro l t' ho
    rw [pr] at h
    cases h1 : isF s 124 t with
    | bad p e => rw [h1] at h; injection h with h; rw [ho] at h; simp at h
    | ok r =>
      obtain ⟨b, t1⟩ := r
      cases b with
      | false =>
        rw [h1] at h; injection h with h; rw [ho] at h; injection h with h; injection h with h h'; subst h h'
        exact ⟨by simp, hw⟩
      | true =>
        rw [h1] at h
        simp only at h
        obtain ⟨o1, f1, h⟩ := bind_some' h
        have u1 := isF_up hi (by decide) h1
        cases o1 with
        | bad p e => injection h with h; rw [ho] at h; simp at h
        | ok r =>
          obtain ⟨l1, t2⟩ := r
          simp only at h
          obtain ⟨o2, f2, h⟩ := bind_some' h
          have u2 := pr_up s k .unit t1 _ u1.1 f1 l1 t2 rfl
          have v2 := pr_ok s k .unit t1 _ u1.1 (isF_wk hi.1 hw h1) f1 l1 t2 rfl
          cases o2 with
          | bad p e => injection h with h; rw [ho] at h; simp at h
          | ok r =>
            obtain ⟨l2, t3⟩ := r
            simp only at h
            obtain ⟨o3, f3, h⟩ := bind_some' h
            injection h with h; rw [ho] at h
            obtain ⟨⟨l3, t4⟩, d1, d2⟩ := Out.bind_ok h
            injection d2 with d2; injection d2 with d2 d3; subst d2 d3
            have u3 := pr_up s k .alls t2 _ u2.1 f2 l2 t3 rfl
            have v3 := pr_ok s k .alls t2 _ u2.1 v2.2 f2 l2 t3 rfl
            have v4 := pr_ok s k .sums t3 _ u3.1 v3.2 f3 l3 t4 d1
            refine ⟨fun x hx => ?_, v4.2⟩
            simp only [List.mem_append, List.mem_singleton] at hx
            rcases hx with ((hx | hx) | hx) | hx
            · exact v2.1 x hx
            · exact v3.1 x hx
            · rw [hx]; exact op54_ok (by decide) (by decide) (by decide)
            · exact v4.1 x hx
/-- enough rounds for a UNIT, .. at a place -/
def need (m : Md) : Nat := match m with | .sum => 2 | _ => 1
theorem pr_tot (s : ByteArray) : ∀ (k : Nat) (m : Md) (t : St), Iw s t → 2 * ((s.size : Int) - t.w.pl) + need m ≤ k → ∃ o, pr s k m t = some o
  | 0, m, t, hi, h => by
    have := hi.1.2; have := hi.2.2.1
    exfalso
    cases m <;> simp only [need] at h <;> omega
  | k + 1, .unit, t, hi, h => by
    simp only [need] at h
    have hU : ∀ t1, Iw s t1 → t.w.pl + 1 ≤ t1.w.pl → ∃ o, pr s k .unit t1 = some o := fun t1 h1 h2 => pr_tot s k .unit t1 h1 (by simp only [need]; omega)
    have hS : ∀ t1, Iw s t1 → t.w.pl + 1 ≤ t1.w.pl → ∃ o, pr s k .sum t1 = some o := fun t1 h1 h2 => pr_tot s k .sum t1 h1 (by simp only [need]; omega)
    rw [pr]
    cases h1 : isF s 33 t with
    | bad p e => exact ⟨_, rfl⟩
    | ok r =>
      obtain ⟨b, t1⟩ := r
      cases b with
      | true => have u := isF_up hi (by decide) h1; obtain ⟨o, ho⟩ := hU t1 u.1 u.2; exact ⟨_, by simp only [ho, Option.bind_some]; rfl⟩
      | false =>
        simp only
        cases h2 : isF s 40 t with
        | bad p e => exact ⟨_, rfl⟩
        | ok r =>
          obtain ⟨b, t1⟩ := r
          cases b with
          | true => have u := isF_up hi (by decide) h2; obtain ⟨o, ho⟩ := hS t1 u.1 u.2; exact ⟨_, by simp only [ho, Option.bind_some]; rfl⟩
          | false =>
            simp only
            cases h3 : isF s 42 t with
            | bad p e => exact ⟨_, rfl⟩
            | ok r =>
              obtain ⟨b, t1⟩ := r
              cases b with
              | true => exact ⟨_, rfl⟩
              | false =>
                simp only
                cases h4 : isF s 35 t with
                | bad p e => exact ⟨_, rfl⟩
                | ok r =>
                  obtain ⟨b, t1⟩ := r
                  cases b with
                  | true => exact ⟨_, rfl⟩
                  | false =>
                    simp only
                    cases h5 : isF s 63 t with
                    | bad p e => exact ⟨_, rfl⟩
                    | ok r =>
                      obtain ⟨b, t1⟩ := r
                      cases b <;> exact ⟨_, rfl⟩
  | k + 1, .sum, t, hi, h => by
    simp only [need] at h
    rw [pr]
    obtain ⟨o1, h1⟩ := pr_tot s k .unit t hi (by simp only [need]; omega)
    rw [h1]
    simp only [Option.bind_some]
    cases o1 with
    | bad p e => exact ⟨_, rfl⟩
    | ok r =>
      obtain ⟨l1, t1⟩ := r
      obtain ⟨i1, -, d1⟩ := pr_up s k .unit t _ hi h1 l1 t1 rfl
      simp only at d1 ⊢
      obtain ⟨o2, h2⟩ := pr_tot s k .alls t1 i1 (by simp only [need]; omega)
      rw [h2]
      simp only [Option.bind_some]
      cases o2 with
      | bad p e => exact ⟨_, rfl⟩
      | ok r =>
        obtain ⟨l2, t2⟩ := r
        obtain ⟨i2, -, d2⟩ := pr_up s k .alls t1 _ i1 h2 l2 t2 rfl
        simp only at d2 ⊢
        obtain ⟨o3, h3⟩ := pr_tot s k .sums t2 i2 (by simp only [need]; omega)
        rw [h3]
        exact ⟨_, rfl⟩
  | k + 1, .alls, t, hi, h => by
    simp only [need] at h
    rw [pr]
    cases h1 : isF s 38 t with
    | bad p e => exact ⟨_, rfl⟩
    | ok r =>
      obtain ⟨b, t1⟩ := r
      cases b with
      | false => exact ⟨_, rfl⟩
      | true =>
        have u := isF_up hi (by decide) h1
        simp only
        obtain ⟨o1, h2⟩ := pr_tot s k .unit t1 u.1 (by simp only [need]; omega)
        rw [h2]
        simp only [Option.bind_some]
        cases o1 with
        | bad p e => exact ⟨_, rfl⟩
        | ok r =>
          obtain ⟨l1, t2⟩ := r
          obtain ⟨i1, -, d1⟩ := pr_up s k .unit t1 _ u.1 h2 l1 t2 rfl
          simp only at d1 ⊢
          obtain ⟨o2, h3⟩ := pr_tot s k .alls t2 i1 (by simp only [need]; omega)
          rw [h3]
          exact ⟨_, rfl⟩
  | k + 1, .sums, t, hi, h => by
    simp only [need] at h
    rw [pr]
    cases h1 : isF s 124 t with
    | bad p e => exact ⟨_, rfl⟩
    | ok r =>
      obtain ⟨b, t1⟩ := r
      cases b with
      | false => exact ⟨_, rfl⟩
      | true =>
        have u := isF_up hi (by decide) h1
        simp only
        obtain ⟨o1, h2⟩ := pr_tot s k .unit t1 u.1 (by simp only [need]; omega)
        rw [h2]
        simp only [Option.bind_some]
        cases o1 with
        | bad p e => exact ⟨_, rfl⟩
        | ok r =>
          obtain ⟨l1, t2⟩ := r
          obtain ⟨i1, -, d1⟩ := pr_up s k .unit t1 _ u.1 h2 l1 t2 rfl
          simp only at d1 ⊢
          obtain ⟨o2, h3⟩ := pr_tot s k .alls t2 i1 (by simp only [need]; omega)
          rw [h3]
          simp only [Option.bind_some]
          cases o2 with
          | bad p e => exact ⟨_, rfl⟩
          | ok r =>
            obtain ⟨l2, t3⟩ := r
            obtain ⟨i2, -, d2⟩ := pr_up s k .alls t2 _ i1 h3 l2 t3 rfl
            simp only at d2 ⊢
            obtain ⟨o3, h4⟩ := pr_tot s k .sums t3 i2 (by simp only [need]; omega)
            rw [h4]
            exact ⟨_, rfl⟩
end Go.Proofs.Ytmgljgmieomngaa.Pz
namespace Go.Proofs.Ytmgljgmieomngaa.Pz
open Go Go.RowKit Go.Proofs.YtmgljgmieomngaaW.PrintWords Go.Proofs.YtmgljgmieomngaaW.PrintLast Go.Proofs.YtmgljgmieomngaaW.PrintMore Go.Proofs.Ytmgljgmieomngaa.Q Go.Proofs.Ytmgljgmieomngaa.Oct
set_option linter.unusedVariables false
/-- one text stands in the other, behind k bytes -/
structure Sh (s s' : ByteArray) (k : Nat) : Prop where
  size : s'.size = s.size + k
  at' : ∀ p : Int, 0 ≤ p → bt s' (p + k) = bt s p
theorem bt_inj {a b : ByteArray} (hs : a.size = b.size) (h : ∀ i : Int, 0 ≤ i → i < a.size → bt a i = bt b i) : a = b := by
  apply ByteArray.ext
  apply Array.ext
  · exact hs
  · intro i h1 h2
    have h1' : i < a.size := h1
    have h2' : i < b.size := h2
    have := h i (by omega) (by omega)
    rw [← bt_at a i (by simpa using h1'), ← bt_at b i (by simpa using h2')] at this
    simp only [Int.toNat_natCast] at this
    have e : (a[i]'h1').toNat = (b[i]'h2').toNat := by omega
    exact UInt8.toNat_inj.1 e
theorem scan_enough (f : Int → Bool) (s : ByteArray) : ∀ (d d' : Nat) (p : Int), (s.size : Int) ≤ p + d → (s.size : Int) ≤ p + d' → scan f s d p = scan f s d' p
  | 0, 0, p, h, h' => rfl
  | 0, d' + 1, p, h, h' => by rw [scan, scan, if_neg (by omega)]
  | d + 1, 0, p, h, h' => by rw [scan, scan, if_neg (by omega)]
  | d + 1, d' + 1, p, h, h' => by rw [scan, scan, scan_enough f s d d' (p + 1) (by omega) (by omega)]
theorem digs_enough (s : ByteArray) : ∀ (d d' : Nat) (p u : Int) (b : Bool), (s.size : Int) ≤ p + d → (s.size : Int) ≤ p + d' → digs s d p u b = digs s d' p u b
  | 0, 0, p, u, b, h, h' => rfl
  | 0, d' + 1, p, u, b, h, h' => by rw [digs, digs, if_neg (by omega)]
  | d + 1, 0, p, u, b, h, h' => by rw [digs, digs, if_neg (by omega)]
  | d + 1, d' + 1, p, u, b, h, h' => by rw [digs, digs, digs_enough s d d' (p + 1) _ _ (by omega) (by omega)]
theorem strB_enough (s : ByteArray) (pl : Int) : ∀ (d d' : Nat) (p : Int) (out : List Int), (s.size : Int) < p + d → (s.size : Int) < p + d' → strB s pl d p out = strB s pl d' p out
  | 0, 0, p, out, h, h' => rfl
  | 0, d' + 1, p, out, h, h' => by rw [strB, strB, if_pos (.inl (by omega))]
  | d + 1, 0, p, out, h, h' => by rw [strB, strB, if_pos (.inl (by omega))]
  | d + 1, d' + 1, p, out, h, h' => by
    rw [strB, strB, strB_enough s pl d d' (p + 1) _ (by omega) (by omega), strB_enough s pl d d' (p + 1 + 1) _ (by omega) (by omega), strB_enough s pl d d' (p + 3 + 1) _ (by omega) (by omega)]
/-- an answer, its place turned -/
def mp {α : Type} (k : Nat) (g : α → α) : Out α → Out α
  | .ok a => .ok (g a)
  | .bad p e => .bad (p + k) e
theorem mp_bind {α β : Type} {k : Nat} {g : α → α} {h : β → β} {o : Out α} {f f' : α → Out β} (hf : ∀ a, o = .ok a → f' (g a) = mp k h (f a)) : (mp k g o).bind f' = mp k h (o.bind f) := by
  cases o with
  | ok a => exact hf a rfl
  | bad p e => rfl
def shw (k : Nat) (w : Wd) : Wd := ⟨w.kd, w.lg, w.pl + k, w.tx, w.n⟩
def sh (k : Nat) (t : St) : St := ⟨t.p + k, shw k t.w⟩
def sh1 (k : Nat) (r : Int × Wd) : Int × Wd := (r.1 + k, shw k r.2)
section
variable {s s' : ByteArray} {k : Nat}
theorem Sh.lt (h : Sh s s' k) (p : Int) : (p + k < (s'.size : Int)) ↔ p < (s.size : Int) := by have := h.size; omega
theorem Sh.scan0 (h : Sh s s' k) (f : Int → Bool) : ∀ (d : Nat) (p : Int), 0 ≤ p → scan f s' d (p + k) = scan f s d p + k
  | 0, p, h0 => rfl
  | d + 1, p, h0 => by
    rw [scan, scan, h.at' p h0]
    by_cases c : p < (s.size : Int)
    · rw [if_pos c, if_pos ((h.lt p).2 c)]
      by_cases e : f (bt s p) = true
      · rw [if_pos e, if_pos e, show p + k + 1 = p + 1 + k by omega, h.scan0 f d (p + 1) (by omega)]
      · rw [if_neg e, if_neg e]
    · rw [if_neg c, if_neg (fun e => c ((h.lt p).1 e))]
theorem Sh.scan (h : Sh s s' k) (f : Int → Bool) (p : Int) (h0 : 0 ≤ p) : scan f s' s'.size (p + k) = Pz.scan f s s.size p + k := by
  rw [scan_enough f s' s'.size s.size (p + k) (by omega) (by have := h.size; omega)]
  exact h.scan0 f s.size p h0
theorem Sh.digs0 (h : Sh s s' k) : ∀ (d : Nat) (p u : Int) (b : Bool), 0 ≤ p → digs s' d (p + k) u b = ((digs s d p u b).1 + k, (digs s d p u b).2)
  | 0, p, u, b, h0 => rfl
  | d + 1, p, u, b, h0 => by
    rw [digs, digs, h.at' p h0]
    by_cases c : p < (s.size : Int) ∧ 48 ≤ bt s p ∧ bt s p ≤ 57
    · rw [if_pos c, if_pos ⟨(h.lt p).2 c.1, c.2⟩, show p + k + 1 = p + 1 + k by omega, h.digs0 d (p + 1) _ _ (by omega)]
    · rw [if_neg c, if_neg (fun e => c ⟨(h.lt p).1 e.1, e.2⟩)]
theorem Sh.strB0 (h : Sh s s' k) (pl : Int) : ∀ (d : Nat) (p : Int) (out : List Int), 0 ≤ p → strB s' (pl + k) d (p + k) out = mp k (fun r : Int × List Int => (r.1 + (k : Int), r.2)) (strB s pl d p out)
  | 0, p, out, h0 => rfl
  | d + 1, p, out, h0 => by
    rw [strB, strB, h.at' p h0, show p + k + 1 = p + 1 + k by omega, show p + k + 2 = p + 2 + k by omega, show p + k + 3 = p + 3 + k by omega, h.at' (p + 1) (by omega), h.at' (p + 2) (by omega), h.at' (p + 3) (by omega)]
    have e0 : (p + k ≥ (s'.size : Int)) ↔ p ≥ (s.size : Int) := by have := h.size; omega
    have e1 := h.lt (p + 1)
    have e3 := h.lt (p + 3)
    simp only [e0, e1, e3]
    by_cases c : p ≥ (s.size : Int) ∨ bt s p < 32 ∨ bt s p > 126
    · rw [if_pos c, if_pos c]; rfl
    · rw [if_neg c, if_neg c]
      by_cases c1 : bt s p = 34
      · rw [if_pos c1, if_pos c1]; rfl
      · rw [if_neg c1, if_neg c1]
        by_cases c2 : bt s p = 92
        · rw [if_pos c2, if_pos c2]
          by_cases c3 : p + 1 < (s.size : Int) ∧ (bt s (p + 1) = 34 ∨ bt s (p + 1) = 92)
          · rw [if_pos c3, if_pos c3, show p + 1 + k + 1 = p + 1 + 1 + k by omega, h.strB0 pl d (p + 1 + 1) _ (by omega)]
          · rw [if_neg c3, if_neg c3]
            by_cases c4 : p + 3 < (s.size : Int) ∧ bt s (p + 1) = 120 ∧ hexF (bt s (p + 2)) ≥ 0 ∧ hexF (bt s (p + 3)) ≥ 0
            · rw [if_pos c4, if_pos c4, show p + 3 + k + 1 = p + 3 + 1 + k by omega, h.strB0 pl d (p + 3 + 1) _ (by omega)]
            · rw [if_neg c4, if_neg c4]; rfl
        · rw [if_neg c2, if_neg c2, h.strB0 pl d (p + 1) _ (by omega)]
theorem Sh.ext (h : Sh s s' k) (a b : Int) (h0 : 0 ≤ a) (h1 : a ≤ b) (h2 : b ≤ (s.size : Int)) : s'.extract (a + k).toNat (b + k).toNat = s.extract a.toNat b.toNat := by
  have := h.size
  apply bt_inj
  · rw [ByteArray.size_extract, ByteArray.size_extract]; omega
  · intro i i0 i1
    rw [ByteArray.size_extract] at i1
    rw [bt_ext s' _ _ (by omega) i i0 (by omega), bt_ext s _ _ (by omega) i i0 (by omega), ← h.at' _ (by omega)]
    congr 1; omega
theorem Sh.nameF (h : Sh s s' k) (p : Int) (h0 : 0 ≤ p) (h1 : p ≤ (s.size : Int)) : nameF s' (p + k) = mp k (sh1 k) (Pz.nameF s p) := by
  unfold Pz.nameF
  simp only
  rw [h.scan _ p h0]
  have hr := scan_bnd isNm s s.size p h1
  generalize Pz.scan isNm s s.size p = q at *
  rw [show q + k - (p + k) = q - p by omega, h.ext p q h0 hr.1 hr.2]
  split <;> rfl
theorem Sh.numF (h : Sh s s' k) (p : Int) (h0 : 0 ≤ p) (h1 : p < (s.size : Int)) : numF s' (p + k) = mp k (sh1 k) (Pz.numF s p) := by
  unfold Pz.numF
  simp only
  rw [h.at' p h0]
  have hf : (if (bt s p == 45) = true then p + k + 1 else p + k) = (if (bt s p == 45) = true then p + 1 else p) + k := by split <;> omega
  have hf0 : 0 ≤ (if (bt s p == 45) = true then p + 1 else p) := by split <;> omega
  rw [hf]
  generalize (if (bt s p == 45) = true then p + 1 else p) = f at *
  rw [digs_enough s' s'.size s.size (f + k) 0 false (by omega) (by have := h.size; omega), h.digs0 s.size f 0 false hf0, h.at' f hf0]
  generalize digs s s.size f 0 false = R
  simp only
  have e1 : (R.1 + k = f + k) ↔ R.1 = f := by omega
  have e2 : (R.1 + k > f + k + 1) ↔ R.1 > f + 1 := by omega
  simp only [e1, e2]
  split
  · rfl
  · split <;> rfl
theorem Sh.strF (h : Sh s s' k) (p : Int) (h0 : 0 ≤ p) : strF s' (p + k) = mp k (sh1 k) (Pz.strF s p) := by
  unfold Pz.strF
  rw [strB_enough s' (p + k) (s'.size + 1) (s.size + 1) (p + k + 1) [] (by omega) (by have := h.size; omega), show p + k + 1 = p + 1 + k by omega, h.strB0 p (s.size + 1) (p + 1) [] (by omega)]
  refine mp_bind (fun a ha => ?_)
  simp only
  split <;> rfl
theorem Sh.markF (h : Sh s s' k) (p c : Int) (h0 : 0 ≤ p) : markF s' (p + k) c = mp k (sh1 k) (Pz.markF s p c) := by
  unfold Pz.markF
  rw [show p + k + 1 = p + 1 + k by omega, h.at' (p + 1) (by omega)]
  have e := h.lt (p + 1)
  simp only [e]
  split
  · split
    · simp [mp, sh1, shw]; omega
    · rfl
  · split <;> rfl
theorem Sh.next (h : Sh s s' k) (p : Int) (h0 : 0 ≤ p) (h1 : p ≤ (s.size : Int)) : nextF s' (p + k) = mp k (sh k) (nextF s p) := by
  unfold nextF
  simp only
  rw [h.scan _ p h0]
  have hs := scan_bnd (fun c => c == 32) s s.size p h1
  generalize Pz.scan (fun c => c == 32) s s.size p = q at *
  by_cases c : q < (s.size : Int)
  · rw [if_pos c, if_pos ((h.lt q).2 c), h.at' q (by omega)]
    have e : (if 97 ≤ bt s q ∧ bt s q ≤ 122 then Pz.nameF s' (q + k) else if bt s q = 45 ∨ (48 ≤ bt s q ∧ bt s q ≤ 57) then Pz.numF s' (q + k) else if bt s q = 34 then Pz.strF s' (q + k) else Pz.markF s' (q + k) (bt s q)) =
        mp k (sh1 k) (if 97 ≤ bt s q ∧ bt s q ≤ 122 then Pz.nameF s q else if bt s q = 45 ∨ (48 ≤ bt s q ∧ bt s q ≤ 57) then Pz.numF s q else if bt s q = 34 then Pz.strF s q else Pz.markF s q (bt s q)) := by
      split
      · exact h.nameF q (by omega) (by omega)
      · split
        · exact h.numF q (by omega) c
        · split
          · exact h.strF q (by omega)
          · exact h.markF q _ (by omega)
    rw [e]
    exact mp_bind (fun a ha => rfl)
  · rw [if_neg c, if_neg (fun e => c ((h.lt q).1 e))]
    rfl
theorem Sh.is (h : Sh s s' k) (c : Int) (t : St) (hi : In s t) : isF s' c (sh k t) = mp k (fun r => (r.1, sh k r.2)) (isF s c t) := by
  unfold isF
  show (if t.w.kd = c ∧ t.w.lg = false then (nextF s' (t.p + k)).bind fun t' => Out.ok (true, t') else .ok (false, sh k t)) = _
  by_cases a : t.w.kd = c ∧ t.w.lg = false
  · rw [if_pos a, if_pos a, h.next t.p hi.1 hi.2]; exact mp_bind (fun a ha => rfl)
  · rw [if_neg a, if_neg a]; rfl
theorem Sh.want (h : Sh s s' k) (c : Int) (t : St) (hi : In s t) : wantF s' c (sh k t) = mp k (fun r => (shw k r.1, sh k r.2)) (wantF s c t) := by
  unfold wantF
  show (if t.w.kd = c ∧ t.w.lg = false then (nextF s' (t.p + k)).bind fun t' => Out.ok (shw k t.w, t') else .bad (t.w.pl + k) 4) = _
  by_cases a : t.w.kd = c ∧ t.w.lg = false
  · rw [if_pos a, if_pos a, h.next t.p hi.1 hi.2]; exact mp_bind (fun a ha => rfl)
  · rw [if_neg a, if_neg a]; rfl
theorem Sh.part (h : Sh s s' k) (t : St) (hi : In s t) : partF s' (sh k t) = mp k (fun r => (r.1, sh k r.2)) (partF s t) := by
  unfold partF
  show (if t.w.kd = 100 then (if t.w.n > 1048576 ∨ t.w.n < -1048576 then Out.bad (t.w.pl + k) 6 else (nextF s' (t.p + k)).bind fun t' => .ok (t.w.n, t')) else .bad (t.w.pl + k) 4) = _
  by_cases a : t.w.kd = 100
  · rw [if_pos a, if_pos a]
    by_cases b : t.w.n > 1048576 ∨ t.w.n < -1048576
    · rw [if_pos b, if_pos b]; rfl
    · rw [if_neg b, if_neg b, h.next t.p hi.1 hi.2]; exact mp_bind (fun a ha => rfl)
  · rw [if_neg a, if_neg a]; rfl
theorem Sh.point (h : Sh s s' k) (t : St) (hi : In s t) : pointF s' (sh k t) = mp k (fun r => (r.1, sh k r.2)) (pointF s t) := by
  unfold pointF
  rw [h.want 40 t hi]
  refine mp_bind (fun a e1 => ?_)
  have i1 := (wantF_in hi (u := a.1) (t' := a.2) e1).1
  simp only
  rw [h.part a.2 i1]
  refine mp_bind (fun x e2 => ?_)
  have i2 := (partF_in i1 (n := x.1) (t' := x.2) e2).1
  simp only
  rw [h.want 44 x.2 i2]
  refine mp_bind (fun b e3 => ?_)
  have i3 := (wantF_in i2 (u := b.1) (t' := b.2) e3).1
  simp only
  rw [h.part b.2 i3]
  refine mp_bind (fun y e4 => ?_)
  have i4 := (partF_in i3 (n := y.1) (t' := y.2) e4).1
  simp only
  rw [h.want 41 y.2 i4]
  exact mp_bind (fun c e5 => rfl)
theorem Sh.plain (h : Sh s s' k) (b : Bool) (t : St) (hi : In s t) : plainF s' b (sh k t) = mp k (fun r => (r.1, sh k r.2)) (plainF s b t) := by
  unfold plainF
  show (if t.w.kd = 100 ∧ b = false then (nextF s' (t.p + k)).bind fun t' => Out.ok ((⟨1, t.w.n, ⟨#[]⟩, false, ⟨0, 0⟩⟩ : S43), t') else (wantF s' 115 (sh k t)).bind fun a => .ok (⟨2, 0, a.1.tx, false, ⟨0, 0⟩⟩, a.2)) = _
  by_cases a : t.w.kd = 100 ∧ b = false
  · rw [if_pos a, if_pos a, h.next t.p hi.1 hi.2]; exact mp_bind (fun a ha => rfl)
  · rw [if_neg a, if_neg a, h.want 115 t hi]; exact mp_bind (fun a ha => rfl)
theorem Sh.any (h : Sh s s' k) (t : St) (hi : In s t) : anyF s' (sh k t) = mp k (fun r => (r.1, sh k r.2)) (anyF s t) := by
  unfold anyF
  show (if t.w.kd = 40 then pointF s' (sh k t) else if t.w.kd = 110 ∧ (t.w.tx = yesB ∨ t.w.tx = noB) then (nextF s' (t.p + k)).bind fun t' => Out.ok ((⟨3, 0, ⟨#[]⟩, t.w.tx == yesB, ⟨0, 0⟩⟩ : S43), t') else plainF s' false (sh k t)) = _
  by_cases a : t.w.kd = 40
  · rw [if_pos a, if_pos a]; exact h.point t hi
  · rw [if_neg a, if_neg a]
    by_cases b : t.w.kd = 110 ∧ (t.w.tx = yesB ∨ t.w.tx = noB)
    · rw [if_pos b, if_pos b, h.next t.p hi.1 hi.2]; exact mp_bind (fun a ha => rfl)
    · rw [if_neg b, if_neg b]; exact h.plain false t hi
theorem Sh.atom (h : Sh s s' k) (nm : ByteArray) (t : St) (hi : In s t) : atomF s' nm (sh k t) = mp k (fun r => (r.1, sh k r.2)) (atomF s nm t) := by
  unfold atomF
  have e : cmpF (sh k t).w = cmpF t.w := rfl
  simp only [e]
  generalize cmpF t.w = c
  by_cases a : c = 2
  · rw [if_pos a, if_pos a]; rfl
  · rw [if_neg a, if_neg a]
    show ((nextF s' (t.p + k)).bind _) = _
    rw [h.next t.p hi.1 hi.2]
    refine mp_bind (fun t1 e1 => ?_)
    have i1 := (nextF_in hi.1 hi.2 e1).1
    by_cases b : c = 3 ∨ c = 4
    · rw [if_pos b, if_pos b, h.any t1 i1]; exact mp_bind (fun a ha => rfl)
    · rw [if_neg b, if_neg b]
      by_cases d : c = 9
      · rw [if_pos d, if_pos d, h.plain true t1 i1]; exact mp_bind (fun a ha => rfl)
      · rw [if_neg d, if_neg d]
        by_cases f : c = 10
        · rw [if_pos f, if_pos f, h.point t1 i1]
          refine mp_bind (fun x e2 => ?_)
          have i2 := (pointF_in i1 (x := x.1) (t' := x.2) e2).1
          simp only
          rw [h.want 47 x.2 i2]
          refine mp_bind (fun y e3 => ?_)
          have i3 := (wantF_in i2 (u := y.1) (t' := y.2) e3).1
          simp only
          show (if y.2.w.kd = 100 ∧ (y.2.w.n < 0 ∨ y.2.w.n > 1048576) then Out.bad (y.2.w.pl + k) 6 else _) = _
          by_cases g : y.2.w.kd = 100 ∧ (y.2.w.n < 0 ∨ y.2.w.n > 1048576)
          · rw [if_pos g, if_pos g]; rfl
          · rw [if_neg g, if_neg g, h.want 100 y.2 i3]; exact mp_bind (fun a ha => rfl)
        · rw [if_neg f, if_neg f, h.plain false t1 i1]; exact mp_bind (fun a ha => rfl)
end
end Go.Proofs.Ytmgljgmieomngaa.Pz
namespace Go.Proofs.Ytmgljgmieomngaa.Pz
open Go Go.RowKit Go.Proofs.YtmgljgmieomngaaW.PrintWords Go.Proofs.YtmgljgmieomngaaW.PrintLast Go.Proofs.YtmgljgmieomngaaW.PrintMore Go.Proofs.Ytmgljgmieomngaa.Q Go.Proofs.Ytmgljgmieomngaa.Oct
set_option linter.unusedVariables false
set_option linter.unusedSimpArgs false
/-- an answer's states turned -/
def mo (k : Nat) (o : Out (List S54 × St)) : Out (List S54 × St) := mp k (fun r => (r.1, sh k r.2)) o
section
variable {s s' : ByteArray} {k : Nat}
theorem mo_bind {o : Out (List S54 × St)} {f f' : List S54 × St → Out (List S54 × St)} (hf : ∀ l t, o = .ok (l, t) → f' (l, sh k t) = mo k (f (l, t))) : (mo k o).bind f' = mo k (o.bind f) := by
  cases o with
  | ok a => exact hf a.1 a.2 rfl
  | bad p e => rfl
theorem Sh.pr (h : Sh s s' k) : ∀ (n : Nat) (m : Md) (t : St), Iw s t → pr s' n m (sh k t) = (pr s n m t).map (mo k)
  | 0, m, t, hi => by simp [Pz.pr]
  | n + 1, .unit, t, hi => by
    rw [Pz.pr, Pz.pr, h.is 33 t hi.1, h.is 40 t hi.1, h.is 42 t hi.1, h.is 35 t hi.1, h.is 63 t hi.1]
    cases h1 : isF s 33 t with
    | bad p e => rfl
    | ok r =>
      obtain ⟨b, t1⟩ := r
      cases b with
      | true =>
        have u := isF_up hi (by decide) h1
        simp only [mp, h.pr n .unit t1 u.1]
        cases Pz.pr s n .unit t1 with
        | none => rfl
        | some o => simp only [Option.map_some, Option.bind_some]; exact congrArg some (mo_bind (fun l t e => rfl))
      | false =>
        simp only [mp]
        cases h2 : isF s 40 t with
        | bad p e => rfl
        | ok r =>
          obtain ⟨b, t1⟩ := r
          cases b with
          | true =>
            have u := isF_up hi (by decide) h2
            simp only [mp, h.pr n .sum t1 u.1]
            cases hp : Pz.pr s n .sum t1 with
            | none => rfl
            | some o =>
              simp only [Option.map_some, Option.bind_some]
              refine congrArg some (mo_bind (fun l t e => ?_))
              have i2 := pr_up s n .sum t1 o u.1 hp l t e
              simp only
              rw [h.want 41 t i2.1.1]
              exact mp_bind (fun a ha => rfl)
          | false =>
            simp only [mp]
            cases h3 : isF s 42 t with
            | bad p e => rfl
            | ok r =>
              obtain ⟨b, t1⟩ := r
              cases b with
              | true => rfl
              | false =>
                simp only [mp]
                cases h4 : isF s 35 t with
                | bad p e => rfl
                | ok r =>
                  obtain ⟨b, t1⟩ := r
                  cases b with
                  | true => rfl
                  | false =>
                    simp only [mp]
                    cases h5 : isF s 63 t with
                    | bad p e => rfl
                    | ok r =>
                      obtain ⟨b, t1⟩ := r
                      cases b with
                      | true =>
                        have u := isF_up hi (by decide) h5
                        simp only [mp]
                        rw [h.want 110 t1 u.1.1]
                        refine congrArg some ?_
                        exact mp_bind (h := fun r : List S54 × St => (r.1, sh k r.2)) (fun a ha => rfl)
                      | false =>
                        simp only [mp]
                        rw [h.want 110 t hi.1]
                        refine congrArg some ?_
                        refine mp_bind (h := fun r : List S54 × St => (r.1, sh k r.2)) (fun a ha => ?_)
                        have i1 := (wantF_in hi.1 (u := a.1) (t' := a.2) ha).1
                        simp only
                        show ((atomF s' a.1.tx (sh k a.2)).bind _) = _
                        rw [h.atom a.1.tx a.2 i1]
                        exact mp_bind (fun b hb => rfl)
  | n + 1, .sum, t, hi => by
    rw [Pz.pr, Pz.pr, h.pr n .unit t hi]
    cases h1 : Pz.pr s n .unit t with
    | none => rfl
    | some o1 =>
      simp only [Option.map_some, Option.bind_some]
      cases o1 with
      | bad p e => rfl
      | ok r =>
        obtain ⟨l1, t1⟩ := r
        have u1 := pr_up s n .unit t _ hi h1 l1 t1 rfl
        simp only [mo, mp]
        rw [h.pr n .alls t1 u1.1]
        cases h2 : Pz.pr s n .alls t1 with
        | none => rfl
        | some o2 =>
          simp only [Option.map_some, Option.bind_some]
          cases o2 with
          | bad p e => rfl
          | ok r =>
            obtain ⟨l2, t2⟩ := r
            have u2 := pr_up s n .alls t1 _ u1.1 h2 l2 t2 rfl
            simp only [mo, mp]
            rw [h.pr n .sums t2 u2.1]
            cases h3 : Pz.pr s n .sums t2 with
            | none => rfl
            | some o3 =>
              simp only [Option.map_some, Option.bind_some]
              exact congrArg some (mo_bind (fun l t e => rfl))
  | n + 1, .alls, t, hi => by
    rw [Pz.pr, Pz.pr, h.is 38 t hi.1]
    cases h1 : isF s 38 t with
    | bad p e => rfl
    | ok r =>
      obtain ⟨b, t1⟩ := r
      cases b with
      | false => rfl
      | true =>
        have u := isF_up hi (by decide) h1
        simp only [mp]
        rw [h.pr n .unit t1 u.1]
        cases h2 : Pz.pr s n .unit t1 with
        | none => rfl
        | some o2 =>
          simp only [Option.map_some, Option.bind_some]
          cases o2 with
          | bad p e => rfl
          | ok r =>
            obtain ⟨l2, t2⟩ := r
            have u2 := pr_up s n .unit t1 _ u.1 h2 l2 t2 rfl
            simp only [mo, mp]
            rw [h.pr n .alls t2 u2.1]
            cases h3 : Pz.pr s n .alls t2 with
            | none => rfl
            | some o3 =>
              simp only [Option.map_some, Option.bind_some]
              exact congrArg some (mo_bind (fun l t e => rfl))
  | n + 1, .sums, t, hi => by
    rw [Pz.pr, Pz.pr, h.is 124 t hi.1]
    cases h1 : isF s 124 t with
    | bad p e => rfl
    | ok r =>
      obtain ⟨b, t1⟩ := r
      cases b with
      | false => rfl
      | true =>
        have u := isF_up hi (by decide) h1
        simp only [mp]
        rw [h.pr n .unit t1 u.1]
        cases h2 : Pz.pr s n .unit t1 with
        | none => rfl
        | some o1 =>
          simp only [Option.map_some, Option.bind_some]
          cases o1 with
          | bad p e => rfl
          | ok r =>
            obtain ⟨l1, t2⟩ := r
            have u1 := pr_up s n .unit t1 _ u.1 h2 l1 t2 rfl
            simp only [mo, mp]
            rw [h.pr n .alls t2 u1.1]
            cases h3 : Pz.pr s n .alls t2 with
            | none => rfl
            | some o2 =>
              simp only [Option.map_some, Option.bind_some]
              cases o2 with
              | bad p e => rfl
              | ok r =>
                obtain ⟨l2, t3⟩ := r
                have u2 := pr_up s n .alls t2 _ u1.1 h3 l2 t3 rfl
                simp only [mo, mp]
                rw [h.pr n .sums t3 u2.1]
                cases h4 : Pz.pr s n .sums t3 with
                | none => rfl
                | some o3 =>
                  simp only [Option.map_some, Option.bind_some]
                  exact congrArg some (mo_bind (fun l t e => rfl))
end
theorem scan_skip (f : Int → Bool) (s : ByteArray) : ∀ (k d : Nat) (p : Int), (∀ i : Int, p ≤ i → i < p + k → i < (s.size : Int) ∧ f (bt s i) = true) → scan f s (d + k) p = scan f s d (p + k)
  | 0, d, p, h => by simp
  | k + 1, d, p, h => by
    rw [show d + (k + 1) = d + k + 1 by omega, scan, if_pos (h p (by omega) (by omega)).1, if_pos (h p (by omega) (by omega)).2, scan_skip f s k d (p + 1) (fun i h0 h1 => h i (by omega) (by omega))]
    congr 1; omega
/-- blanks at the begin are passed -/
theorem next_skip {s : ByteArray} {k : Nat} (hk : k ≤ s.size) (hb : ∀ i : Int, 0 ≤ i → i < k → bt s i = 32) : nextF s 0 = nextF s k := by
  have e : scan (fun c => c == 32) s s.size 0 = scan (fun c => c == 32) s s.size k := by
    have h1 := scan_skip (fun c => c == 32) s k (s.size - k) 0 (fun i h0 h1 => ⟨by omega, by simpa using hb i h0 (by omega)⟩)
    rw [show s.size - k + k = s.size by omega, Int.zero_add] at h1
    rw [h1]
    exact scan_enough _ s _ _ _ (by omega) (by omega)
  unfold nextF
  simp only [e]
/-- no fault is the error 0; its place lies in the text -/
def NB {α : Type} (s : ByteArray) (o : Out α) : Prop := ∀ p e, o = .bad p e → e ≠ 0 ∧ 0 ≤ p ∧ p ≤ (s.size : Int)
theorem NB.ok {α : Type} {s : ByteArray} (a : α) : NB s (.ok a) := fun p e h => by simp at h
theorem NB.bad {α : Type} {s : ByteArray} {p e : Int} (h : e ≠ 0) (h0 : 0 ≤ p) (h1 : p ≤ (s.size : Int)) : NB s (.bad p e : Out α) := fun p' e' h' => by injection h' with h2 h'; rw [← h', ← h2]; exact ⟨h, h0, h1⟩
theorem NB.of {α β : Type} {s : ByteArray} {o : Out α} {p e : Int} (h : NB s o) (he : o = .bad p e) : NB s (.bad p e : Out β) := NB.bad (h p e he).1 (h p e he).2.1 (h p e he).2.2
theorem NB.bind {α β : Type} {s : ByteArray} {o : Out α} {f : α → Out β} (h : NB s o) (hf : ∀ a, o = .ok a → NB s (f a)) : NB s (o.bind f) := by
  cases o with
  | ok a => exact hf a rfl
  | bad p e => exact NB.of h rfl
theorem strB_nb (s : ByteArray) (pl : Int) (h0 : 0 ≤ pl) (h1 : pl ≤ (s.size : Int)) : ∀ (d : Nat) (x : Int) (out : List Int), NB s (strB s pl d x out)
  | 0, x, out => NB.bad (by decide) h0 h1
  | d + 1, x, out => by
    rw [strB]
    split
    · exact NB.bad (by decide) h0 h1
    · split
      · exact NB.ok _
      · split
        · split
          · exact strB_nb s pl h0 h1 d _ _
          · split
            · exact strB_nb s pl h0 h1 d _ _
            · exact NB.bad (by decide) h0 h1
        · exact strB_nb s pl h0 h1 d _ _
theorem nextF_nb {s : ByteArray} {q : Int} (h0 : 0 ≤ q) (h1 : q ≤ (s.size : Int)) : NB s (nextF s q) := by
  unfold nextF
  simp only
  have hs := scan_bnd (fun c => c == 32) s s.size q h1
  generalize scan (fun c => c == 32) s s.size q = q at *
  have g0 : 0 ≤ q := by omega
  have g1 := hs.2
  split
  · refine NB.bind ?_ (fun a _ => NB.ok _)
    split
    · unfold nameF; simp only
      split
      · exact NB.bad (by decide) g0 g1
      · exact NB.ok _
    · split
      · unfold numF; simp only
        generalize (if (bt s q == 45) = true then q + 1 else q) = f
        generalize digs s s.size f 0 false = R
        split
        · exact NB.bad (by decide) g0 g1
        · split
          · exact NB.bad (by decide) g0 g1
          · exact NB.ok _
      · split
        · unfold strF
          refine NB.bind (strB_nb _ _ g0 g1 _ _ _) (fun a _ => ?_)
          split
          · exact NB.bad (by decide) g0 g1
          · exact NB.ok _
        · unfold markF
          split
          · split <;> exact NB.ok _
          · split
            · exact NB.ok _
            · exact NB.bad (by decide) g0 g1
  · exact NB.ok _
theorem Iw.pl {s : ByteArray} {t : St} (h : Iw s t) : 0 ≤ t.w.pl ∧ t.w.pl ≤ (s.size : Int) := ⟨h.2.1, by have := h.1.2; have := h.2.2.1; omega⟩
theorem isF_nb {s : ByteArray} (c : Int) {t : St} (hi : Iw s t) : NB s (isF s c t) := by
  unfold isF
  split
  · exact NB.bind (nextF_nb hi.1.1 hi.1.2) (fun a _ => NB.ok _)
  · exact NB.ok _
theorem wantF_nb {s : ByteArray} (c : Int) {t : St} (hi : Iw s t) : NB s (wantF s c t) := by
  unfold wantF
  split
  · exact NB.bind (nextF_nb hi.1.1 hi.1.2) (fun a _ => NB.ok _)
  · exact NB.bad (by decide) hi.pl.1 hi.pl.2
theorem partF_nb {s : ByteArray} {t : St} (hi : Iw s t) : NB s (partF s t) := by
  unfold partF
  split
  · split
    · exact NB.bad (by decide) hi.pl.1 hi.pl.2
    · exact NB.bind (nextF_nb hi.1.1 hi.1.2) (fun a _ => NB.ok _)
  · exact NB.bad (by decide) hi.pl.1 hi.pl.2
theorem pointF_nb {s : ByteArray} {t : St} (hi : Iw s t) : NB s (pointF s t) := by
  unfold pointF
  refine NB.bind (wantF_nb _ hi) (fun a e1 => ?_)
  have i1 := (wantF_up hi (by decide) (u := a.1) (t' := a.2) e1).1
  refine NB.bind (partF_nb i1) (fun b e2 => ?_)
  have i2 := (partF_up i1 (n := b.1) (t' := b.2) e2).1
  refine NB.bind (wantF_nb _ i2) (fun c e3 => ?_)
  have i3 := (wantF_up i2 (by decide) (u := c.1) (t' := c.2) e3).1
  refine NB.bind (partF_nb i3) (fun d e4 => ?_)
  have i4 := (partF_up i3 (n := d.1) (t' := d.2) e4).1
  exact NB.bind (wantF_nb _ i4) (fun e _ => NB.ok _)
theorem plainF_nb {s : ByteArray} (b : Bool) {t : St} (hi : Iw s t) : NB s (plainF s b t) := by
  unfold plainF
  split
  · exact NB.bind (nextF_nb hi.1.1 hi.1.2) (fun a _ => NB.ok _)
  · exact NB.bind (wantF_nb _ hi) (fun a _ => NB.ok _)
theorem anyF_nb {s : ByteArray} {t : St} (hi : Iw s t) : NB s (anyF s t) := by
  unfold anyF
  split
  · exact pointF_nb hi
  · split
    · exact NB.bind (nextF_nb hi.1.1 hi.1.2) (fun a _ => NB.ok _)
    · exact plainF_nb _ hi
theorem atomF_nb {s : ByteArray} (nm : ByteArray) {t : St} (hi : Iw s t) : NB s (atomF s nm t) := by
  unfold atomF
  simp only
  split
  · exact NB.ok _
  · refine NB.bind (nextF_nb hi.1.1 hi.1.2) (fun t1 e1 => ?_)
    have i1 := (nextF_iw hi.1.1 hi.1.2 e1).1
    split
    · exact NB.bind (anyF_nb i1) (fun a _ => NB.ok _)
    · split
      · exact NB.bind (plainF_nb _ i1) (fun a _ => NB.ok _)
      · split
        · refine NB.bind (pointF_nb i1) (fun a e2 => ?_)
          have i2 := (pointF_up i1 (x := a.1) (t' := a.2) e2).1
          refine NB.bind (wantF_nb _ i2) (fun b e3 => ?_)
          have i3 := (wantF_up i2 (by decide) (u := b.1) (t' := b.2) e3).1
          split
          · exact NB.bad (by decide) i3.pl.1 i3.pl.2
          · exact NB.bind (wantF_nb _ i3) (fun a _ => NB.ok _)
        · exact NB.bind (plainF_nb _ i1) (fun a _ => NB.ok _)
theorem pr_nb (s : ByteArray) : ∀ (k : Nat) (m : Md) (t : St) (o : Out (List S54 × St)), Iw s t → pr s k m t = some o → NB s o
  | 0, m, t, o, hi, h => by simp [pr] at h
  | k + 1, .unit, t, o, hi, h => by
    rcases pr_unit h with ⟨p, e, a, rfl⟩ | ⟨t1, o1, a1, a2, rfl⟩ | ⟨-, h⟩
    · exact NB.of (isF_nb _ hi) a
    · exact NB.bind (pr_nb s k _ _ _ (isF_up hi (by decide) a1).1 a2) (fun a _ => NB.ok _)
    rcases h with ⟨p, e, a, rfl⟩ | ⟨t1, o1, a1, a2, rfl⟩ | ⟨-, h⟩
    · exact NB.of (isF_nb _ hi) a
    · have i1 := (isF_up hi (by decide) a1).1
      exact NB.bind (pr_nb s k _ _ _ i1 a2) (fun a ha => NB.bind (wantF_nb _ (pr_up s k .sum t1 o1 i1 a2 a.1 a.2 ha).1) (fun a _ => NB.ok _))
    rcases h with ⟨p, e, a, rfl⟩ | ⟨t1, a1, rfl⟩ | ⟨-, h⟩
    · exact NB.of (isF_nb _ hi) a
    · exact NB.ok _
    rcases h with ⟨p, e, a, rfl⟩ | ⟨t1, a1, rfl⟩ | ⟨-, h⟩
    · exact NB.of (isF_nb _ hi) a
    · exact NB.ok _
    rcases h with ⟨p, e, a, rfl⟩ | ⟨t1, a1, rfl⟩ | ⟨-, rfl⟩
    · exact NB.of (isF_nb _ hi) a
    · exact NB.bind (wantF_nb _ (isF_up hi (by decide) a1).1) (fun a _ => NB.ok _)
    · exact NB.bind (wantF_nb _ hi) (fun a ha => NB.bind (atomF_nb _ (wantF_up hi (by decide) (u := a.1) (t' := a.2) ha).1) (fun a _ => NB.ok _))
  | k + 1, .sum, t, o, hi, h => by
    obtain ⟨o1, a1, a2, a3⟩ := pr_sum h
    cases o1 with
    | bad p e => rw [a2 p e rfl]; exact pr_nb s k _ _ _ hi a1
    | ok r =>
      obtain ⟨l1, t1⟩ := r
      obtain ⟨o2, b1, b2, b3⟩ := a3 l1 t1 rfl
      have i1 := (pr_up s k .unit t _ hi a1 l1 t1 rfl).1
      cases o2 with
      | bad p e => rw [b2 p e rfl]; exact pr_nb s k _ _ _ i1 b1
      | ok r =>
        obtain ⟨l2, t2⟩ := r
        obtain ⟨o3, c1, c2⟩ := b3 l2 t2 rfl
        have i2 := (pr_up s k .alls t1 _ i1 b1 l2 t2 rfl).1
        rw [c2]
        exact NB.bind (pr_nb s k _ _ _ i2 c1) (fun a _ => NB.ok _)
  | k + 1, .alls, t, o, hi, h => by
    rw [pr] at h
    cases h1 : isF s 38 t with
    | bad p e => rw [h1] at h; injection h with h; rw [← h]; exact NB.of (isF_nb _ hi) h1
    | ok r =>
      obtain ⟨b, t1⟩ := r
      cases b with
      | false => rw [h1] at h; injection h with h; rw [← h]; exact NB.ok _
      | true =>
        rw [h1] at h
        simp only at h
        obtain ⟨o1, f1, h⟩ := bind_some' h
        have i1 := (isF_up hi (by decide) h1).1
        cases o1 with
        | bad p e => injection h with h; rw [← h]; exact pr_nb s k _ _ _ i1 f1
        | ok r =>
          obtain ⟨l1, t2⟩ := r
          have i2 := (pr_up s k .unit t1 _ i1 f1 l1 t2 rfl).1
          simp only at h
          obtain ⟨o2, f2, h⟩ := bind_some' h
          injection h with h; rw [← h]
          exact NB.bind (pr_nb s k _ _ _ i2 f2) (fun a _ => NB.ok _)
  | k + 1, .sums, t, o, hi, h => by
    rw [pr] at h
    cases h1 : isF s 124 t with
    | bad p e => rw [h1] at h; injection h with h; rw [← h]; exact NB.of (isF_nb _ hi) h1
    | ok r =>
      obtain ⟨b, t1⟩ := r
      cases b with
      | false => rw [h1] at h; injection h with h; rw [← h]; exact NB.ok _
      | true =>
        rw [h1] at h
        simp only at h
        obtain ⟨o1, f1, h⟩ := bind_some' h
        have i1 := (isF_up hi (by decide) h1).1
        cases o1 with
        | bad p e => injection h with h; rw [← h]; exact pr_nb s k _ _ _ i1 f1
        | ok r =>
          obtain ⟨l1, t2⟩ := r
          have i2 := (pr_up s k .unit t1 _ i1 f1 l1 t2 rfl).1
          simp only at h
          obtain ⟨o2, f2, h⟩ := bind_some' h
          cases o2 with
          | bad p e => injection h with h; rw [← h]; exact pr_nb s k _ _ _ i2 f2
          | ok r =>
            obtain ⟨l2, t3⟩ := r
            have i3 := (pr_up s k .alls t2 _ i2 f2 l2 t3 rfl).1
            simp only at h
            obtain ⟨o3, f3, h⟩ := bind_some' h
            injection h with h; rw [← h]
            exact NB.bind (pr_nb s k _ _ _ i3 f3) (fun a _ => NB.ok _)
/-- the terms that Parse tells are right -/
theorem Check_some (xs : List S54) (hx : ∀ t ∈ xs, OKT t) : ∃ c, pred_Check.f 3000 xs = some c := by
  unfold pred_Check.f
  by_cases h : (xs.length : Int) > 48
  · rw [if_pos h]; exact ⟨_, rfl⟩
  · rw [if_neg h]
    exact ⟨_, Check_l0 xs hx (by omega) xs 0 3000 0 rfl (by omega) (by omega) (by omega)⟩
def Bd (s : ByteArray) (p e : Int) : Prop := e ≠ 0 ∧ 0 ≤ p ∧ p ≤ (s.size : Int)
/-- what Parse tells, its parts -/
theorem parse_parts (s : ByteArray) (hs : s.size ≤ 300) :
    (∃ p e, Bd s p e ∧ (nextF s 0 = .bad p e) ∧ parseF s = some ([], p, e)) ∨
    (∃ t o, nextF s 0 = .ok t ∧ Iw s t ∧ Wk t.w ∧ pr s 3000 .sum t = some o ∧
      ((∃ p e, Bd s p e ∧ o = .bad p e ∧ parseF s = some ([], p, e)) ∨
       (∃ l t1, o = .ok (l, t1) ∧ Iw s t1 ∧ (∀ x ∈ l, OKT x) ∧
         ((∃ p e, Bd s p e ∧ wantF s 101 t1 = .bad p e ∧ parseF s = some ([], p, e)) ∨
          (∃ a c, wantF s 101 t1 = .ok a ∧ pred_Check.f 3000 l = some c ∧ parseF s = some (if c = 6 then ([], (s.size : Int), 6) else (l, 0, 0))))))) := by
  unfold parseF
  rw [if_neg (by omega)]
  cases h1 : nextF s 0 with
  | bad p e => exact .inl ⟨p, e, nextF_nb (Int.le_refl 0) (by omega) _ _ h1, rfl, rfl⟩
  | ok t =>
    have i1 := (nextF_iw (Int.le_refl 0) (by omega) h1).1
    have w1 := nextF_wk (Int.le_refl 0) (by omega) h1
    obtain ⟨o, ho⟩ := pr_tot s 3000 .sum t i1 (by have := i1.2.1; simp only [need]; omega)
    refine .inr ⟨t, o, rfl, i1, w1, ho, ?_⟩
    simp only [ho, Option.bind_some]
    have hn := pr_nb s _ _ _ _ i1 ho
    have hok := pr_ok s _ _ _ _ i1 w1 ho
    have hup := pr_up s _ _ _ _ i1 ho
    cases o with
    | bad p e => exact .inl ⟨p, e, hn p e rfl, rfl, rfl⟩
    | ok r =>
      obtain ⟨l, t1⟩ := r
      have j1 := hup l t1 rfl
      have j2 := hok l t1 rfl
      refine .inr ⟨l, t1, rfl, j1.1, j2.1, ?_⟩
      cases h2 : wantF s 101 t1 with
      | bad p e => exact .inl ⟨p, e, wantF_nb _ j1.1 _ _ h2, rfl, by simp only [h2]⟩
      | ok a =>
        obtain ⟨c, hc⟩ := Check_some l j2.1
        refine .inr ⟨a, c, rfl, hc, ?_⟩
        simp only [h2, hc, Option.bind_some]
        split <;> rfl
theorem Check_len {xs : List S54} {c : Int} (h : pred_Check.f 3000 xs = some c) (hc : c ≠ 6) : xs.length ≤ 48 := by
  unfold pred_Check.f at h
  by_cases hl : (xs.length : Int) > 48
  · rw [if_pos hl] at h; injection h with h; exact absurd h.symm hc
  · omega
/-- blanks ahead: the same terms and the same error; a fault's place behind the blanks -/
theorem parse_ahead {s s' : ByteArray} {k : Nat} (h : Sh s s' k) (hs : s'.size ≤ 300) (hb : ∀ i : Int, 0 ≤ i → i < k → bt s' i = 32) :
    ∃ l p e, parseF s = some (l, p, e) ∧ parseF s' = some (l, (if e = 0 then 0 else p + k), e) ∧ (e = 0 → p = 0) ∧ (∀ x ∈ l, OKT x) ∧ l.length ≤ 48 ∧ (e ≠ 0 → l = []) ∧ 0 ≤ p ∧ p ≤ (s.size : Int) := by
  have hz := h.size
  have h0 : nextF s' 0 = mp k (sh k) (nextF s 0) := by
    rw [next_skip (k := k) (by omega) hb]
    have := h.next 0 (Int.le_refl 0) (by omega)
    rwa [Int.zero_add] at this
  have he : ∀ p e : Int, Bd s p e → (if e = 0 then (0 : Int) else p + k) = p + k := fun p e hb => if_neg hb.1
  rcases parse_parts s (by omega) with ⟨p, e, b, n1, n2⟩ | ⟨t, o, n1, i1, w1, n2, ⟨p, e, b, n3, n4⟩ | ⟨l, t1, n3, i2, ok, ⟨p, e, b, n4, n5⟩ | ⟨a, c, n4, n5, n6⟩⟩⟩
  · refine ⟨[], p, e, n2, ?_, fun h => absurd h b.1, by simp, by simp, fun _ => rfl, b.2.1, b.2.2⟩
    rw [n1] at h0
    rw [he p e b]
    unfold parseF
    rw [if_neg (by omega), h0]
    rfl
  · refine ⟨[], p, e, n4, ?_, fun h => absurd h b.1, by simp, by simp, fun _ => rfl, b.2.1, b.2.2⟩
    rw [n1] at h0
    rw [he p e b]
    unfold parseF
    rw [if_neg (by omega), h0]
    simp only [mp]
    rw [h.pr 3000 .sum t i1, n2, n3]
    rfl
  · refine ⟨[], p, e, n5, ?_, fun h => absurd h b.1, by simp, by simp, fun _ => rfl, b.2.1, b.2.2⟩
    rw [n1] at h0
    rw [he p e b]
    unfold parseF
    rw [if_neg (by omega), h0]
    simp only [mp]
    rw [h.pr 3000 .sum t i1, n2, n3]
    simp only [Option.map_some, Option.bind_some, mo, mp]
    rw [h.want 101 t1 i2.1, n4]
    rfl
  · rw [n1] at h0
    have hp' : parseF s' = some (if c = 6 then ([], (s'.size : Int), 6) else (l, 0, 0)) := by
      unfold parseF
      rw [if_neg (by omega), h0]
      simp only [mp]
      rw [h.pr 3000 .sum t i1, n2, n3]
      simp only [Option.map_some, Option.bind_some, mo, mp]
      rw [h.want 101 t1 i2.1, n4]
      simp only [mp, n5, Option.bind_some]
      split <;> rfl
    by_cases h6 : c = 6
    · rw [if_pos h6] at n6 hp'
      refine ⟨[], (s.size : Int), 6, n6, ?_, fun h => by simp at h, by simp, by simp, fun _ => rfl, by omega, Int.le_refl _⟩
      rw [hp', hz]
      simp
    · rw [if_neg h6] at n6 hp'
      exact ⟨l, 0, 0, n6, by rw [hp']; simp, fun _ => rfl, ok, Check_len n5 h6, fun h => absurd rfl h, Int.le_refl _, by omega⟩
end Go.Proofs.Ytmgljgmieomngaa.Pz
namespace Go.Proofs.Ytmgljgmieomngaa.Pz
open Go Go.RowKit Go.Proofs.YtmgljgmieomngaaW.PrintWords Go.Proofs.YtmgljgmieomngaaW.PrintLast Go.Proofs.YtmgljgmieomngaaW.PrintMore Go.Proofs.Ytmgljgmieomngaa.Q
set_option linter.unusedVariables false
theorem bt_l (a b : ByteArray) (i : Int) (h0 : 0 ≤ i) (h1 : i < (a.size : Int)) : bt (a ++ b) i = bt a i := by
  have hz : (a ++ b).size = a.size + b.size := ByteArray.size_append
  have h2 : i.toNat < a.size := by omega
  have h3 : i.toNat < (a ++ b).size := by omega
  rw [← bt_at (a ++ b) i h3, ← bt_at a i h2, ByteArray.getElem_append_left h2]
theorem bt_r (a b : ByteArray) (i : Int) (h0 : 0 ≤ i) : bt (a ++ b) (a.size + i) = bt b i := by
  have hz : (a ++ b).size = a.size + b.size := ByteArray.size_append
  have e : ((a.size : Int) + i).toNat = a.size + i.toNat := by omega
  by_cases h2 : i.toNat < b.size
  · have h3 : ((a.size : Int) + i).toNat < (a ++ b).size := by omega
    rw [← bt_at (a ++ b) _ h3, ← bt_at b i h2, ByteArray.getElem_append_right (by omega)]
    have e2 : ((a.size : Int) + i).toNat - a.size = i.toNat := by omega
    simp only [e2]
  · have h3 : ¬ ((a.size : Int) + i).toNat < (a ++ b).size := by omega
    unfold bt
    rw [dif_neg h3, dif_neg h2]
/-- a text stands in another from a place on -/
structure Sits (s T : ByteArray) (p : Int) : Prop where
  p0 : 0 ≤ p
  le : p + T.size ≤ (s.size : Int)
  at' : ∀ i : Int, 0 ≤ i → i < T.size → bt s (p + i) = bt T i
theorem Sits.left {s A B : ByteArray} {p : Int} (h : Sits s (A ++ B) p) : Sits s A p := by
  have hz : (A ++ B).size = A.size + B.size := ByteArray.size_append
  have := h.le
  refine ⟨h.p0, by omega, fun i h0 h1 => ?_⟩
  rw [h.at' i h0 (by omega), bt_l A B i h0 h1]
theorem Sits.right {s A B : ByteArray} {p : Int} (h : Sits s (A ++ B) p) : Sits s B (p + A.size) := by
  have hz : (A ++ B).size = A.size + B.size := ByteArray.size_append
  have := h.le
  have := h.p0
  refine ⟨by omega, by omega, fun i h0 h1 => ?_⟩
  rw [show p + (A.size : Int) + i = p + ((A.size : Int) + i) by omega, h.at' _ (by omega) (by omega), bt_r A B i h0]
theorem Sits.one {s : ByteArray} {c : UInt8} {p : Int} (h : Sits s ⟨#[c]⟩ p) : 0 ≤ p ∧ p < (s.size : Int) ∧ bt s p = c.toNat := by
  have hz : (⟨#[c]⟩ : ByteArray).size = 1 := rfl
  have h1 := h.le
  have h2 := h.at' 0 (by omega) (by omega)
  rw [Int.add_zero] at h2
  exact ⟨h.p0, by omega, h2⟩
/-- what may follow: the end, ')' or a blank -/
def Fol (s : ByteArray) (q : Int) : Prop := (s.size : Int) ≤ q ∨ bt s q = 41 ∨ bt s q = 32
theorem scan_no (f : Int → Bool) (s : ByteArray) (q : Int) (h : ¬ (q < (s.size : Int) ∧ f (bt s q) = true)) : ∀ d : Nat, scan f s d q = q
  | 0 => rfl
  | d + 1 => by
    rw [scan]
    by_cases c : q < (s.size : Int)
    · rw [if_pos c, if_neg (fun e => h ⟨c, e⟩)]
    · rw [if_neg c]
theorem scan_more (f : Int → Bool) (s : ByteArray) : ∀ (d d' : Nat) (p : Int), (s.size : Int) ≤ p + d → (s.size : Int) ≤ p + d' → scan f s d p = scan f s d' p
  | 0, 0, p, h, h' => rfl
  | 0, d' + 1, p, h, h' => by rw [scan_no f s p (fun e => by have := e.1; omega) (d' + 1)]; rfl
  | d + 1, 0, p, h, h' => by rw [scan_no f s p (fun e => by have := e.1; omega) (d + 1)]; rfl
  | d + 1, d' + 1, p, h, h' => by
    rw [scan, scan, scan_more f s d d' (p + 1) (by omega) (by omega)]
theorem next_blank {s : ByteArray} {p : Int} (h0 : 0 ≤ p) (h1 : p < (s.size : Int)) (hb : bt s p = 32) : nextF s p = nextF s (p + 1) := by
  have e : scan (fun c => c == 32) s s.size p = scan (fun c => c == 32) s s.size (p + 1) := by
    have h2 : scan (fun c => c == 32) s (s.size + 1) p = scan (fun c => c == 32) s s.size (p + 1) := by
      rw [scan, if_pos h1, if_pos (by simp [hb])]
    rw [← h2]
    exact scan_more _ s _ _ _ (by omega) (by omega)
  unfold nextF
  simp only [e]
theorem next_mark {s : ByteArray} {p c : Int} (h1 : p < (s.size : Int)) (hb : bt s p = c) (hc : sign12 c = true) (hn : ¬ long3 c = true) (h2 : ¬ (97 ≤ c ∧ c ≤ 122)) (h3 : ¬ (c = 45 ∨ (48 ≤ c ∧ c ≤ 57))) (h4 : c ≠ 34) (h5 : c ≠ 32) :
    nextF s p = .ok ⟨p + 1, ⟨c, false, p, ⟨#[]⟩, 0⟩⟩ := by
  unfold nextF
  rw [scan_no _ s p (fun e => by have := e.2; simp [hb] at this; exact h5 this)]
  simp only [if_pos h1, hb, if_neg h2, if_neg h3, if_neg h4]
  unfold markF
  rw [if_neg hn, if_pos hc]
  rfl
theorem next_not {s : ByteArray} {p : Int} (h1 : p < (s.size : Int)) (hb : bt s p = 33) (h2 : ¬ (p + 1 < (s.size : Int) ∧ bt s (p + 1) = 61)) :
    nextF s p = .ok ⟨p + 1, ⟨33, false, p, ⟨#[]⟩, 0⟩⟩ := by
  unfold nextF
  rw [scan_no _ s p (fun e => by have := e.2; simp [hb] at this)]
  simp only [if_pos h1, hb]
  rw [if_neg (by omega), if_neg (by omega), if_neg (by omega)]
  unfold markF
  rw [if_pos (by decide), if_neg h2]
  rfl
/-- from some depth on -/
def Pr (s : ByteArray) (m : Md) (t : St) (l : List S54) (t' : St) : Prop := ∃ n0 : Nat, ∀ n, n0 ≤ n → pr s n m t = some (.ok (l, t'))
/-- the word behind -/
def Fw (t : St) : Prop := t.w.kd = 101 ∨ t.w.kd = 41 ∨ t.w.kd = 38 ∨ t.w.kd = 124
/-- a UNIT -/
def UU (T : ByteArray) (l : List S54) : Prop := ∀ (s : ByteArray) (p : Int) (t' : St), Sits s T p → Fol s (p + T.size) → nextF s (p + T.size) = .ok t' → Fw t' → ∃ t, nextF s p = .ok t ∧ Pr s .unit t l t'
/-- an ALL -/
def AA (T : ByteArray) (l : List S54) : Prop := ∀ (s : ByteArray) (p : Int) (t' : St), Sits s T p → Fol s (p + T.size) → nextF s (p + T.size) = .ok t' → Fw t' → ∃ t, nextF s p = .ok t ∧ ∃ l1 t1 l2, l = l1 ++ l2 ∧ Pr s .unit t l1 t1 ∧ ∀ lr t'', Pr s .alls t' lr t'' → Pr s .alls t1 (l2 ++ lr) t''
/-- an ANY -/
def OO (T : ByteArray) (l : List S54) : Prop := ∀ (s : ByteArray) (p : Int) (t' : St), Sits s T p → Fol s (p + T.size) → nextF s (p + T.size) = .ok t' → Fw t' → t'.w.kd ≠ 38 → ∃ t, nextF s p = .ok t ∧ ∃ l1 t1 l2 t2 l3, l = l1 ++ l2 ++ l3 ∧ Pr s .unit t l1 t1 ∧ Pr s .alls t1 l2 t2 ∧ ∀ lr t'', Pr s .sums t' lr t'' → Pr s .sums t2 (l3 ++ lr) t''
theorem isF_no' {s : ByteArray} {c : Int} {t : St} (h : t.w.kd ≠ c) : isF s c t = .ok (false, t) := by unfold isF; rw [if_neg (fun e => h e.1)]
theorem isF_yes' {s : ByteArray} {c : Int} {t t' : St} (h : t.w.kd = c) (hl : t.w.lg = false) (hn : nextF s t.p = .ok t') : isF s c t = .ok (true, t') := by unfold isF; rw [if_pos ⟨h, hl⟩, hn]; rfl
theorem Pr.alls_no {s : ByteArray} {t : St} (h : t.w.kd ≠ 38) : Pr s .alls t [] t := ⟨1, fun n hn => by
  obtain ⟨m, rfl⟩ : ∃ m, n = m + 1 := ⟨n - 1, by omega⟩
  rw [pr, isF_no' h]⟩
theorem Pr.sums_no {s : ByteArray} {t : St} (h : t.w.kd ≠ 124) : Pr s .sums t [] t := ⟨1, fun n hn => by
  obtain ⟨m, rfl⟩ : ∃ m, n = m + 1 := ⟨n - 1, by omega⟩
  rw [pr, isF_no' h]⟩
theorem Pr.alls_yes {s : ByteArray} {t t1 t2 t3 : St} {l1 l2 : List S54} (h : t.w.kd = 38) (hl : t.w.lg = false) (hn : nextF s t.p = .ok t1) (hu : Pr s .unit t1 l1 t2) (ha : Pr s .alls t2 l2 t3) : Pr s .alls t (l1 ++ [op54 5] ++ l2) t3 := by
  obtain ⟨a, ha1⟩ := hu
  obtain ⟨b, hb1⟩ := ha
  refine ⟨max a b + 1, fun n hn' => ?_⟩
  obtain ⟨m, rfl⟩ : ∃ m, n = m + 1 := ⟨n - 1, by omega⟩
  rw [pr, isF_yes' h hl hn]
  dsimp only
  rw [ha1 m (by omega)]
  simp only [Option.bind_some]
  rw [hb1 m (by omega)]
  rfl
theorem Pr.sums_yes {s : ByteArray} {t t1 t2 t3 t4 : St} {l1 l2 l3 : List S54} (h : t.w.kd = 124) (hl : t.w.lg = false) (hn : nextF s t.p = .ok t1) (hu : Pr s .unit t1 l1 t2) (ha : Pr s .alls t2 l2 t3) (hs : Pr s .sums t3 l3 t4) : Pr s .sums t (l1 ++ l2 ++ [op54 6] ++ l3) t4 := by
  obtain ⟨a, ha1⟩ := hu
  obtain ⟨b, hb1⟩ := ha
  obtain ⟨c, hc1⟩ := hs
  refine ⟨max (max a b) c + 1, fun n hn' => ?_⟩
  obtain ⟨m, rfl⟩ : ∃ m, n = m + 1 := ⟨n - 1, by omega⟩
  rw [pr, isF_yes' h hl hn]
  dsimp only
  rw [ha1 m (by omega)]
  simp only [Option.bind_some]
  rw [hb1 m (by omega)]
  simp only [Option.bind_some]
  rw [hc1 m (by omega)]
  rfl
theorem Pr.sum_of {s : ByteArray} {t t1 t2 t3 : St} {l1 l2 l3 : List S54} (hu : Pr s .unit t l1 t1) (ha : Pr s .alls t1 l2 t2) (hs : Pr s .sums t2 l3 t3) : Pr s .sum t (l1 ++ l2 ++ l3) t3 := by
  obtain ⟨a, ha1⟩ := hu
  obtain ⟨b, hb1⟩ := ha
  obtain ⟨c, hc1⟩ := hs
  refine ⟨max (max a b) c + 1, fun n hn' => ?_⟩
  obtain ⟨m, rfl⟩ : ∃ m, n = m + 1 := ⟨n - 1, by omega⟩
  rw [pr, ha1 m (by omega)]
  simp only [Option.bind_some]
  rw [hb1 m (by omega)]
  simp only [Option.bind_some]
  rw [hc1 m (by omega)]
  rfl
theorem UU.all {T : ByteArray} {l : List S54} (h : UU T l) : AA T l := by
  intro s p t' h1 h2 h3 hw
  obtain ⟨t, e, u⟩ := h s p t' h1 h2 h3 hw
  exact ⟨t, e, l, t', [], by simp, u, fun lr t'' h => by simpa using h⟩
theorem AA.any {T : ByteArray} {l : List S54} (h : AA T l) : OO T l := by
  intro s p t' h1 h2 h3 hw h4
  obtain ⟨t, e, l1, t1, l2, e1, u, a⟩ := h s p t' h1 h2 h3 hw
  refine ⟨t, e, l1, t1, l2, t', [], by simp [e1], u, ?_, fun lr t'' h => by simpa using h⟩
  simpa using a [] t' (Pr.alls_no h4)
theorem OO.sum {T : ByteArray} {l : List S54} (h : OO T l) {s : ByteArray} {p : Int} {t' : St} (h1 : Sits s T p) (h2 : Fol s (p + T.size)) (h3 : nextF s (p + T.size) = .ok t') (hw : Fw t') (h4 : t'.w.kd ≠ 38) (h5 : t'.w.kd ≠ 124) :
    ∃ t, nextF s p = .ok t ∧ Pr s .sum t l t' := by
  obtain ⟨t, e, l1, t1, l2, t2, l3, e1, u, a, g⟩ := h s p t' h1 h2 h3 hw h4
  refine ⟨t, e, ?_⟩
  rw [e1]
  exact Pr.sum_of u a (by simpa using g [] t' (Pr.sums_no h5))
end Go.Proofs.Ytmgljgmieomngaa.Pz
namespace Go.Proofs.Ytmgljgmieomngaa.Pz
open Go Go.RowKit Go.Proofs.YtmgljgmieomngaaW.PrintWords Go.Proofs.YtmgljgmieomngaaW.PrintLast Go.Proofs.YtmgljgmieomngaaW.PrintMore Go.Proofs.Ytmgljgmieomngaa.Q
set_option linter.unusedVariables false
theorem sz1 (c : UInt8) : (⟨#[c]⟩ : ByteArray).size = 1 := rfl
/-- a sign read at a place -/
def sgn (p c : Int) : St := ⟨p + 1, ⟨c, false, p, ⟨#[]⟩, 0⟩⟩
theorem sgn_no {s : ByteArray} (p c d : Int) (h : c ≠ d) : isF s d (sgn p c) = .ok (false, sgn p c) := isF_no' (t := sgn p c) h
theorem sgn_yes {s : ByteArray} (p c : Int) {t' : St} (h : nextF s (p + 1) = .ok t') : isF s c (sgn p c) = .ok (true, t') := isF_yes' (t := sgn p c) rfl rfl h
/-- a text that doesn't begin with '=' -/
def FB (T : ByteArray) : Prop := 0 < T.size ∧ bt T 0 ≠ 61
theorem FB.app {A : ByteArray} (h : FB A) (B : ByteArray) : FB (A ++ B) := by
  have hz : (A ++ B).size = A.size + B.size := ByteArray.size_append
  have h1 := h.1
  refine ⟨by omega, ?_⟩
  rw [bt_l A B 0 (by omega) (by omega)]
  exact h.2
theorem FB.one (c : UInt8) (h : c ≠ 61) (B : ByteArray) : FB (⟨#[c]⟩ ++ B) := by
  refine FB.app ⟨by rw [sz1]; decide, ?_⟩ B
  have : bt ⟨#[c]⟩ 0 = (c.toNat : Int) := rfl
  rw [this]
  intro e
  apply h
  have : c.toNat = (61 : UInt8).toNat := by simpa using (by omega : c.toNat = 61)
  exact UInt8.toNat_inj.1 this
theorem UU.not {T : ByteArray} {l : List S54} (h : UU T l) (hf : FB T) : UU (⟨#[33]⟩ ++ T) (l ++ [op54 4]) := by
  intro s p t' h1 h2 h3 hw
  have hz : ((⟨#[33]⟩ : ByteArray) ++ T).size = (⟨#[33]⟩ : ByteArray).size + T.size := ByteArray.size_append
  have hs := sz1 33
  obtain ⟨a0, a1, a2⟩ := h1.left.one
  have r := h1.right
  rw [hs] at r
  have ez : p + (((⟨#[33]⟩ : ByteArray) ++ T).size : Int) = p + ((1 : Nat) : Int) + T.size := by omega
  rw [ez] at h2 h3
  obtain ⟨t1, e1, n0, u⟩ := h s _ t' r h2 h3 hw
  have hb := r.at' 0 (by omega) (by have := hf.1; omega)
  rw [Int.add_zero] at hb
  refine ⟨sgn p 33, next_not a1 a2 (fun e => hf.2 (by rw [← hb]; exact e.2)), n0 + 1, fun n hn => ?_⟩
  obtain ⟨m, rfl⟩ : ∃ m, n = m + 1 := ⟨n - 1, by omega⟩
  rw [pr, sgn_yes p 33 e1]
  dsimp only
  rw [u m (by omega)]
  rfl
theorem OO.paren {T : ByteArray} {l : List S54} (h : OO T l) : UU ((⟨#[40]⟩ ++ T) ++ ⟨#[41]⟩) l := by
  intro s p t' h1 h2 h3 hw
  have hz1 : ((⟨#[40]⟩ : ByteArray) ++ T).size = (⟨#[40]⟩ : ByteArray).size + T.size := ByteArray.size_append
  have hz2 : (((⟨#[40]⟩ : ByteArray) ++ T) ++ (⟨#[41]⟩ : ByteArray)).size = ((⟨#[40]⟩ : ByteArray) ++ T).size + (⟨#[41]⟩ : ByteArray).size := ByteArray.size_append
  have hs := sz1 40
  have hs2 := sz1 41
  obtain ⟨a0, a1, a2⟩ := h1.left.left.one
  have r := h1.left.right
  obtain ⟨b0, b1, b2⟩ := h1.right.one
  rw [hs] at r
  have e1 : p + (((⟨#[40]⟩ : ByteArray) ++ T).size : Int) = p + ((1 : Nat) : Int) + T.size := by omega
  rw [e1] at b0 b1 b2
  have e2 : p + ((((⟨#[40]⟩ : ByteArray) ++ T) ++ (⟨#[41]⟩ : ByteArray)).size : Int) = p + ((1 : Nat) : Int) + T.size + 1 := by omega
  rw [e2] at h2 h3
  obtain ⟨t1, q1, n0, u⟩ := h.sum r (.inr (.inl b2)) (t' := sgn (p + ((1 : Nat) : Int) + T.size) 41) (next_mark b1 b2 (by decide) (by decide) (by decide) (by decide) (by decide) (by decide)) (.inr (.inl rfl)) (show (41 : Int) ≠ 38 by decide) (show (41 : Int) ≠ 124 by decide)
  refine ⟨sgn p 40, next_mark a1 a2 (by decide) (by decide) (by decide) (by decide) (by decide) (by decide), n0 + 1, fun n hn => ?_⟩
  obtain ⟨m, rfl⟩ : ∃ m, n = m + 1 := ⟨n - 1, by omega⟩
  rw [pr, sgn_no p 40 33 (by decide)]
  dsimp only
  rw [sgn_yes p 40 q1]
  dsimp only
  rw [u m (by omega)]
  have hw : wantF s 41 (sgn (p + ((1 : Nat) : Int) + T.size) 41) = .ok ((sgn (p + ((1 : Nat) : Int) + T.size) 41).w, t') := by
    unfold wantF
    rw [if_pos ⟨rfl, rfl⟩]
    change (nextF s (p + ((1 : Nat) : Int) + T.size + 1)).bind _ = _
    rw [h3]
    rfl
  simp only [Option.bind_some, Out.bind, hw]
theorem UU.star : UU ⟨#[42]⟩ [op54 1] := by
  intro s p t' h1 h2 h3 hw
  obtain ⟨a0, a1, a2⟩ := h1.one
  rw [sz1] at h3
  refine ⟨sgn p 42, next_mark a1 a2 (by decide) (by decide) (by decide) (by decide) (by decide) (by decide), 1, fun n hn => ?_⟩
  obtain ⟨m, rfl⟩ : ∃ m, n = m + 1 := ⟨n - 1, by omega⟩
  rw [pr, sgn_no p 42 33 (by decide)]
  dsimp only
  rw [sgn_no p 42 40 (by decide)]
  dsimp only
  rw [sgn_yes p 42 h3]
theorem UU.none : UU ⟨#[35]⟩ [op54 2] := by
  intro s p t' h1 h2 h3 hw
  obtain ⟨a0, a1, a2⟩ := h1.one
  rw [sz1] at h3
  refine ⟨sgn p 35, next_mark a1 a2 (by decide) (by decide) (by decide) (by decide) (by decide) (by decide), 1, fun n hn => ?_⟩
  obtain ⟨m, rfl⟩ : ∃ m, n = m + 1 := ⟨n - 1, by omega⟩
  rw [pr, sgn_no p 35 33 (by decide)]
  dsimp only
  rw [sgn_no p 35 40 (by decide)]
  dsimp only
  rw [sgn_no p 35 42 (by decide)]
  dsimp only
  rw [sgn_yes p 35 h3]
/-- a sign between blanks -/
theorem mid {s A B : ByteArray} {c : UInt8} {p : Int} (h : Sits s ((A ++ ⟨#[32, c, 32]⟩) ++ B) p) (hc : sign12 (c.toNat : Int) = true) (hn : ¬ long3 (c.toNat : Int) = true) (h2 : ¬ (97 ≤ (c.toNat : Int) ∧ (c.toNat : Int) ≤ 122)) (h3 : ¬ ((c.toNat : Int) = 45 ∨ (48 ≤ (c.toNat : Int) ∧ (c.toNat : Int) ≤ 57))) (h4 : (c.toNat : Int) ≠ 34) (h5 : (c.toNat : Int) ≠ 32) :
    Sits s A p ∧ Sits s B (p + A.size + 3) ∧ bt s (p + A.size) = 32 ∧ nextF s (p + A.size) = .ok ⟨p + A.size + 2, ⟨(c.toNat : Int), false, p + A.size + 1, ⟨#[]⟩, 0⟩⟩ ∧ nextF s (p + A.size + 2) = nextF s (p + A.size + 3) ∧
    p + (((A ++ ⟨#[32, c, 32]⟩) ++ B).size : Int) = p + A.size + 3 + B.size := by
  have z1 : (A ++ (⟨#[32, c, 32]⟩ : ByteArray)).size = A.size + (⟨#[32, c, 32]⟩ : ByteArray).size := ByteArray.size_append
  have z2 : ((A ++ (⟨#[32, c, 32]⟩ : ByteArray)) ++ B).size = (A ++ (⟨#[32, c, 32]⟩ : ByteArray)).size + B.size := ByteArray.size_append
  have z3 : (⟨#[32, c, 32]⟩ : ByteArray).size = 3 := rfl
  have hA := h.left.left
  have hM := h.left.right
  have hB := h.right
  have e1 : p + ((A ++ (⟨#[32, c, 32]⟩ : ByteArray)).size : Int) = p + A.size + 3 := by omega
  rw [e1] at hB
  have m0 := hM.at' 0 (by omega) (by omega)
  have m1 := hM.at' 1 (by omega) (by omega)
  have m2 := hM.at' 2 (by omega) (by omega)
  rw [Int.add_zero] at m0
  have p0 := hA.p0
  have le := hM.le
  rw [z3] at le
  have m0 : bt s (p + A.size) = 32 := m0
  have m1 : bt s (p + A.size + 1) = (c.toNat : Int) := m1
  have m2 : bt s (p + A.size + 2) = 32 := m2
  refine ⟨hA, hB, m0, ?_, ?_, by omega⟩
  · rw [next_blank (by omega) (by omega) m0, next_mark (by omega) m1 hc hn h2 h3 h4 h5, show p + (A.size : Int) + 1 + 1 = p + A.size + 2 by omega]
  · rw [next_blank (by omega) (by omega) m2, show p + (A.size : Int) + 2 + 1 = p + A.size + 3 by omega]
theorem AA.and {A B : ByteArray} {la lb : List S54} (ha : AA A la) (hb : UU B lb) : AA ((A ++ ⟨#[32, 38, 32]⟩) ++ B) (la ++ lb ++ [op54 5]) := by
  intro s p t' h1 h2 h3 hw
  obtain ⟨sA, sB, m0, m1, m2, ez⟩ := mid h1 (by decide) (by decide) (by decide) (by decide) (by decide) (by decide)
  rw [ez] at h2 h3
  obtain ⟨tb, e1, ub⟩ := hb s _ t' sB h2 h3 hw
  obtain ⟨t, e2, l1, t1, l2, e3, ua, g⟩ := ha s p _ sA (.inr (.inr m0)) m1 (.inr (.inr (.inl rfl)))
  refine ⟨t, e2, l1, t1, l2 ++ lb ++ [op54 5], by simp [e3], ua, fun lr t'' hr => ?_⟩
  have := g _ t'' (Pr.alls_yes rfl rfl (m2.trans e1) ub hr)
  simpa using this
theorem OO.or {A B : ByteArray} {la lb : List S54} (ha : OO A la) (hb : AA B lb) : OO ((A ++ ⟨#[32, 124, 32]⟩) ++ B) (la ++ lb ++ [op54 6]) := by
  intro s p t' h1 h2 h3 hw h4
  obtain ⟨sA, sB, m0, m1, m2, ez⟩ := mid h1 (by decide) (by decide) (by decide) (by decide) (by decide) (by decide)
  rw [ez] at h2 h3
  obtain ⟨tb, e1, k1, u1, k2, e4, ub, gb⟩ := hb s _ t' sB h2 h3 hw
  obtain ⟨t, e2, l1, t1, l2, t2, l3, e3, ua, aa, g⟩ := ha s p _ sA (.inr (.inr m0)) m1 (.inr (.inr (.inr rfl))) (show (124 : Int) ≠ 38 by decide)
  have hc := gb [] t' (Pr.alls_no h4)
  rw [List.append_nil] at hc
  refine ⟨t, e2, l1, t1, l2, t2, l3 ++ lb ++ [op54 6], by simp [e3], ua, aa, fun lr t'' hr => ?_⟩
  have := g _ t'' (Pr.sums_yes rfl rfl (m2.trans e1) ub hc hr)
  simpa [e4] using this
end Go.Proofs.Ytmgljgmieomngaa.Pz
namespace Go.Proofs.Ytmgljgmieomngaa.Pz
open Go Go.RowKit Go.Proofs.YtmgljgmieomngaaW.PrintWords Go.Proofs.YtmgljgmieomngaaW.PrintLast Go.Proofs.YtmgljgmieomngaaW.PrintMore Go.Proofs.Ytmgljgmieomngaa.Q
set_option linter.unusedVariables false
theorem scan_run (f : Int → Bool) (s : ByteArray) : ∀ (k d : Nat) (p : Int), (∀ i : Int, p ≤ i → i < p + k → i < (s.size : Int) ∧ f (bt s i) = true) → scan f s (d + k) p = scan f s d (p + k)
  | 0, d, p, h => by simp
  | k + 1, d, p, h => by
    rw [show d + (k + 1) = d + k + 1 by omega, scan, if_pos (h p (by omega) (by omega)).1, if_pos (h p (by omega) (by omega)).2, scan_run f s k d (p + 1) (fun i h0 h1 => h i (by omega) (by omega))]
    congr 1; omega
theorem bt_eq {a b : ByteArray} (hs : a.size = b.size) (h : ∀ i : Int, 0 ≤ i → i < a.size → bt a i = bt b i) : a = b := by
  apply ByteArray.ext
  apply Array.ext
  · exact hs
  · intro i h1 h2
    have h1' : i < a.size := h1
    have h2' : i < b.size := h2
    have := h i (by omega) (by omega)
    rw [← bt_at a i (by simpa using h1'), ← bt_at b i (by simpa using h2')] at this
    simp only [Int.toNat_natCast] at this
    have e : (a[i]'h1').toNat = (b[i]'h2').toNat := by omega
    exact UInt8.toNat_inj.1 e
theorem bt_cut (s : ByteArray) (a b : Nat) (hb : b ≤ s.size) (i : Int) (h0 : 0 ≤ i) (h1 : (a : Int) + i < b) : bt (s.extract a b) i = bt s (a + i) := by
  have hs : (s.extract a b).size = min b s.size - a := ByteArray.size_extract
  have hi : i.toNat < (s.extract a b).size := by rw [hs]; omega
  have hi2 : ((a : Int) + i).toNat < s.size := by omega
  rw [← bt_at (s.extract a b) i hi, ← bt_at s (a + i) hi2, ByteArray.getElem_extract]
  have e : ((a : Int) + i).toNat = a + i.toNat := by omega
  simp only [e]
theorem Sits.cut {s T : ByteArray} {p : Int} (h : Sits s T p) : s.extract p.toNat (p + T.size).toNat = T := by
  have h0 := h.p0
  have h1 := h.le
  have hs : (s.extract p.toNat (p + T.size).toNat).size = T.size := by rw [ByteArray.size_extract]; omega
  refine bt_eq hs (fun i i0 i1 => ?_)
  rw [bt_cut s _ _ (by omega) i i0 (by omega), ← h.at' i i0 (by omega)]
  congr 1; omega
/-- where a run of such bytes ends -/
theorem scan_text {f : Int → Bool} {s T : ByteArray} {p : Int} (h : Sits s T p) (ha : ∀ i : Int, 0 ≤ i → i < T.size → f (bt T i) = true) (he : ¬ (p + T.size < (s.size : Int) ∧ f (bt s (p + T.size)) = true)) : scan f s s.size p = p + T.size := by
  have h0 := h.p0
  have h1 := h.le
  have e := scan_run f s T.size (s.size - T.size) p (fun i i0 i1 => ⟨by omega, by
    have := h.at' (i - p) (by omega) (by omega)
    rw [show p + (i - p) = i by omega] at this
    rw [this]; exact ha _ (by omega) (by omega)⟩)
  rw [show s.size - T.size + T.size = s.size by omega] at e
  rw [e]
  exact scan_no f s _ he _
theorem next_name {s T : ByteArray} {p : Int} (h : Sits s T p) (h0 : 0 < T.size) (h16 : T.size ≤ 16) (hf : 97 ≤ bt T 0 ∧ bt T 0 ≤ 122) (ha : ∀ i : Int, 0 ≤ i → i < T.size → isNm (bt T i) = true) (he : ¬ (p + T.size < (s.size : Int) ∧ isNm (bt s (p + T.size)) = true)) :
    nextF s p = .ok ⟨p + T.size, ⟨110, false, p, T, 0⟩⟩ := by
  have hp := h.p0
  have hl := h.le
  have hb := h.at' 0 (by omega) (by omega)
  rw [Int.add_zero] at hb
  unfold nextF
  rw [scan_no _ s p (fun e => by have := e.2; rw [hb] at this; simp at this; omega)]
  dsimp only
  rw [if_pos (by omega), hb, if_pos hf]
  unfold nameF
  rw [scan_text h ha he]
  dsimp only
  rw [if_neg (by omega), h.cut]
  rfl
/-- digits that stand in a text: what digs does -/
theorem digs_one_ {s : ByteArray} {d : Nat} {p u : Int} (h : p < (s.size : Int)) (h0 : 48 ≤ bt s p) (h1 : bt s p ≤ 57) (hu : 0 ≤ u) (hb : u * 10 + (bt s p - 48) ≤ 9223372036854775808) :
    digs s (d + 1) p u false = digs s d (p + 1) (u * 10 + (bt s p - 48)) false := by
  rw [digs, if_pos ⟨h, h0, h1⟩]
  have e : IntKind.u64.wrap (u * 10 + (bt s p - 48)) = u * 10 + (bt s p - 48) := by
    simp only [IntKind.wrap, IntKind.signed, IntKind.bits]
    simp
    omega
  have e2 : decide (u > (9223372036854775808 - (bt s p - 48)) / 10) = false := decide_eq_false (by omega)
  rw [e, e2]
  rfl
end Go.Proofs.Ytmgljgmieomngaa.Pz
namespace Go.Proofs.Ytmgljgmieomngaa.Pz
open Go Go.RowKit Go.Proofs.YtmgljgmieomngaaW.PrintWords Go.Proofs.YtmgljgmieomngaaW.PrintLast Go.Proofs.YtmgljgmieomngaaW.PrintMore Go.Proofs.Ytmgljgmieomngaa.Q
set_option linter.unusedVariables false
/-- numbers that stand in a text from a place on -/
def Lies (s : ByteArray) : Int → List Int → Prop
  | _, [] => True
  | p, x :: l => p < (s.size : Int) ∧ bt s p = x ∧ Lies s (p + 1) l
theorem Lies.app {s : ByteArray} : ∀ {p : Int} {a b : List Int}, Lies s p (a ++ b) → Lies s p a ∧ Lies s (p + a.length) b
  | p, [], b, h => ⟨trivial, by simpa using h⟩
  | p, x :: a, b, h => by
    obtain ⟨h1, h2, h3⟩ := h
    obtain ⟨h4, h5⟩ := Lies.app h3
    refine ⟨⟨h1, h2, h4⟩, ?_⟩
    rw [show p + ((x :: a).length : Int) = p + 1 + a.length by simp; omega]
    exact h5
/-- a number's digits -/
def dd : Nat → Nat → List Int
  | 0, u => [48 + (u % 10 : Nat)]
  | d + 1, u => if u < 10 then [48 + (u : Int)] else dd d (u / 10) ++ [48 + ((u % 10 : Nat) : Int)]
theorem dd_ne : ∀ (d u : Nat), 0 < (dd d u).length
  | 0, u => by simp [dd]
  | d + 1, u => by rw [dd]; split <;> simp
theorem dd_first : ∀ (d u : Nat), u < 10 ^ (d + 1) → ∀ x l, dd d u = x :: l → 48 ≤ x ∧ x ≤ 57 ∧ (x = 48 → u = 0 ∧ l = [])
  | 0, u, h, x, l, e => by
    simp only [dd, List.cons.injEq] at e
    obtain ⟨rfl, rfl⟩ := e
    have : u % 10 = u := Nat.mod_eq_of_lt (by simpa using h)
    refine ⟨by omega, by omega, fun h => ⟨by omega, rfl⟩⟩
  | d + 1, u, h, x, l, e => by
    rw [dd] at e
    by_cases c : u < 10
    · rw [if_pos c] at e
      simp only [List.cons.injEq] at e
      obtain ⟨rfl, rfl⟩ := e
      refine ⟨by omega, by omega, fun h => ⟨by omega, rfl⟩⟩
    · rw [if_neg c] at e
      cases hd : dd d (u / 10) with
      | nil => have := dd_ne d (u / 10); rw [hd] at this; simp at this
      | cons y m =>
        rw [hd] at e
        simp only [List.cons_append, List.cons.injEq] at e
        obtain ⟨rfl, rfl⟩ := e
        have h10 : u / 10 < 10 ^ (d + 1) := Nat.div_lt_of_lt_mul (by rw [Nat.pow_succ] at h; omega)
        obtain ⟨a, b, c'⟩ := dd_first d (u / 10) h10 y m hd
        refine ⟨a, b, fun h => ?_⟩
        have := (c' h).1
        omega
theorem digs_dd (s : ByteArray) : ∀ (d u : Nat) (p : Int) (m : Nat), u < 10 ^ (d + 1) → (u : Int) ≤ 9223372036854775808 → Lies s p (dd d u) → digs s (m + (dd d u).length) p 0 false = digs s m (p + (dd d u).length) u false
  | 0, u, p, m, h, hu, hl => by
    obtain ⟨h1, h2, _⟩ := hl
    have : u % 10 = u := Nat.mod_eq_of_lt (by simpa using h)
    have e := digs_one_ (d := m) h1 (u := 0) (by omega) (by omega) (by omega) (by omega)
    simp only [dd, List.length_cons, List.length_nil]
    rw [show m + (0 + 1) = m + 1 by omega, e]
    congr 1
    omega
  | d + 1, u, p, m, h, hu, hl => by
    rw [dd] at hl ⊢
    by_cases c : u < 10
    · rw [if_pos c] at hl ⊢
      obtain ⟨h1, h2, _⟩ := hl
      have e := digs_one_ (d := m) h1 (u := 0) (by omega) (by omega) (by omega) (by omega)
      simp only [List.length_cons, List.length_nil]
      rw [show m + (0 + 1) = m + 1 by omega, e]
      congr 1
      omega
    · rw [if_neg c] at hl ⊢
      obtain ⟨l1, h1, h2, _⟩ := hl.app
      have h10 : u / 10 < 10 ^ (d + 1) := Nat.div_lt_of_lt_mul (by rw [Nat.pow_succ] at h; omega)
      have ih := digs_dd s d (u / 10) p (m + 1) h10 (by omega) l1
      have e := digs_one_ (d := m) h1 (u := ((u / 10 : Nat) : Int)) (by omega) (by omega) (by omega) (by omega)
      simp only [List.length_append, List.length_cons, List.length_nil]
      rw [show m + ((dd d (u / 10)).length + (0 + 1)) = m + 1 + (dd d (u / 10)).length by omega, ih, e]
      have e2 : ((u / 10 : Nat) : Int) * 10 + (bt s (p + (dd d (u / 10)).length) - 48) = u := by rw [h2]; omega
      rw [e2]
      congr 1
      omega
end Go.Proofs.Ytmgljgmieomngaa.Pz
namespace Go.Proofs.Ytmgljgmieomngaa.Pz
open Go Go.RowKit Go.Proofs.YtmgljgmieomngaaW.PrintWords Go.Proofs.YtmgljgmieomngaaW.PrintLast Go.Proofs.YtmgljgmieomngaaW.PrintMore Go.Proofs.Ytmgljgmieomngaa.Q
set_option linter.unusedVariables false
theorem str_size (l : List Int) : (strOfNums l).size = l.length := by
  simp [strOfNums, ByteArray.size]
theorem str_bt (l : List Int) (hb : ∀ x ∈ l, 0 ≤ x ∧ x ≤ 255) (i : Nat) (hi : i < l.length) : bt (strOfNums l) i = l[i] := by
  have h1 : ((i : Int)).toNat < (strOfNums l).size := by rw [str_size]; simpa using hi
  rw [← bt_at _ _ h1]
  have h2 := hb l[i] (List.getElem_mem hi)
  have e : (strOfNums l)[((i : Int)).toNat] = UInt8.ofNat l[i].toNat := by
    simp [strOfNums, ByteArray.getElem_eq_getElem_data]
  rw [e]
  simp
  omega
theorem Sits.lies {s : ByteArray} : ∀ {l : List Int} {p : Int}, (∀ x ∈ l, 0 ≤ x ∧ x ≤ 255) → Sits s (strOfNums l) p → Lies s p l := by
  intro l p hb h
  have hz := str_size l
  have g : ∀ (l2 l1 : List Int), l = l1 ++ l2 → Lies s (p + l1.length) l2 := by
    intro l2
    induction l2 with
    | nil => intro _ _; trivial
    | cons x l2 ih =>
      intro l1 e
      have hlen : l1.length < l.length := by rw [e]; simp
      have := h.le
      refine ⟨by omega, ?_, ?_⟩
      · rw [h.at' _ (by omega) (by omega), str_bt l hb _ hlen]
        simp [e]
      · have := ih (l1 ++ [x]) (by simp [e])
        rw [show p + ((l1 ++ [x]).length : Int) = p + l1.length + 1 by simp; omega] at this
        exact this
  simpa using g l [] rfl
theorem dd_bytes : ∀ (d u : Nat), ∀ x ∈ dd d u, 48 ≤ x ∧ x ≤ 57
  | 0, u, x, h => by simp [dd] at h; omega
  | d + 1, u, x, h => by
    rw [dd] at h
    split at h
    · simp at h; omega
    · rcases List.mem_append.1 h with h | h
      · exact dd_bytes d _ x h
      · simp at h; omega
/-- a number's text -/
def dg (n : Int) : ByteArray := if n < 0 then ⟨#[45]⟩ ++ strOfNums (dd 19 n.natAbs) else strOfNums (dd 19 n.natAbs)
end Go.Proofs.Ytmgljgmieomngaa.Pz
namespace Go.Proofs.Ytmgljgmieomngaa.Pz
open Go Go.RowKit Go.Proofs.YtmgljgmieomngaaW.PrintWords Go.Proofs.YtmgljgmieomngaaW.PrintLast Go.Proofs.YtmgljgmieomngaaW.PrintMore Go.Proofs.Ytmgljgmieomngaa.Q
set_option linter.unusedVariables false
theorem digs_stop {s : ByteArray} {q : Int} (h : ¬ (q < (s.size : Int) ∧ 48 ≤ bt s q ∧ bt s q ≤ 57)) (u : Int) (big : Bool) : ∀ m : Nat, digs s m q u big = (q, u, big)
  | 0 => rfl
  | m + 1 => by rw [digs, if_neg h]
/-- digits that stand in a text, all of them -/
theorem digs_all {s : ByteArray} {u : Nat} {p : Int} (hu : (u : Int) ≤ 9223372036854775808) (h : Sits s (strOfNums (dd 19 u)) p) (he : ¬ (p + (dd 19 u).length < (s.size : Int) ∧ 48 ≤ bt s (p + (dd 19 u).length) ∧ bt s (p + (dd 19 u).length) ≤ 57)) :
    digs s s.size p 0 false = (p + (dd 19 u).length, (u : Int), false) ∧ ∃ x l, dd 19 u = x :: l ∧ bt s p = x ∧ 48 ≤ x ∧ x ≤ 57 ∧ (x = 48 → u = 0 ∧ l = []) := by
  have hl := h.lies (fun x hx => by have := dd_bytes 19 u x hx; omega)
  have hp : u < 10 ^ (19 + 1) := by omega
  have hz := str_size (dd 19 u)
  have h0 := h.p0
  have h1 := h.le
  have e := digs_dd s 19 u p (s.size - (dd 19 u).length) hp hu hl
  rw [show s.size - (dd 19 u).length + (dd 19 u).length = s.size by omega, digs_stop he] at e
  refine ⟨e, ?_⟩
  cases hd : dd 19 u with
  | nil => have := dd_ne 19 u; rw [hd] at this; simp at this
  | cons x l =>
    rw [hd] at hl
    obtain ⟨a, b, c⟩ := dd_first 19 u hp x l hd
    exact ⟨x, l, rfl, hl.2.1, a, b, c⟩
theorem next_num {s : ByteArray} {n p : Int} (h0 : -9223372036854775808 ≤ n) (h1 : n ≤ 9223372036854775807) (h : Sits s (dg n) p) (he : ¬ (p + (dg n).size < (s.size : Int) ∧ 48 ≤ bt s (p + (dg n).size) ∧ bt s (p + (dg n).size) ≤ 57)) :
    nextF s p = .ok ⟨p + (dg n).size, ⟨100, false, p, ⟨#[]⟩, n⟩⟩ := by
  have hz := str_size (dd 19 n.natAbs)
  have hp0 := h.p0
  by_cases c : n < 0
  · have ez : (dg n).size = 1 + (dd 19 n.natAbs).length := by
      unfold dg
      rw [if_pos c, ByteArray.size_append, hz]
      rfl
    rw [ez] at he ⊢
    have h2 := h
    unfold dg at h2
    rw [if_pos c] at h2
    obtain ⟨a0, a1, a2⟩ := h2.left.one
    have r := h2.right
    rw [sz1] at r
    have er : p + ((1 + (dd 19 n.natAbs).length : Nat) : Int) = p + ((1 : Nat) : Int) + (dd 19 n.natAbs).length := by omega
    rw [er] at he ⊢
    obtain ⟨d1, x, l, d2, d3, d4, d5, d6⟩ := digs_all (by omega) r he
    have a2 : bt s p = 45 := a2
    have d1 : digs s s.size (p + 1) 0 false = (p + ((1 : Nat) : Int) + (dd 19 n.natAbs).length, (n.natAbs : Int), false) := d1
    have d3 : bt s (p + 1) = x := d3
    have hne := dd_ne 19 n.natAbs
    unfold nextF
    rw [scan_no _ s p (fun e => by have := e.2; rw [a2] at this; simp at this)]
    dsimp only
    rw [if_pos a1, a2, if_neg (by omega), if_pos (by omega)]
    unfold numF
    rw [a2]
    simp only [beq_self_eq_true, if_true, d1, d3]
    rw [if_neg (by
      rintro (e | ⟨e, _⟩)
      · omega
      · have := (d6 e).1
        omega), if_neg (by
      rintro (e | ⟨e, _⟩)
      · simp at e
      · simp at e)]
    have w : wrap64 (IntKind.u64.wrap (-(n.natAbs : Int))) = n := by
      simp only [IntKind.wrap, IntKind.signed, IntKind.bits, wrap64]
      simp
      omega
    rw [w]
    rfl
  · have ez : (dg n).size = (dd 19 n.natAbs).length := by
      unfold dg
      rw [if_neg c, hz]
    rw [ez] at he ⊢
    have h2 := h
    unfold dg at h2
    rw [if_neg c] at h2
    obtain ⟨d1, x, l, d2, d3, d4, d5, d6⟩ := digs_all (by omega) h2 he
    have hne := dd_ne 19 n.natAbs
    have hle := h2.le
    unfold nextF
    rw [scan_no _ s p (fun e => by have := e.2; rw [d3] at this; simp at this; omega)]
    dsimp only
    rw [if_pos (by omega), d3, if_neg (by omega), if_pos (by omega)]
    unfold numF
    have hm : (x == 45) = false := beq_eq_false_iff_ne.2 (by omega)
    simp only [d3, hm, Bool.false_eq_true, if_false, d1]
    rw [if_neg (by
      rintro (e | ⟨e, e2⟩)
      · omega
      · have := (d6 e).2
        rw [d2, this] at e2
        simp at e2), if_neg (by
      rintro (e | ⟨_, e⟩)
      · simp at e
      · omega)]
    have w : wrap64 (n.natAbs : Int) = n := by unfold wrap64; omega
    rw [w]
    rfl
end Go.Proofs.Ytmgljgmieomngaa.Pz
namespace Go.Proofs.Ytmgljgmieomngaa.Pz
open Go Go.RowKit Go.Proofs.YtmgljgmieomngaaW.PrintWords Go.Proofs.YtmgljgmieomngaaW.PrintLast Go.Proofs.YtmgljgmieomngaaW.PrintMore Go.Proofs.Ytmgljgmieomngaa.Q
set_option linter.unusedVariables false
/-- a hexadecimal digit -/
def hx (c : Int) : Int := if c < 10 then 48 + c else 87 + c
theorem hexF_hx {c : Int} (h0 : 0 ≤ c) (h1 : c ≤ 15) : hexF (hx c) = c ∧ 48 ≤ hx c ∧ hx c ≤ 102 := by
  unfold hexF hx
  split <;> (refine ⟨?_, by omega, by omega⟩; (repeat' split) <;> omega)
/-- a byte as Print writes it -/
def esc (c : Int) : List Int := if c = 34 ∨ c = 92 then [92, c] else if 32 ≤ c ∧ c < 127 then [c] else [92, 120, hx (c / 16), hx (c % 16)]
theorem strB_esc (s : ByteArray) (pl : Int) : ∀ (l : List Int) (p : Int) (out : List Int) (d : Nat), (∀ x ∈ l, 0 ≤ x ∧ x ≤ 255) → l.length < d → Lies s p (l.flatMap esc ++ [34]) → strB s pl d p out = .ok (p + (l.flatMap esc).length + 1, out ++ l)
  | [], p, out, d, hb, hd, h => by
    obtain ⟨d, rfl⟩ : ∃ m, d = m + 1 := ⟨d - 1, by simp at hd; omega⟩
    obtain ⟨h1, h2, _⟩ := h
    rw [strB, if_neg (by omega), if_pos h2]
    simp
  | c :: l, p, out, d, hb, hd, h => by
    obtain ⟨d, rfl⟩ : ∃ m, d = m + 1 := ⟨d - 1, by simp at hd; omega⟩
    have hc := hb c (by simp)
    have ih := fun (q : Int) (h : Lies s q (l.flatMap esc ++ [34])) => strB_esc s pl l q (out ++ [c]) d (fun x hx => hb x (by simp [hx])) (by simp at hd; omega) h
    rw [List.flatMap_cons, List.append_assoc] at h
    obtain ⟨he, hr⟩ := h.app
    have ih := ih _ hr
    have hlen : ((List.flatMap esc (c :: l)).length : Int) = (esc c).length + (l.flatMap esc).length := by simp
    rw [hlen]
    unfold esc at he ih ⊢
    by_cases c1 : c = 34 ∨ c = 92
    · rw [if_pos c1] at he ih ⊢
      obtain ⟨a1, a2, b1, b2, _⟩ := he
      rw [strB, if_neg (by omega), if_neg (by omega), if_pos a2, if_pos ⟨b1, by omega⟩, b2]
      rw [show p + (([92, c] : List Int).length : Int) = p + 1 + 1 by simp; omega] at ih
      rw [ih]
      simp
      omega
    · rw [if_neg c1] at he ih ⊢
      by_cases c2 : 32 ≤ c ∧ c < 127
      · rw [if_pos c2] at he ih ⊢
        obtain ⟨a1, a2, _⟩ := he
        rw [strB, if_neg (by omega), if_neg (by omega), if_neg (by omega), a2]
        rw [show p + (([c] : List Int).length : Int) = p + 1 by simp] at ih
        rw [ih]
        simp
        omega
      · rw [if_neg c2] at he ih ⊢
        obtain ⟨a1, a2, b1, b2, x1, x2, y1, y2, _⟩ := he
        have g1 := hexF_hx (c := c / 16) (by omega) (by omega)
        have g2 := hexF_hx (c := c % 16) (by omega) (by omega)
        rw [show p + 1 + 1 = p + 2 by omega] at x1 x2 y1 y2
        rw [show p + 2 + 1 = p + 3 by omega] at y1 y2
        rw [strB, if_neg (by omega), if_neg (by omega), if_pos a2, if_neg (by omega), if_pos ⟨y1, b2, by rw [x2, g1.1]; omega, by rw [y2, g2.1]; omega⟩, x2, y2, g1.1, g2.1]
        rw [show c / 16 * 16 + c % 16 = c by omega]
        rw [show p + (([92, 120, hx (c / 16), hx (c % 16)] : List Int).length : Int) = p + 3 + 1 by simp; omega] at ih
        rw [ih]
        simp
        omega
end Go.Proofs.Ytmgljgmieomngaa.Pz
namespace Go.Proofs.Ytmgljgmieomngaa.Pz
open Go Go.RowKit Go.Proofs.YtmgljgmieomngaaW.PrintWords Go.Proofs.YtmgljgmieomngaaW.PrintLast Go.Proofs.YtmgljgmieomngaaW.PrintMore Go.Proofs.Ytmgljgmieomngaa.Q
set_option linter.unusedVariables false
theorem esc_bytes {c : Int} (h : 0 ≤ c ∧ c ≤ 255) : ∀ x ∈ esc c, 0 ≤ x ∧ x ≤ 255 := by
  intro x hx'
  unfold esc at hx'
  split at hx'
  · simp at hx'; omega
  · split at hx'
    · simp at hx'; omega
    · have g1 := hexF_hx (c := c / 16) (by omega) (by omega)
      have g2 := hexF_hx (c := c % 16) (by omega) (by omega)
      simp at hx'
      omega
/-- a string as Print writes it -/
def qt (l : List Int) : ByteArray := strOfNums (34 :: (l.flatMap esc ++ [34]))
theorem qt_size (l : List Int) : (qt l).size = (l.flatMap esc).length + 2 := by
  unfold qt; rw [str_size]; simp
theorem next_str {s : ByteArray} {l : List Int} {p : Int} (hb : ∀ x ∈ l, 0 ≤ x ∧ x ≤ 255) (hl : l.length ≤ 200) (h : Sits s (qt l) p) :
    nextF s p = .ok ⟨p + (qt l).size, ⟨115, false, p, strOfNums l, 0⟩⟩ := by
  have hL := h.lies (l := 34 :: (l.flatMap esc ++ [34])) (by
    intro x hx'
    simp only [List.mem_cons, List.mem_append, List.mem_flatMap, List.not_mem_nil, or_false] at hx'
    rcases hx' with rfl | ⟨c, hc, hx'⟩ | rfl
    · omega
    · exact esc_bytes (hb c hc) x hx'
    · omega)
  obtain ⟨h1, h2, h3⟩ := hL
  have hz := qt_size l
  have hle := h.le
  have hp := h.p0
  have hlen : ∀ m : List Int, m.length ≤ (m.flatMap esc).length := by
    intro m
    induction m with
    | nil => simp
    | cons c m ih =>
      have : 0 < (esc c).length := by
        unfold esc
        split
        · simp
        · split <;> simp
      simp only [List.flatMap_cons, List.length_append, List.length_cons]
      omega
  have hl2 := hlen l
  have e := strB_esc s p l (p + 1) [] (s.size + 1) hb (by omega) h3
  unfold nextF
  rw [scan_no _ s p (fun e => by have := e.2; rw [h2] at this; simp at this)]
  dsimp only
  rw [if_pos h1, h2, if_neg (by omega), if_neg (by omega), if_pos rfl]
  unfold strF
  rw [e]
  simp only [Out.bind, List.nil_append]
  rw [if_neg (by omega)]
  dsimp only
  rw [show p + 1 + ((l.flatMap esc).length : Int) + 1 = p + (qt l).size by omega]
end Go.Proofs.Ytmgljgmieomngaa.Pz
namespace Go.Proofs.Ytmgljgmieomngaa.Pz
open Go Go.RowKit Go.Proofs.YtmgljgmieomngaaW.PrintWords Go.Proofs.YtmgljgmieomngaaW.PrintLast Go.Proofs.YtmgljgmieomngaaW.PrintMore Go.Proofs.Ytmgljgmieomngaa.Q
set_option linter.unusedVariables false
/-- what ends a name or a number -/
def FolN (s : ByteArray) (q : Int) : Prop := ¬ (q < (s.size : Int) ∧ isNm (bt s q) = true)
theorem FolN.num {s : ByteArray} {q : Int} (h : FolN s q) : ¬ (q < (s.size : Int) ∧ 48 ≤ bt s q ∧ bt s q ≤ 57) := fun e => h ⟨e.1, by unfold isNm; simp; omega⟩
theorem FolN.of {s : ByteArray} {q c : Int} (h : bt s q = c) (hc : isNm c = false) : FolN s q := fun e => by rw [h, hc] at e; simp at e
theorem Fol.n {s : ByteArray} {q : Int} (h : Fol s q) : FolN s q := by
  rcases h with h | h | h
  · exact fun e => by omega
  · exact .of h (by decide)
  · exact .of h (by decide)
theorem wantF_yes {s : ByteArray} {c : Int} {t t' : St} (h : t.w.kd = c) (hl : t.w.lg = false) (hn : nextF s t.p = .ok t') : wantF s c t = .ok (t.w, t') := by
  unfold wantF; rw [if_pos ⟨h, hl⟩, hn]; rfl
/-- a number's word read at a place -/
def nmw (p q n : Int) : St := ⟨q, ⟨100, false, p, ⟨#[]⟩, n⟩⟩
theorem partF_yes {s : ByteArray} {p q n : Int} {t' : St} (h0 : -1048576 ≤ n) (h1 : n ≤ 1048576) (hn : nextF s q = .ok t') : partF s (nmw p q n) = .ok (n, t') := by
  unfold partF
  rw [if_pos (show (nmw p q n).w.kd = 100 from rfl), if_neg (show ¬ ((nmw p q n).w.n > 1048576 ∨ (nmw p q n).w.n < -1048576) by show ¬ (n > 1048576 ∨ n < -1048576); omega)]
  show (nextF s q).bind _ = _
  rw [hn]
  rfl
def pt (x y : Int) : ByteArray := (((⟨#[40]⟩ ++ dg x) ++ ⟨#[44]⟩) ++ dg y) ++ ⟨#[41]⟩
theorem point_rd {s : ByteArray} {x y p : Int} {t' : St} (hx : -1048576 ≤ x ∧ x ≤ 1048576) (hy : -1048576 ≤ y ∧ y ≤ 1048576) (h : Sits s (pt x y) p) (hn : nextF s (p + (pt x y).size) = .ok t') :
    nextF s p = .ok (sgn p 40) ∧ pointF s (sgn p 40) = .ok (⟨4, 0, ⟨#[]⟩, false, ⟨floatOfInt .f64 x, floatOfInt .f64 y⟩⟩, t') := by
  have z1 : ((⟨#[40]⟩ : ByteArray) ++ dg x).size = (⟨#[40]⟩ : ByteArray).size + (dg x).size := ByteArray.size_append
  have z2 : (((⟨#[40]⟩ : ByteArray) ++ dg x) ++ (⟨#[44]⟩ : ByteArray)).size = ((⟨#[40]⟩ : ByteArray) ++ dg x).size + (⟨#[44]⟩ : ByteArray).size := ByteArray.size_append
  have z3 : ((((⟨#[40]⟩ : ByteArray) ++ dg x) ++ (⟨#[44]⟩ : ByteArray)) ++ dg y).size = (((⟨#[40]⟩ : ByteArray) ++ dg x) ++ (⟨#[44]⟩ : ByteArray)).size + (dg y).size := ByteArray.size_append
  have z4 : (pt x y).size = ((((⟨#[40]⟩ : ByteArray) ++ dg x) ++ (⟨#[44]⟩ : ByteArray)) ++ dg y).size + (⟨#[41]⟩ : ByteArray).size := ByteArray.size_append
  rw [sz1] at z1 z2 z4
  unfold pt at h
  have s4 := h.right.one
  have s3 := h.left.right
  have s2 := h.left.left.right.one
  have s1 := h.left.left.left.right
  have s0 := h.left.left.left.left.one
  rw [sz1] at s1
  have e2 : p + (((⟨#[40]⟩ : ByteArray) ++ dg x).size : Int) = p + ((1 : Nat) : Int) + (dg x).size := by omega
  have e3 : p + ((((⟨#[40]⟩ : ByteArray) ++ dg x) ++ (⟨#[44]⟩ : ByteArray)).size : Int) = p + ((1 : Nat) : Int) + (dg x).size + 1 := by omega
  have e4 : p + (((((⟨#[40]⟩ : ByteArray) ++ dg x) ++ (⟨#[44]⟩ : ByteArray)) ++ dg y).size : Int) = p + ((1 : Nat) : Int) + (dg x).size + 1 + (dg y).size := by omega
  have e5 : p + ((pt x y).size : Int) = p + ((1 : Nat) : Int) + (dg x).size + 1 + (dg y).size + 1 := by omega
  rw [e2] at s2
  rw [e3] at s3
  rw [e4] at s4
  rw [e5] at hn
  have n0 : nextF s p = .ok (sgn p 40) := next_mark s0.2.1 s0.2.2 (by decide) (by decide) (by decide) (by decide) (by decide) (by decide)
  have n1 := next_num (by omega) (by omega) s1 (FolN.of s2.2.2 (by decide)).num
  have n2 : nextF s (p + ((1 : Nat) : Int) + (dg x).size) = .ok (sgn _ 44) := next_mark s2.2.1 s2.2.2 (by decide) (by decide) (by decide) (by decide) (by decide) (by decide)
  have n3 := next_num (by omega) (by omega) s3 (FolN.of s4.2.2 (by decide)).num
  have n4 : nextF s (p + ((1 : Nat) : Int) + (dg x).size + 1 + (dg y).size) = .ok (sgn _ 41) := next_mark s4.2.1 s4.2.2 (by decide) (by decide) (by decide) (by decide) (by decide) (by decide)
  refine ⟨n0, ?_⟩
  unfold pointF
  rw [wantF_yes (c := 40) (t := sgn p 40) rfl rfl n1]
  simp only [Out.bind]
  have p1 := partF_yes (p := p + ((1 : Nat) : Int)) hx.1 hx.2 n2
  unfold nmw at p1
  rw [p1]
  dsimp only
  rw [wantF_yes (c := 44) (t := sgn (p + ((1 : Nat) : Int) + (dg x).size) 44) rfl rfl n3]
  dsimp only
  have p2 := partF_yes (p := p + ((1 : Nat) : Int) + (dg x).size + 1) hy.1 hy.2 n4
  unfold nmw at p2
  rw [p2]
  dsimp only
  rw [wantF_yes (c := 41) (t := sgn (p + ((1 : Nat) : Int) + (dg x).size + 1 + (dg y).size) 41) rfl rfl hn]
end Go.Proofs.Ytmgljgmieomngaa.Pz
namespace Go.Proofs.Ytmgljgmieomngaa.Pz
open Go Go.RowKit Go.Proofs.YtmgljgmieomngaaW.PrintWords Go.Proofs.YtmgljgmieomngaaW.PrintLast Go.Proofs.YtmgljgmieomngaaW.PrintMore Go.Proofs.Ytmgljgmieomngaa.Q
set_option linter.unusedVariables false
/-- a value as Parse tells it, and its text -/
inductive CV : S43 → ByteArray → Prop
  | whole (n : Int) (h0 : -9223372036854775808 ≤ n) (h1 : n ≤ 9223372036854775807) : CV ⟨1, n, ⟨#[]⟩, false, ⟨0, 0⟩⟩ (dg n)
  | words (l : List Int) (hb : ∀ x ∈ l, 0 ≤ x ∧ x ≤ 255) (hl : l.length ≤ 200) : CV ⟨2, 0, strOfNums l, false, ⟨0, 0⟩⟩ (qt l)
  | yes : CV ⟨3, 0, ⟨#[]⟩, true, ⟨0, 0⟩⟩ yesB
  | no : CV ⟨3, 0, ⟨#[]⟩, false, ⟨0, 0⟩⟩ noB
  | point (x y : Int) (hx : -1048576 ≤ x ∧ x ≤ 1048576) (hy : -1048576 ≤ y ∧ y ≤ 1048576) : CV ⟨4, 0, ⟨#[]⟩, false, ⟨floatOfInt .f64 x, floatOfInt .f64 y⟩⟩ (pt x y)
theorem plain_num {s : ByteArray} {p q n : Int} {t' : St} (hn : nextF s q = .ok t') : plainF s false (nmw p q n) = .ok (⟨1, n, ⟨#[]⟩, false, ⟨0, 0⟩⟩, t') := by
  unfold plainF
  rw [if_pos (show (nmw p q n).w.kd = 100 ∧ false = false from ⟨rfl, rfl⟩)]
  show (nextF s q).bind _ = _
  rw [hn]
  rfl
/-- a string's word read at a place -/
def stw (p q : Int) (x : ByteArray) : St := ⟨q, ⟨115, false, p, x, 0⟩⟩
theorem plain_str {s : ByteArray} {b : Bool} {p q : Int} {x : ByteArray} {t' : St} (hn : nextF s q = .ok t') : plainF s b (stw p q x) = .ok (⟨2, 0, x, false, ⟨0, 0⟩⟩, t') := by
  unfold plainF
  rw [if_neg (show ¬ ((stw p q x).w.kd = 100 ∧ b = false) from fun e => absurd e.1 (show (115 : Int) ≠ 100 by decide)), wantF_yes (c := 115) (t := stw p q x) rfl rfl hn]
  rfl
theorem any_plain {s : ByteArray} {t : St} (h : t.w.kd ≠ 40) (h2 : t.w.kd ≠ 110) : anyF s t = plainF s false t := by unfold anyF; rw [if_neg h, if_neg (fun e => h2 e.1)]
theorem any_rd {v : S43} {T : ByteArray} (h : CV v T) {s : ByteArray} {p : Int} {t' : St} (hs : Sits s T p) (hf : FolN s (p + T.size)) (hn : nextF s (p + T.size) = .ok t') : ∃ t, nextF s p = .ok t ∧ anyF s t = .ok (v, t') := by
  cases h with
  | whole n h0 h1 =>
    refine ⟨nmw p _ n, next_num h0 h1 hs hf.num, ?_⟩
    rw [any_plain (show (100 : Int) ≠ 40 by decide) (show (100 : Int) ≠ 110 by decide), plain_num hn]
  | words l hb hl =>
    refine ⟨stw p _ _, next_str hb hl hs, ?_⟩
    rw [any_plain (show (115 : Int) ≠ 40 by decide) (show (115 : Int) ≠ 110 by decide), plain_str hn]
  | point x y hx hy =>
    obtain ⟨a, b⟩ := point_rd hx hy hs hn
    refine ⟨_, a, ?_⟩
    unfold anyF
    rw [if_pos (show (sgn p 40).w.kd = 40 from rfl), b]
  | yes =>
    refine ⟨_, next_name hs (by decide) (by decide) (by decide) (fun i i0 i1 => ?_) hf, ?_⟩
    · have i1 : i < 3 := i1
      have hc : i = 0 ∨ i = 1 ∨ i = 2 := by omega
      rcases hc with rfl | rfl | rfl <;> rfl
    · unfold anyF
      rw [if_neg (show (110 : Int) ≠ 40 by decide), if_pos ⟨rfl, .inl rfl⟩]
      show (nextF s (p + yesB.size)).bind _ = _
      rw [hn]
      rfl
  | no =>
    refine ⟨_, next_name hs (by decide) (by decide) (by decide) (fun i i0 i1 => ?_) hf, ?_⟩
    · have i1 : i < 2 := i1
      have hc : i = 0 ∨ i = 1 := by omega
      rcases hc with rfl | rfl <;> rfl
    · unfold anyF
      rw [if_neg (show (110 : Int) ≠ 40 by decide), if_pos ⟨rfl, .inr rfl⟩]
      show (nextF s (p + noB.size)).bind _ = _
      rw [hn]
      rfl
end Go.Proofs.Ytmgljgmieomngaa.Pz
namespace Go.Proofs.Ytmgljgmieomngaa.Pz
open Go Go.RowKit Go.Proofs.YtmgljgmieomngaaW.PrintWords Go.Proofs.YtmgljgmieomngaaW.PrintLast Go.Proofs.YtmgljgmieomngaaW.PrintMore Go.Proofs.Ytmgljgmieomngaa.Q
set_option linter.unusedVariables false
/-- a name as Parse tells it -/
structure NO (nm : ByteArray) : Prop where
  pos : 0 < nm.size
  le : nm.size ≤ 16
  first : 97 ≤ bt nm 0 ∧ bt nm 0 ≤ 122
  all : ∀ i : Int, 0 ≤ i → i < nm.size → isNm (bt nm i) = true
/-- a name's word read at a place -/
def nam (p q : Int) (x : ByteArray) : St := ⟨q, ⟨110, false, p, x, 0⟩⟩
theorem NO.next {nm s : ByteArray} {p : Int} (h : NO nm) (hs : Sits s nm p) (hf : FolN s (p + nm.size)) : nextF s p = .ok (nam p (p + nm.size) nm) :=
  next_name hs h.pos h.le h.first h.all hf
theorem NO.fb {nm : ByteArray} (h : NO nm) : FB nm := ⟨h.pos, by have := h.first; omega⟩
/-- a UNIT that begins with a name -/
theorem unit_name {s : ByteArray} {p q : Int} {nm : ByteArray} {t1 t' : St} {x : S54} (hn : nextF s q = .ok t1) (ha : atomF s nm t1 = .ok (x, t')) : Pr s .unit (nam p q nm) [x] t' := ⟨1, fun n hn' => by
  obtain ⟨m, rfl⟩ : ∃ m, n = m + 1 := ⟨n - 1, by omega⟩
  rw [pr, isF_no' (t := nam p q nm) (show (110 : Int) ≠ 33 by decide)]
  dsimp only
  rw [isF_no' (t := nam p q nm) (show (110 : Int) ≠ 40 by decide)]
  dsimp only
  rw [isF_no' (t := nam p q nm) (show (110 : Int) ≠ 42 by decide)]
  dsimp only
  rw [isF_no' (t := nam p q nm) (show (110 : Int) ≠ 35 by decide)]
  dsimp only
  rw [isF_no' (t := nam p q nm) (show (110 : Int) ≠ 63 by decide)]
  dsimp only
  rw [wantF_yes (c := 110) (t := nam p q nm) rfl rfl hn]
  simp only [Out.bind]
  show some (Out.bind (atomF s nm t1) _) = _
  rw [ha]
  rfl⟩
theorem UU.name {nm : ByteArray} (h : NO nm) : UU nm [⟨3, nm, 2, z43, 0⟩] := by
  intro s p t' h1 h2 h3 hw
  refine ⟨_, h.next h1 h2.n, unit_name h3 ?_⟩
  unfold atomF
  have hc : cmpF t'.w = 2 := by unfold cmpF; rcases hw with e | e | e | e <;> (rw [e]; rfl)
  dsimp only
  rw [if_pos hc]
theorem UU.has {nm : ByteArray} (h : NO nm) : UU (⟨#[63]⟩ ++ nm) [⟨3, nm, 1, z43, 0⟩] := by
  intro s p t' h1 h2 h3 hw
  have hz : ((⟨#[63]⟩ : ByteArray) ++ nm).size = (⟨#[63]⟩ : ByteArray).size + nm.size := ByteArray.size_append
  have hs := sz1 63
  obtain ⟨a0, a1, a2⟩ := h1.left.one
  have r := h1.right
  rw [hs] at r
  have ez : p + (((⟨#[63]⟩ : ByteArray) ++ nm).size : Int) = p + ((1 : Nat) : Int) + nm.size := by omega
  rw [ez] at h2 h3
  have e1 : nextF s (p + 1) = .ok (nam _ _ nm) := h.next r h2.n
  refine ⟨sgn p 63, next_mark a1 a2 (by decide) (by decide) (by decide) (by decide) (by decide) (by decide), 1, fun n hn => ?_⟩
  obtain ⟨m, rfl⟩ : ∃ m, n = m + 1 := ⟨n - 1, by omega⟩
  rw [pr, sgn_no p 63 33 (by decide)]
  dsimp only
  rw [sgn_no p 63 40 (by decide)]
  dsimp only
  rw [sgn_no p 63 42 (by decide)]
  dsimp only
  rw [sgn_no p 63 35 (by decide)]
  dsimp only
  rw [sgn_yes p 63 e1]
  dsimp only
  have hw1 : wantF s 110 (nam (p + 1) (p + 1 + nm.size) nm) = .ok ((nam (p + 1) (p + 1 + nm.size) nm).w, t') := wantF_yes (c := 110) (t := nam (p + 1) (p + 1 + nm.size) nm) rfl rfl h3
  rw [hw1]
  rfl
end Go.Proofs.Ytmgljgmieomngaa.Pz
namespace Go.Proofs.Ytmgljgmieomngaa.Pz
open Go Go.RowKit Go.Proofs.YtmgljgmieomngaaW.PrintWords Go.Proofs.YtmgljgmieomngaaW.PrintLast Go.Proofs.YtmgljgmieomngaaW.PrintMore Go.Proofs.Ytmgljgmieomngaa.Q
set_option linter.unusedVariables false
/-- a comparison's sign -/
def sgB (c : Int) : ByteArray := if c = 3 then ⟨#[61]⟩ else if c = 4 then ⟨#[33, 61]⟩ else if c = 5 then ⟨#[60]⟩ else if c = 6 then ⟨#[60, 61]⟩ else if c = 7 then ⟨#[62]⟩ else if c = 8 then ⟨#[62, 61]⟩ else if c = 9 then ⟨#[94]⟩ else ⟨#[126]⟩
/-- two bytes of a sign -/
theorem next_long {s : ByteArray} {p c : Int} (h1 : p + 1 < (s.size : Int)) (hb : bt s p = c) (h2 : bt s (p + 1) = 61) (hc : long3 c = true) (h3 : c ≠ 32) (h4 : ¬ (97 ≤ c ∧ c ≤ 122)) (h5 : ¬ (c = 45 ∨ (48 ≤ c ∧ c ≤ 57))) (h6 : c ≠ 34) :
    nextF s p = .ok ⟨p + 1 + 1, ⟨c, true, p, ⟨#[]⟩, 0⟩⟩ := by
  unfold nextF
  rw [scan_no _ s p (fun e => by have := e.2; simp [hb] at this; exact h3 this)]
  dsimp only
  rw [if_pos (by omega), hb, if_neg h4, if_neg h5, if_neg h6]
  unfold markF
  rw [if_pos hc, if_pos ⟨h1, h2⟩]
  rfl
theorem next_short {s : ByteArray} {p c : Int} (h1 : p < (s.size : Int)) (hb : bt s p = c) (h2 : ¬ (p + 1 < (s.size : Int) ∧ bt s (p + 1) = 61)) (hc : long3 c = true) (h3 : c ≠ 32) (h4 : ¬ (97 ≤ c ∧ c ≤ 122)) (h5 : ¬ (c = 45 ∨ (48 ≤ c ∧ c ≤ 57))) (h6 : c ≠ 34) :
    nextF s p = .ok (sgn p c) := by
  unfold nextF
  rw [scan_no _ s p (fun e => by have := e.2; simp [hb] at this; exact h3 this)]
  dsimp only
  rw [if_pos h1, hb, if_neg h4, if_neg h5, if_neg h6]
  unfold markF
  rw [if_pos hc, if_neg h2]
  rfl
/-- the sign's word at a place: its kind, is it long; what stands behind doesn't begin with '=' -/
def lgc (c : Int) : Bool := c == 4 || c == 6 || c == 8
def kdc (c : Int) : Int := if c = 3 then 61 else if c = 4 then 33 else if c = 5 ∨ c = 6 then 60 else if c = 7 ∨ c = 8 then 62 else if c = 9 then 94 else 126
theorem next_sign {s : ByteArray} {c p : Int} (h3 : 3 ≤ c) (h10 : c ≤ 10) (h : Sits s (sgB c) p) (he : ¬ (p + (sgB c).size < (s.size : Int) ∧ bt s (p + (sgB c).size) = 61)) :
    nextF s p = .ok ⟨p + (sgB c).size, ⟨kdc c, lgc c, p, ⟨#[]⟩, 0⟩⟩ ∧ cmpF ⟨kdc c, lgc c, p, ⟨#[]⟩, 0⟩ = c := by
  have hp := h.p0
  have hle := h.le
  have hb : ∀ i : Int, 0 ≤ i → i < (sgB c).size → bt s (p + i) = bt (sgB c) i := h.at'
  have hc : c = 3 ∨ c = 4 ∨ c = 5 ∨ c = 6 ∨ c = 7 ∨ c = 8 ∨ c = 9 ∨ c = 10 := by omega
  rcases hc with rfl | rfl | rfl | rfl | rfl | rfl | rfl | rfl
  all_goals
    refine ⟨?_, rfl⟩
  · obtain ⟨a, b, c⟩ := Sits.one (c := 61) h
    exact next_mark b c (by decide) (by decide) (by decide) (by decide) (by decide) (by decide)
  · have b0 := hb 0 (by decide) (by decide)
    have b1 := hb 1 (by decide) (by decide)
    rw [Int.add_zero] at b0
    have hle : p + 2 ≤ (s.size : Int) := hle
    exact (next_long (c := 33) (by omega) b0 b1 (by decide) (by decide) (by decide) (by decide) (by decide)).trans (by rw [show p + 1 + 1 = p + 2 by omega]; rfl)
  · obtain ⟨a, b, c⟩ := Sits.one (c := 60) h
    exact next_short b c he (by decide) (by decide) (by decide) (by decide) (by decide)
  · have b0 := hb 0 (by decide) (by decide)
    have b1 := hb 1 (by decide) (by decide)
    rw [Int.add_zero] at b0
    have hle : p + 2 ≤ (s.size : Int) := hle
    exact (next_long (c := 60) (by omega) b0 b1 (by decide) (by decide) (by decide) (by decide) (by decide)).trans (by rw [show p + 1 + 1 = p + 2 by omega]; rfl)
  · obtain ⟨a, b, c⟩ := Sits.one (c := 62) h
    exact next_short b c he (by decide) (by decide) (by decide) (by decide) (by decide)
  · have b0 := hb 0 (by decide) (by decide)
    have b1 := hb 1 (by decide) (by decide)
    rw [Int.add_zero] at b0
    have hle : p + 2 ≤ (s.size : Int) := hle
    exact (next_long (c := 62) (by omega) b0 b1 (by decide) (by decide) (by decide) (by decide) (by decide)).trans (by rw [show p + 1 + 1 = p + 2 by omega]; rfl)
  · obtain ⟨a, b, c⟩ := Sits.one (c := 94) h
    exact next_mark b c (by decide) (by decide) (by decide) (by decide) (by decide) (by decide)
  · obtain ⟨a, b, c⟩ := Sits.one (c := 126) h
    exact next_mark b c (by decide) (by decide) (by decide) (by decide) (by decide) (by decide)
end Go.Proofs.Ytmgljgmieomngaa.Pz
namespace Go.Proofs.Ytmgljgmieomngaa.Pz
open Go Go.RowKit Go.Proofs.YtmgljgmieomngaaW.PrintWords Go.Proofs.YtmgljgmieomngaaW.PrintLast Go.Proofs.YtmgljgmieomngaaW.PrintMore Go.Proofs.Ytmgljgmieomngaa.Q
set_option linter.unusedVariables false
theorem rd_mid (a r : List Int) (x : Int) : rd (a ++ x :: r) a.length = x := by
  unfold rd
  simp
theorem set_mid (a r : List Int) (x y : Int) : (a ++ x :: r).set a.length y = a ++ y :: r := by
  induction a with
  | nil => rfl
  | cons z a ih => simp
theorem rev_l1 : ∀ (n : Nat) (a m b : List Int) (k : Nat), m.length = n → n < k → (a ++ m ++ b).length < 1000 → pred_digits10.l1 k (a ++ m ++ b) a.length ((a.length : Int) + m.length - 1) = some (strOfNums (a ++ m.reverse ++ b))
  | 0, a, m, b, k, hn, hk, hl => by
    obtain ⟨k, rfl⟩ : ∃ j, k = j + 1 := ⟨k - 1, by omega⟩
    obtain rfl := List.length_eq_zero_iff.1 hn
    rw [pred_digits10.l1, if_neg (by simp; omega)]
    rfl
  | 1, a, m, b, k, hn, hk, hl => by
    obtain ⟨k, rfl⟩ : ∃ j, k = j + 1 := ⟨k - 1, by omega⟩
    obtain ⟨x, rfl⟩ := List.length_eq_one_iff.1 hn
    rw [pred_digits10.l1, if_neg (by simp)]
    rfl
  | n + 2, a, m, b, k, hn, hk, hl => by
    obtain ⟨k, rfl⟩ : ∃ j, k = j + 1 := ⟨k - 1, by omega⟩
    obtain ⟨x, m1, rfl⟩ : ∃ x m1, m = x :: m1 := by
      cases m with
      | nil => simp at hn
      | cons x m1 => exact ⟨x, m1, rfl⟩
    obtain ⟨m2, y, rfl⟩ : ∃ m2 y, m1 = m2 ++ [y] := by
      rcases List.eq_nil_or_concat m1 with e | ⟨m2, y, e⟩
      · subst e; simp at hn
      · exact ⟨m2, y, by simpa using e⟩
    simp only [List.length_cons, List.length_append, List.length_nil] at hn hl
    have hj : (a.length : Int) + (x :: (m2 ++ [y])).length - 1 = ((a ++ x :: m2).length : Int) := by simp; omega
    have e1 : a ++ (x :: (m2 ++ [y])) ++ b = a ++ x :: (m2 ++ [y] ++ b) := by simp
    have e2 : a ++ (x :: (m2 ++ [y])) ++ b = (a ++ x :: m2) ++ y :: b := by simp
    have hle : (((a ++ (x :: (m2 ++ [y])) ++ b).length : Nat) : Int) = a.length + m2.length + 2 + b.length := by simp; omega
    have hje : ((a ++ x :: m2).length : Int) = a.length + m2.length + 1 := by simp; omega
    rw [hj, pred_digits10.l1, if_pos (by omega), if_pos (by omega), if_pos (by omega), if_pos (by omega), if_pos (by omega)]
    have r1 : rd (a ++ (x :: (m2 ++ [y])) ++ b) a.length = x := by rw [e1]; exact rd_mid _ _ _
    have r2 : rd (a ++ (x :: (m2 ++ [y])) ++ b) (a ++ x :: m2).length = y := by rw [e2]; exact rd_mid _ _ _
    have s1 : (a ++ (x :: (m2 ++ [y])) ++ b).set ((a.length : Int)).toNat y = (a ++ y :: m2) ++ y :: b := by
      rw [e1, Int.toNat_natCast, set_mid]; simp
    have s2 : ((a ++ y :: m2) ++ y :: b).set (((a ++ x :: m2).length : Int)).toNat x = (a ++ [y]) ++ m2 ++ ([x] ++ b) := by
      have : (((a ++ x :: m2).length : Int)).toNat = (a ++ y :: m2).length := by simp; omega
      rw [this, set_mid]; simp
    rw [r1, r2, s1, s2]
    have w1 : wrap64 ((a.length : Int) + 1) = ((a ++ [y]).length : Int) := by simp; unfold wrap64; omega
    have w2 : wrap64 (((a ++ x :: m2).length : Int) - 1) = ((a ++ [y]).length : Int) + m2.length - 1 := by rw [hje]; simp; unfold wrap64; omega
    rw [w1, w2, rev_l1 n (a ++ [y]) m2 ([x] ++ b) k (by omega) (by omega) (by simp; omega)]
    simp
theorem digit_b (u : Nat) : (IntKind.u64.wrap (48 + Int.tmod (u : Int) 10)) % 256 = 48 + ((u % 10 : Nat) : Int) := by
  have h1 : Int.tmod (u : Int) 10 = ((u % 10 : Nat) : Int) := by rw [Int.tmod_eq_emod_of_nonneg (by omega)]; omega
  rw [h1]
  have : IntKind.u64.wrap (48 + ((u % 10 : Nat) : Int)) = 48 + ((u % 10 : Nat) : Int) := by unfold IntKind.wrap; simp [IntKind.bits, IntKind.signed] <;> omega
  rw [this]; omega
theorem tenth (u : Nat) (h : (u : Int) ≤ 9223372036854775808) : IntKind.u64.wrap (Int.tdiv (u : Int) 10) = ((u / 10 : Nat) : Int) := by
  have h1 : Int.tdiv (u : Int) 10 = ((u / 10 : Nat) : Int) := by rw [Int.tdiv_eq_ediv_of_nonneg (by omega)]; omega
  rw [h1]
  unfold IntKind.wrap; simp [IntKind.bits, IntKind.signed] <;> omega
theorem digs_last (k : Nat) (acc : List Int) (c : Int) (ha : acc.length < 600) (hk : 600 < k) : pred_digits10.l1 k (acc ++ [c]) 0 (wrap64 (((acc ++ [c]).length : Int) - 1)) = some (strOfNums (c :: acc.reverse)) := by
  have := rev_l1 (acc ++ [c]).length [] (acc ++ [c]) [] k rfl (by simp; omega) (by simp; omega)
  simp only [List.nil_append, List.append_nil] at this
  have w : wrap64 (((acc ++ [c]).length : Int) - 1) = (([] : List Int).length : Int) + (acc ++ [c]).length - 1 := by simp; unfold wrap64; omega
  rw [w]
  exact this.trans (by simp)
theorem digs_one (u k : Nat) (acc : List Int) (hm : (u : Int) ≤ 9223372036854775808) (ha : acc.length < 600) (hk : 600 < k) :
    pred_digits10.l0 (k + 1) u acc = if u / 10 = 0 then some (strOfNums ((48 + ((u % 10 : Nat) : Int)) :: acc.reverse)) else pred_digits10.l0 k ((u / 10 : Nat) : Int) (acc ++ [48 + ((u % 10 : Nat) : Int)]) := by
  rw [pred_digits10.l0, if_pos (by omega)]
  simp only [Option.bind_some]
  rw [digit_b, tenth u hm]
  by_cases c : u / 10 = 0
  · rw [if_pos c, if_neg (by omega), digs_last k acc _ ha hk]
  · rw [if_neg c, if_pos (by omega)]
theorem digs_l0 : ∀ (d u k : Nat) (acc : List Int), u < 10 ^ (d + 1) → (u : Int) ≤ 9223372036854775808 → acc.length + d < 600 → 600 < k →
    pred_digits10.l0 (k + d + 1) u acc = some (strOfNums (dd d u ++ acc.reverse))
  | 0, u, k, acc, hu, hm, ha, hk => by
    rw [Nat.add_zero, digs_one u k acc hm (by omega) hk, if_pos (by omega)]
    rfl
  | d + 1, u, k, acc, hu, hm, ha, hk => by
    rw [digs_one u (k + (d + 1)) acc hm (by omega) (by omega), dd]
    by_cases c : u < 10
    · have : u % 10 = u := by omega
      rw [if_pos (by omega), if_pos c, this]; rfl
    · rw [if_neg (by omega), if_neg c, ← Nat.add_assoc, digs_l0 d (u / 10) k _ (by rw [Nat.pow_succ] at hu; omega) (by omega) (by simp; omega) hk]
      simp
theorem digits10_f (u k : Nat) (h : (u : Int) ≤ 9223372036854775808) (hk : 700 ≤ k) : pred_digits10.f k u = some (strOfNums (dd 19 u)) := by
  obtain ⟨j, rfl⟩ : ∃ j, k = j + 19 + 1 := ⟨k - 20, by omega⟩
  unfold pred_digits10.f
  rw [digs_l0 19 u j [] (by have : (10 : Nat) ^ (19 + 1) = 100000000000000000000 := rfl
                            omega) h (by simp) (by omega)]
  simp
theorem dd_len : ∀ (d u : Nat), (dd d u).length ≤ d + 1
  | 0, u => by simp [dd]
  | d + 1, u => by
    rw [dd]
    split
    · simp
    · have := dd_len d (u / 10)
      simp; omega
theorem dg_size (n : Int) : (dg n).size ≤ 21 := by
  have := dd_len 19 n.natAbs
  unfold dg
  split
  · have hz : ((⟨#[45]⟩ : ByteArray) ++ strOfNums (dd 19 n.natAbs)).size = (⟨#[45]⟩ : ByteArray).size + (strOfNums (dd 19 n.natAbs)).size := ByteArray.size_append
    have h1 : (⟨#[45]⟩ : ByteArray).size = 1 := rfl
    rw [str_size] at hz; omega
  · rw [str_size]; omega
theorem digits_f (n : Int) (k : Nat) (h0 : -9223372036854775808 ≤ n) (h1 : n ≤ 9223372036854775807) (hk : 700 ≤ k) : pred_digits.f k n = some (dg n) := by
  unfold pred_digits.f
  by_cases c : n < 0
  · rw [if_pos c]
    have e : IntKind.u64.wrap (-(IntKind.u64.wrap n)) = (n.natAbs : Int) := by unfold IntKind.wrap; simp [IntKind.bits, IntKind.signed] <;> omega
    rw [e, digits10_f _ _ (by omega) hk]
    have hs := dg_size n
    unfold dg at hs ⊢
    rw [if_pos c] at hs ⊢
    have hz : ((⟨#[45]⟩ : ByteArray) ++ strOfNums (dd 19 n.natAbs)).size = (⟨#[45]⟩ : ByteArray).size + (strOfNums (dd 19 n.natAbs)).size := ByteArray.size_append
    have h1 : (⟨#[45]⟩ : ByteArray).size = 1 := rfl
    simp only [Option.bind_some]
    rw [if_pos (by omega)]
  · rw [if_neg c]
    have e : IntKind.u64.wrap n = (n.natAbs : Int) := by unfold IntKind.wrap; simp [IntKind.bits, IntKind.signed] <;> omega
    rw [e, digits10_f _ _ (by omega) hk]
    unfold dg
    rw [if_neg c]
    rfl
end Go.Proofs.Ytmgljgmieomngaa.Pz
namespace Go.Proofs.Ytmgljgmieomngaa.Pz
open Go Go.RowKit Go.Proofs.YtmgljgmieomngaaW.PrintWords Go.Proofs.YtmgljgmieomngaaW.PrintLast Go.Proofs.YtmgljgmieomngaaW.PrintMore Go.Proofs.Ytmgljgmieomngaa.Q Go.Proofs.Ytmgljgmieomngaa.Oct
set_option linter.unusedVariables false
theorem low4 (c : Int) (h0 : 0 ≤ c) (h1 : c ≤ 255) : Go.bits .and .u8 c 15 = c % 16 := by
  have h : ∀ n : Fin 256, Go.bits .and .u8 ((n.val : Nat) : Int) 15 = ((n.val : Nat) : Int) % 16 := by decide +kernel
  have := h ⟨c.toNat, by omega⟩
  rwa [show ((c.toNat : Nat) : Int) = c by omega] at this
theorem hx_at (c : Int) (h0 : 0 ≤ c) (h1 : c ≤ 15) : bt (⟨#[48, 49, 50, 51, 52, 53, 54, 55, 56, 57, 97, 98, 99, 100, 101, 102]⟩ : ByteArray) c = hx c := by
  have h : ∀ n : Fin 16, bt (⟨#[48, 49, 50, 51, 52, 53, 54, 55, 56, 57, 97, 98, 99, 100, 101, 102]⟩ : ByteArray) ((n.val : Nat) : Int) = hx ((n.val : Nat) : Int) := by decide +kernel
  have := h ⟨c.toNat, by omega⟩
  rwa [show ((c.toNat : Nat) : Int) = c by omega] at this
theorem esc_len (c : Int) : (esc c).length ≤ 4 := by
  unfold esc
  split
  · simp
  · split <;> simp
theorem quoted_l0 (l : List Int) (hb : ∀ x ∈ l, 0 ≤ x ∧ x ≤ 255) (hl : l.length ≤ 200) : ∀ (rest : List Int) (i k : Nat) (acc : List Int), l.drop i = rest → acc.length + 4 * rest.length ≤ 900 → 2 * rest.length < k →
    pred_quoted.l0 k (strOfNums l) acc (l.length : Int) (i : Int) = some (strOfNums (acc ++ rest.flatMap esc ++ [34]))
  | [], i, k, acc, h, ha, hk => by
    obtain ⟨k, rfl⟩ : ∃ m, k = m + 1 := ⟨k - 1, by omega⟩
    have hi : l.length ≤ i := List.drop_eq_nil_iff.1 h
    rw [pred_quoted.l0, if_neg (by omega), if_pos (by omega)]; simp
  | c :: rest, i, k, acc, h, ha, hk => by
    obtain ⟨k, rfl⟩ : ∃ m, k = m + 2 := ⟨k - 2, by simp at hk; omega⟩
    simp only [List.length_cons] at hk ha
    have hi : i < l.length := by
      rcases Nat.lt_or_ge i l.length with h1 | h1
      · exact h1
      · rw [List.drop_eq_nil_of_le h1] at h; simp at h
    have hd := h
    rw [List.drop_eq_getElem_cons hi] at hd
    injection hd with e1 e2
    have hc : bt (strOfNums l) i = c := by rw [str_bt l hb i hi, e1]
    have hcb := hb c (by rw [← e1]; exact List.getElem_mem hi)
    have hz := str_size l
    have hw : wrap64 ((i : Int) + 1) = ((i + 1 : Nat) : Int) := by unfold wrap64; omega
    have go : ∀ a : List Int, a.length ≤ 4 → pred_quoted.l0 k (strOfNums l) (acc ++ a) (l.length : Int) ((i + 1 : Nat) : Int) = some (strOfNums (acc ++ a ++ rest.flatMap esc ++ [34])) :=
      fun a h4 => quoted_l0 l hb hl rest (i + 1) k (acc ++ a) e2 (by rw [List.length_append]; omega) (by omega)
    rw [pred_quoted.l0, if_pos (by omega), if_pos (by omega), if_pos (by omega), hc]
    have j : ∀ b : Bool, b = decide (c = 34 ∨ c = 92) → pred_quoted.j1 (k + 1) (strOfNums l) acc c (l.length : Int) (i : Int) b = some (strOfNums (acc ++ esc c ++ rest.flatMap esc ++ [34])) := by
      intro b hb'
      subst hb'
      rw [pred_quoted.j1, hw]
      by_cases g : c = 34 ∨ c = 92
      · have he : esc c = [92, c] := by unfold esc; rw [if_pos g]
        rw [if_pos (decide_eq_true g), he]
        simp only [Option.bind_some]
        rw [if_pos (by simp; omega)]
        exact go _ (by simp)
      · rw [if_neg (by simpa using g)]
        by_cases g2 : 32 ≤ c ∧ c < 127
        · have he : esc c = [c] := by unfold esc; rw [if_neg g, if_pos g2]
          rw [if_pos g2.1, if_pos g2.2, he, if_pos (by omega)]
          exact go _ (by simp)
        · have he : esc c = [92, 120, hx (c / 16), hx (c % 16)] := by unfold esc; rw [if_neg g, if_neg g2]
          have last : (if 0 ≤ c / 16 then if c / 16 < 16 then if 0 ≤ Go.bits .and .u8 c 15 then if Go.bits .and .u8 c 15 < 16 then
              (some ([92, 120, bt (⟨#[48, 49, 50, 51, 52, 53, 54, 55, 56, 57, 97, 98, 99, 100, 101, 102]⟩ : ByteArray) (c / 16), bt (⟨#[48, 49, 50, 51, 52, 53, 54, 55, 56, 57, 97, 98, 99, 100, 101, 102]⟩ : ByteArray) (Go.bits .and .u8 c 15)] : List Int)).bind fun y =>
                if acc.length + y.length < 140737488355328 then pred_quoted.l0 k (strOfNums l) (acc ++ y) (l.length : Int) ((i + 1 : Nat) : Int) else none
              else none else none else none else none) = some (strOfNums (acc ++ esc c ++ rest.flatMap esc ++ [34])) := by
            rw [low4 c hcb.1 hcb.2, hx_at (c / 16) (by omega) (by omega), hx_at (c % 16) (by omega) (by omega), if_pos (by omega), if_pos (by omega), if_pos (by omega), if_pos (by omega), he]
            simp only [Option.bind_some]
            rw [if_pos (by simp; omega)]
            exact go _ (by simp)
          by_cases g3 : c ≥ 32
          · rw [if_pos g3, if_neg (by omega)]; exact last
          · rw [if_neg g3]; exact last
    by_cases g : c = 34
    · rw [if_pos g, j true (by simp [g])]; simp
    · rw [if_neg g, j (c == 92) (by by_cases g2 : c = 92 <;> simp [g, g2])]; simp
theorem quoted_f (l : List Int) (hb : ∀ x ∈ l, 0 ≤ x ∧ x ≤ 255) (hl : l.length ≤ 200) (k : Nat) (hk : 500 ≤ k) : pred_quoted.f k (strOfNums l) = some (qt l) := by
  unfold pred_quoted.f
  rw [str_size]
  have := quoted_l0 l hb hl l 0 k [34] rfl (by simp; omega) (by omega)
  rw [show (((0 : Nat) : Int)) = 0 from rfl] at this
  rw [this]
  unfold qt
  simp
theorem esc_flat : ∀ l : List Int, (l.flatMap esc).length ≤ 4 * l.length
  | [] => by simp
  | c :: l => by
    have := esc_len c
    have := esc_flat l
    simp only [List.flatMap_cons, List.length_append, List.length_cons]; omega
theorem FB.str {x : Int} {l : List Int} (hb : ∀ y ∈ x :: l, 0 ≤ y ∧ y ≤ 255) (h : x ≠ 61) : FB (strOfNums (x :: l)) := by
  have := str_bt (x :: l) hb 0 (by simp)
  refine ⟨by rw [str_size]; simp, ?_⟩
  rw [show ((0 : Nat) : Int) = 0 from rfl] at this
  rw [this]; simpa using h
theorem dd_cons (d u : Nat) : ∃ x l, dd d u = x :: l := by
  have := dd_ne d u
  cases h : dd d u with
  | nil => rw [h] at this; simp at this
  | cons x l => exact ⟨x, l, rfl⟩
theorem dg_fb (n : Int) : FB (dg n) := by
  unfold dg
  split
  · exact FB.one 45 (by decide) _
  · obtain ⟨x, l, h⟩ := dd_cons 19 n.natAbs
    have hb := dd_bytes 19 n.natAbs
    rw [h] at hb ⊢
    refine FB.str (fun y hy => by have := hb y hy; omega) (by have := hb x (by simp); omega)
theorem qt_fb (l : List Int) (hb : ∀ x ∈ l, 0 ≤ x ∧ x ≤ 255) : FB (qt l) := by
  unfold qt
  refine FB.str (fun y hy => ?_) (by decide)
  simp only [List.mem_cons, List.mem_append, List.mem_flatMap, List.not_mem_nil, or_false] at hy
  rcases hy with hy | ⟨x, hx, hy⟩ | hy
  · omega
  · exact esc_bytes (hb x hx) y hy
  · omega
theorem pt_size (x y : Int) : (pt x y).size = (dg x).size + (dg y).size + 3 := by
  have z1 : ((⟨#[40]⟩ : ByteArray) ++ dg x).size = (⟨#[40]⟩ : ByteArray).size + (dg x).size := ByteArray.size_append
  have z2 : (((⟨#[40]⟩ : ByteArray) ++ dg x) ++ (⟨#[44]⟩ : ByteArray)).size = ((⟨#[40]⟩ : ByteArray) ++ dg x).size + (⟨#[44]⟩ : ByteArray).size := ByteArray.size_append
  have z3 : ((((⟨#[40]⟩ : ByteArray) ++ dg x) ++ (⟨#[44]⟩ : ByteArray)) ++ dg y).size = (((⟨#[40]⟩ : ByteArray) ++ dg x) ++ (⟨#[44]⟩ : ByteArray)).size + (dg y).size := ByteArray.size_append
  have z4 : (pt x y).size = ((((⟨#[40]⟩ : ByteArray) ++ dg x) ++ (⟨#[44]⟩ : ByteArray)) ++ dg y).size + (⟨#[41]⟩ : ByteArray).size := ByteArray.size_append
  have h1 := sz1 40
  have h2 := sz1 44
  have h3 := sz1 41
  omega
theorem pt_fb (x y : Int) : FB (pt x y) := by
  unfold pt
  exact FB.app (FB.app (FB.app (FB.one 40 (by decide) _) _) _) _
/-- a value's text: what Print writes, and what it begins with -/
theorem CV.text {v : S43} {T : ByteArray} (h : CV v T) : FB T ∧ T.size ≤ 802 ∧ ∀ k, 700 ≤ k → pred_literal.f k v.f0 v.f1 v.f2 v.f3 v.f4 = some T := by
  cases h with
  | whole n h0 h1 =>
    refine ⟨dg_fb n, by have := dg_size n; omega, fun k hk => ?_⟩
    unfold pred_literal.f
    rw [if_pos rfl]
    show (pred_digits.f k n).bind _ = _
    rw [digits_f n k h0 h1 hk]; rfl
  | words l hb hl =>
    refine ⟨qt_fb l hb, by have := qt_size l; have := esc_flat l; omega, fun k hk => ?_⟩
    unfold pred_literal.f
    rw [if_neg (show ¬ (2 : Int) = 1 by decide), if_pos rfl]
    show (pred_quoted.f k (strOfNums l)).bind _ = _
    rw [quoted_f l hb hl k (by omega)]; rfl
  | yes =>
    refine ⟨⟨by decide, by decide⟩, by decide, fun k hk => ?_⟩
    unfold pred_literal.f
    rw [if_neg (show ¬ (3 : Int) = 1 by decide), if_neg (show ¬ (3 : Int) = 2 by decide), if_pos rfl, if_pos rfl]; rfl
  | no =>
    refine ⟨⟨by decide, by decide⟩, by decide, fun k hk => ?_⟩
    unfold pred_literal.f
    rw [if_neg (show ¬ (3 : Int) = 1 by decide), if_neg (show ¬ (3 : Int) = 2 by decide), if_pos rfl, if_neg (by decide)]; rfl
  | point x y hx hy =>
    have hz := pt_size x y
    have s1 := dg_size x
    have s2 := dg_size y
    refine ⟨pt_fb x y, by omega, fun k hk => ?_⟩
    unfold pred_literal.f
    rw [if_neg (show ¬ (4 : Int) = 1 by decide), if_neg (show ¬ (4 : Int) = 2 by decide), if_neg (show ¬ (4 : Int) = 3 by decide)]
    show (if fok (floatOfInt .f64 x) = true then (pred_digits.f k (ftoi (floatOfInt .f64 x))).bind _ else none) = _
    rw [if_pos (fok_float x hx.1 hx.2), ftoi_float x hx.1 hx.2, digits_f x k (by omega) (by omega) hk]
    simp only [Option.bind_some]
    have z1 : ((⟨#[40]⟩ : ByteArray) ++ dg x).size = (⟨#[40]⟩ : ByteArray).size + (dg x).size := ByteArray.size_append
    have z2 : (((⟨#[40]⟩ : ByteArray) ++ dg x) ++ (⟨#[44]⟩ : ByteArray)).size = ((⟨#[40]⟩ : ByteArray) ++ dg x).size + (⟨#[44]⟩ : ByteArray).size := ByteArray.size_append
    have z3 : ((((⟨#[40]⟩ : ByteArray) ++ dg x) ++ (⟨#[44]⟩ : ByteArray)) ++ dg y).size = (((⟨#[40]⟩ : ByteArray) ++ dg x) ++ (⟨#[44]⟩ : ByteArray)).size + (dg y).size := ByteArray.size_append
    have h1 := sz1 40
    have h2 := sz1 44
    rw [if_pos (by omega), if_pos (by omega), if_pos (fok_float y hy.1 hy.2), ftoi_float y hy.1 hy.2, digits_f y k (by omega) (by omega) hk]
    simp only [Option.bind_some]
    rw [if_pos (by omega), if_pos (by omega)]
    rfl
end Go.Proofs.Ytmgljgmieomngaa.Pz
namespace Go.Proofs.Ytmgljgmieomngaa.Pz
open Go Go.RowKit Go.Proofs.YtmgljgmieomngaaW.PrintWords Go.Proofs.YtmgljgmieomngaaW.PrintLast Go.Proofs.YtmgljgmieomngaaW.PrintMore Go.Proofs.Ytmgljgmieomngaa.Q Go.Proofs.Ytmgljgmieomngaa.Oct
set_option linter.unusedVariables false
/-- a value behind a sign -/
def rdr (c : Int) (s : ByteArray) (t : St) : Out (S43 × St) := if c = 3 ∨ c = 4 then anyF s t else if c = 9 then plainF s true t else plainF s false t
def RD (c : Int) (v : S43) (T : ByteArray) : Prop := ∀ (s : ByteArray) (p : Int) (t' : St), Sits s T p → FolN s (p + T.size) → nextF s (p + T.size) = .ok t' → ∃ t, nextF s p = .ok t ∧ rdr c s t = .ok (v, t')
theorem CV.rd {c : Int} {v : S43} {T : ByteArray} (h : CV v T) (hc : c = 3 ∨ c = 4 ∨ v.f0 = 2 ∨ (v.f0 = 1 ∧ c ≠ 9)) : RD c v T := by
  intro s p t' hs hf hn
  by_cases c34 : c = 3 ∨ c = 4
  · obtain ⟨t, a, b⟩ := any_rd h hs hf hn
    exact ⟨t, a, by unfold rdr; rw [if_pos c34]; exact b⟩
  · have hc : v.f0 = 2 ∨ (v.f0 = 1 ∧ c ≠ 9) := by
      rcases hc with h | h | h | h
      · exact absurd (.inl h) c34
      · exact absurd (.inr h) c34
      · exact .inl h
      · exact .inr h
    cases h with
    | whole n h0 h1 =>
      refine ⟨nmw p _ n, next_num h0 h1 hs hf.num, ?_⟩
      have h9 : c ≠ 9 := by
        rcases hc with h | h
        · exact absurd h (show ¬ (1 : Int) = 2 by decide)
        · exact h.2
      unfold rdr
      rw [if_neg c34, if_neg h9, plain_num hn]
    | words l hb hl =>
      refine ⟨stw p _ _, next_str hb hl hs, ?_⟩
      unfold rdr
      rw [if_neg c34]
      split
      · exact plain_str hn
      · exact plain_str hn
    | point x y hx hy =>
      rcases hc with h | h
      · exact absurd h (show ¬ (4 : Int) = 2 by decide)
      · exact absurd h.1 (show ¬ (4 : Int) = 1 by decide)
    | yes =>
      rcases hc with h | h
      · exact absurd h (show ¬ (3 : Int) = 2 by decide)
      · exact absurd h.1 (show ¬ (3 : Int) = 1 by decide)
    | no =>
      rcases hc with h | h
      · exact absurd h (show ¬ (3 : Int) = 2 by decide)
      · exact absurd h.1 (show ¬ (3 : Int) = 1 by decide)
theorem sgB_cases (c : Int) : sgB c = ⟨#[61]⟩ ∨ sgB c = ⟨#[33, 61]⟩ ∨ sgB c = ⟨#[60]⟩ ∨ sgB c = ⟨#[60, 61]⟩ ∨ sgB c = ⟨#[62]⟩ ∨ sgB c = ⟨#[62, 61]⟩ ∨ sgB c = ⟨#[94]⟩ ∨ sgB c = ⟨#[126]⟩ := by
  unfold sgB
  repeat' split
  all_goals simp
theorem sgB_fact (c : Int) : 0 < (sgB c).size ∧ (sgB c).size ≤ 2 ∧ isNm (bt (sgB c) 0) = false := by
  rcases sgB_cases c with h | h | h | h | h | h | h | h <;> (rw [h]; exact ⟨by decide, by decide, by decide⟩)
theorem unit_sign {s nm T : ByteArray} {c p : Int} {R : ByteArray} (hn : NO nm) (h3 : 3 ≤ c) (h10 : c ≤ 10) (fb : FB T) (h : Sits s ((nm ++ sgB c) ++ T) p) {t1 : St} (e : nextF s (p + nm.size + (sgB c).size) = .ok t1) :
    nextF s p = .ok (nam p (p + nm.size) nm) ∧ ∃ w : Wd, nextF s (p + nm.size) = .ok ⟨p + nm.size + (sgB c).size, w⟩ ∧ cmpF w = c := by
  have z1 : (nm ++ sgB c).size = nm.size + (sgB c).size := ByteArray.size_append
  obtain ⟨f0, f1, f2⟩ := sgB_fact c
  have hS := h.left.right
  have hT := h.right
  have b0 := hS.at' 0 (by omega) (by omega)
  rw [Int.add_zero] at b0
  refine ⟨hn.next h.left.left (FolN.of b0 f2), ⟨kdc c, lgc c, p + nm.size, ⟨#[]⟩, 0⟩, ?_⟩
  have t0 := hT.at' 0 (by omega) (by have := fb.1; omega)
  rw [Int.add_zero, show p + ((nm ++ sgB c).size : Int) = p + nm.size + (sgB c).size by omega] at t0
  exact next_sign h3 h10 hS (fun e => fb.2 (by rw [← t0]; exact e.2))
theorem UU.cmp {nm : ByteArray} {v : S43} {T : ByteArray} {c : Int} (hn : NO nm) (h3 : 3 ≤ c) (h9 : c ≤ 9) (fb : FB T) (hr : RD c v T) : UU ((nm ++ sgB c) ++ T) [⟨3, nm, c, v, 0⟩] := by
  intro s p t' h1 h2 hN hw
  have z1 : (nm ++ sgB c).size = nm.size + (sgB c).size := ByteArray.size_append
  have z2 : ((nm ++ sgB c) ++ T).size = (nm ++ sgB c).size + T.size := ByteArray.size_append
  have hT := h1.right
  have ez : p + ((nm ++ sgB c).size : Int) = p + nm.size + (sgB c).size := by omega
  have ez2 : p + (((nm ++ sgB c) ++ T).size : Int) = p + nm.size + (sgB c).size + T.size := by omega
  rw [ez] at hT
  rw [ez2] at h2 hN
  obtain ⟨t1, n1, r1⟩ := hr s _ t' hT h2.n hN
  obtain ⟨a, w, b, d⟩ := unit_sign (R := T) hn h3 (by omega) fb h1 n1
  refine ⟨_, a, unit_name b ?_⟩
  unfold atomF
  dsimp only
  rw [d, if_neg (by omega), n1]
  unfold rdr at r1
  show (if c = 3 ∨ c = 4 then (anyF s t1).bind _ else _) = _
  by_cases c34 : c = 3 ∨ c = 4
  · rw [if_pos c34] at r1 ⊢
    rw [r1]; rfl
  · rw [if_neg c34] at r1 ⊢
    by_cases c9 : c = 9
    · rw [if_pos c9] at r1 ⊢
      rw [r1]; rfl
    · rw [if_neg c9] at r1
      rw [if_neg c9, if_neg (by omega), r1]; rfl
theorem UU.near {nm : ByteArray} {x y r : Int} (hn : NO nm) (hx : -1048576 ≤ x ∧ x ≤ 1048576) (hy : -1048576 ≤ y ∧ y ≤ 1048576) (hr : 0 ≤ r ∧ r ≤ 1048576) :
    UU ((((nm ++ sgB 10) ++ pt x y) ++ ⟨#[47]⟩) ++ dg r) [⟨3, nm, 10, ⟨4, 0, ⟨#[]⟩, false, ⟨floatOfInt .f64 x, floatOfInt .f64 y⟩⟩, r⟩] := by
  intro s p t' h1 h2 hN hw
  have z1 : (nm ++ sgB 10).size = nm.size + (sgB 10).size := ByteArray.size_append
  have z2 : ((nm ++ sgB 10) ++ pt x y).size = (nm ++ sgB 10).size + (pt x y).size := ByteArray.size_append
  have z3 : (((nm ++ sgB 10) ++ pt x y) ++ (⟨#[47]⟩ : ByteArray)).size = ((nm ++ sgB 10) ++ pt x y).size + (⟨#[47]⟩ : ByteArray).size := ByteArray.size_append
  have z4 : ((((nm ++ sgB 10) ++ pt x y) ++ (⟨#[47]⟩ : ByteArray)) ++ dg r).size = (((nm ++ sgB 10) ++ pt x y) ++ (⟨#[47]⟩ : ByteArray)).size + (dg r).size := ByteArray.size_append
  have k1 := sz1 47
  have hP := h1.left.left.right
  obtain ⟨m0, m1, m2⟩ := h1.left.right.one
  have hD := h1.right
  have e1 : p + ((nm ++ sgB 10).size : Int) = p + nm.size + (sgB 10).size := by omega
  have e2 : p + (((nm ++ sgB 10) ++ pt x y).size : Int) = p + nm.size + (sgB 10).size + (pt x y).size := by omega
  have e3 : p + ((((nm ++ sgB 10) ++ pt x y) ++ (⟨#[47]⟩ : ByteArray)).size : Int) = p + nm.size + (sgB 10).size + (pt x y).size + 1 := by omega
  have e4 : p + (((((nm ++ sgB 10) ++ pt x y) ++ (⟨#[47]⟩ : ByteArray)) ++ dg r).size : Int) = p + nm.size + (sgB 10).size + (pt x y).size + 1 + (dg r).size := by omega
  rw [e1] at hP
  rw [e2] at m0 m1 m2
  rw [e3] at hD
  rw [e4] at h2 hN
  obtain ⟨D, hD0⟩ : ∃ D, D = nmw (p + nm.size + (sgB 10).size + (pt x y).size + 1) (p + nm.size + (sgB 10).size + (pt x y).size + 1 + (dg r).size) r := ⟨_, rfl⟩
  have nd : nextF s (p + nm.size + (sgB 10).size + (pt x y).size + 1) = .ok D := by rw [hD0]; exact next_num (by omega) (by omega) hD h2.n.num
  obtain ⟨M, hM0⟩ : ∃ M, M = sgn (p + nm.size + (sgB 10).size + (pt x y).size) 47 := ⟨_, rfl⟩
  have nm2 : nextF s (p + nm.size + (sgB 10).size + (pt x y).size) = .ok M := by rw [hM0]; exact next_mark m1 m2 (by decide) (by decide) (by decide) (by decide) (by decide) (by decide)
  obtain ⟨q1, q2⟩ := point_rd hx hy hP nm2
  obtain ⟨a, w, b, d⟩ := unit_sign (R := pt x y) hn (c := 10) (by decide) (by decide) (pt_fb x y) h1.left.left q1
  have w1 : wantF s 47 M = .ok (M.w, D) := wantF_yes (by rw [hM0]; rfl) (by rw [hM0]; rfl) (by rw [hM0]; exact nd)
  have w2 : wantF s 100 D = .ok (D.w, t') := wantF_yes (by rw [hD0]; rfl) (by rw [hD0]; rfl) (by rw [hD0]; exact hN)
  have dn : D.w.n = r := by rw [hD0]; rfl
  refine ⟨_, a, unit_name b ?_⟩
  unfold atomF
  dsimp only
  rw [d, if_neg (by decide), q1]
  simp only [Out.bind]
  rw [if_neg (by decide), if_neg (by decide), if_pos (by decide), q2]
  simp only
  rw [w1]
  simp only
  rw [if_neg (fun e => by rw [dn] at e; omega), w2]
  simp only
  rw [dn]
end Go.Proofs.Ytmgljgmieomngaa.Pz
namespace Go.Proofs.Ytmgljgmieomngaa.Pz
open Go Go.RowKit Go.Proofs.YtmgljgmieomngaaW.PrintWords Go.Proofs.YtmgljgmieomngaaW.PrintLast Go.Proofs.YtmgljgmieomngaaW.PrintMore Go.Proofs.Ytmgljgmieomngaa.Q Go.Proofs.Ytmgljgmieomngaa.Oct
set_option linter.unusedVariables false
theorem all_str (b : ByteArray) : ∃ l : List Int, (∀ x ∈ l, 0 ≤ x ∧ x ≤ 255) ∧ l.length = b.size ∧ strOfNums l = b := by
  refine ⟨bytesOf b, fun x hx => ?_, bytesOf_length b, str_bytes b⟩
  have := bytesOf_bs b x hx
  omega
theorem sign_f (c : Int) (h3 : 3 ≤ c) (h10 : c ≤ 10) : pred_sign.f c = some (sgB c) := by
  have hc : c = 3 ∨ c = 4 ∨ c = 5 ∨ c = 6 ∨ c = 7 ∨ c = 8 ∨ c = 9 ∨ c = 10 := by omega
  rcases hc with rfl | rfl | rfl | rfl | rfl | rfl | rfl | rfl <;> rfl
/-- a comparison's term with its text -/
def AX (x : S54) : Prop := x.f0 = 3 ∧ ∃ T : ByteArray, T.size ≤ 2000 ∧ FB T ∧ UU T [x] ∧ ∀ k, 800 ≤ k → pred_one.f k x.f0 x.f1 x.f2 x.f3.f0 x.f3.f1 x.f3.f2 x.f3.f3 x.f3.f4 x.f4 = some T
theorem AX.has {nm : ByteArray} (h : NO nm) : AX ⟨3, nm, 1, z43, 0⟩ := by
  have hz : ((⟨#[63]⟩ : ByteArray) ++ nm).size = (⟨#[63]⟩ : ByteArray).size + nm.size := ByteArray.size_append
  have h1 := sz1 63
  have h2 := h.le
  refine ⟨rfl, _, by omega, FB.one 63 (by decide) nm, UU.has h, fun k hk => ?_⟩
  unfold pred_one.f
  rw [if_pos rfl, if_pos (show 1 + nm.size ≤ 9223372036854775807 by omega)]
theorem AX.name {nm : ByteArray} (h : NO nm) : AX ⟨3, nm, 2, z43, 0⟩ := by
  have h2 := h.le
  refine ⟨rfl, nm, by omega, h.fb, UU.name h, fun k hk => ?_⟩
  unfold pred_one.f
  rw [if_neg (show ¬ (2 : Int) = 1 by decide), if_pos rfl]
theorem AX.cmp {nm : ByteArray} (h : NO nm) {c : Int} {v : S43} {T : ByteArray} (h3 : 3 ≤ c) (h9 : c ≤ 9) (hv : CV v T) (hc : c = 3 ∨ c = 4 ∨ v.f0 = 2 ∨ (v.f0 = 1 ∧ c ≠ 9)) : AX ⟨3, nm, c, v, 0⟩ := by
  obtain ⟨fb, hs, hl⟩ := hv.text
  have z1 : (nm ++ sgB c).size = nm.size + (sgB c).size := ByteArray.size_append
  have z2 : ((nm ++ sgB c) ++ T).size = (nm ++ sgB c).size + T.size := ByteArray.size_append
  have h2 := h.le
  obtain ⟨f0, f1, -⟩ := sgB_fact c
  refine ⟨rfl, _, by omega, FB.app (FB.app h.fb _) _, UU.cmp h h3 h9 fb (hv.rd hc), fun k hk => ?_⟩
  unfold pred_one.f
  rw [if_neg (show ¬ c = 1 by omega), if_neg (show ¬ c = 2 by omega), if_neg (show ¬ c = 10 by omega), sign_f c h3 (by omega)]
  simp only [Option.bind_some]
  rw [if_pos (by omega), hl k (by omega)]
  simp only [Option.bind_some]
  rw [if_pos (by omega)]
theorem AX.near {nm : ByteArray} (h : NO nm) {x y r : Int} (hx : -1048576 ≤ x ∧ x ≤ 1048576) (hy : -1048576 ≤ y ∧ y ≤ 1048576) (hr : 0 ≤ r ∧ r ≤ 1048576) :
    AX ⟨3, nm, 10, ⟨4, 0, ⟨#[]⟩, false, ⟨floatOfInt .f64 x, floatOfInt .f64 y⟩⟩, r⟩ := by
  obtain ⟨fb, hs, hl⟩ := (CV.point x y hx hy).text
  have z1 : (nm ++ sgB 10).size = nm.size + (sgB 10).size := ByteArray.size_append
  have z2 : ((nm ++ sgB 10) ++ pt x y).size = (nm ++ sgB 10).size + (pt x y).size := ByteArray.size_append
  have z3 : (((nm ++ sgB 10) ++ pt x y) ++ (⟨#[47]⟩ : ByteArray)).size = ((nm ++ sgB 10) ++ pt x y).size + (⟨#[47]⟩ : ByteArray).size := ByteArray.size_append
  have z4 : ((((nm ++ sgB 10) ++ pt x y) ++ (⟨#[47]⟩ : ByteArray)) ++ dg r).size = (((nm ++ sgB 10) ++ pt x y) ++ (⟨#[47]⟩ : ByteArray)).size + (dg r).size := ByteArray.size_append
  have h1 := sz1 47
  have h2 := h.le
  have h3 := dg_size r
  have f1 : (sgB 10).size = 1 := rfl
  refine ⟨rfl, _, by omega, FB.app (FB.app (FB.app (FB.app h.fb _) _) _) _, UU.near h hx hy hr, fun k hk => ?_⟩
  unfold pred_one.f
  rw [if_neg (show ¬ (10 : Int) = 1 by decide), if_neg (show ¬ (10 : Int) = 2 by decide), if_pos rfl]
  have e : sgB 10 = (⟨#[126]⟩ : ByteArray) := rfl
  rw [e] at z1 z2 z3 z4 ⊢
  have f2 := sz1 126
  rw [if_pos (show nm.size + 1 ≤ 9223372036854775807 by omega)]
  have hl' := hl k (by omega)
  simp only at hl'
  rw [hl']
  simp only [Option.bind_some]
  rw [if_pos (by omega), if_pos (by omega), digits_f r k (by omega) (by omega) (by omega)]
  simp only [Option.bind_some]
  rw [if_pos (by omega)]
theorem nm_all (s : ByteArray) : ∀ (d : Nat) (i : Int), nm s d i = true → ∀ j : Int, i ≤ j → j < i + d → okc j (bt s j) = true
  | 0, i, h, j, h0, h1 => by omega
  | d + 1, i, h, j, h0, h1 => by
    rw [nm, Bool.and_eq_true] at h
    by_cases e : j = i
    · rw [e]; exact h.1
    · exact nm_all s d (i + 1) h.2 j (by omega) (by omega)
theorem NO.of {nm : ByteArray} (h : NM nm = true) : NO nm := by
  unfold NM at h
  rw [Bool.and_eq_true, decide_eq_true_eq] at h
  obtain ⟨⟨h1, h2⟩, h3⟩ := h
  have ha := nm_all nm nm.size 0 h3
  refine ⟨by omega, h2, ?_, fun i i0 i1 => ?_⟩
  · have := ha 0 (by omega) (by omega)
    unfold okc at this
    simp at this
    omega
  · have := ha i i0 (by omega)
    unfold okc at this
    unfold isNm
    simp at this ⊢
    omega
theorem pointF_cv {s : ByteArray} {t t' : St} {v : S43} (hi : In s t) (h : pointF s t = .ok (v, t')) :
    ∃ x y : Int, (-1048576 ≤ x ∧ x ≤ 1048576) ∧ (-1048576 ≤ y ∧ y ≤ 1048576) ∧ v = ⟨4, 0, ⟨#[]⟩, false, ⟨floatOfInt .f64 x, floatOfInt .f64 y⟩⟩ := by
  unfold pointF at h
  obtain ⟨⟨a1, t1⟩, e1, h⟩ := Out.bind_ok h
  obtain ⟨⟨a2, t2⟩, e2, h⟩ := Out.bind_ok h
  obtain ⟨⟨a3, t3⟩, e3, h⟩ := Out.bind_ok h
  obtain ⟨⟨a4, t4⟩, e4, h⟩ := Out.bind_ok h
  obtain ⟨⟨a5, t5⟩, e5, h⟩ := Out.bind_ok h
  injection h with h; injection h with h' h; subst h h'
  have i1 := wantF_in hi e1
  have i2 := partF_in i1.1 e2
  have i3 := wantF_in i2.1 e3
  exact ⟨a2, a4, (partF_wk i1.1 e2).2, (partF_wk i3.1 e4).2, rfl⟩
theorem plainF_cv {s : ByteArray} {b : Bool} {t t' : St} {v : S43} (hi : In s t) (hw : Wk t.w) (h : plainF s b t = .ok (v, t')) : ∃ T, CV v T ∧ (v.f0 = 2 ∨ (v.f0 = 1 ∧ b = false)) := by
  unfold plainF at h
  split at h
  · rename_i hc
    obtain ⟨a, e1, e2⟩ := Out.bind_ok h
    injection e2 with e2; injection e2 with e3 e2; rw [← e3]
    have := hw.2.1 hc.1
    exact ⟨_, CV.whole _ this.1 this.2, .inr ⟨rfl, hc.2⟩⟩
  · obtain ⟨⟨a1, t1⟩, e1, h⟩ := Out.bind_ok h
    injection h with h; injection h with h' h; subst h h'
    obtain ⟨w1, w2, w3⟩ := wantF_wk hi e1
    obtain ⟨l, l1, l2, l3⟩ := all_str a1.tx
    have hs : (a1.tx.size : Int) ≤ 200 := by rw [w2] at w3 ⊢; exact hw.2.2 w3
    show ∃ T, CV ⟨2, 0, a1.tx, false, ⟨0, 0⟩⟩ T ∧ _
    rw [← l3]
    exact ⟨_, CV.words l l1 (by omega), .inl rfl⟩
theorem anyF_cv {s : ByteArray} {t t' : St} {v : S43} (hi : In s t) (hw : Wk t.w) (h : anyF s t = .ok (v, t')) : ∃ T, CV v T := by
  unfold anyF at h
  split at h
  · obtain ⟨x, y, hx, hy, e⟩ := pointF_cv hi h
    exact ⟨_, e ▸ CV.point x y hx hy⟩
  · split at h
    · obtain ⟨a, e1, e2⟩ := Out.bind_ok h
      injection e2 with e2; injection e2 with e3 e2; rw [← e3]
      cases (t.w.tx == yesB) with
      | true => exact ⟨_, CV.yes⟩
      | false => exact ⟨_, CV.no⟩
    · obtain ⟨T, h1, -⟩ := plainF_cv hi hw h; exact ⟨T, h1⟩
theorem atomF_ax {s nm : ByteArray} {t t' : St} {x : S54} (hi : In s t) (hw : Wk t.w) (hn : NM nm = true) (h : atomF s nm t = .ok (x, t')) : AX x := by
  have hcr := cmp_rng t.w
  have no := NO.of hn
  unfold atomF at h
  simp only at h
  split at h
  · injection h with h; injection h with h' h; rw [← h']
    exact AX.name no
  · rename_i hc
    obtain ⟨t1, e1, h⟩ := Out.bind_ok h
    have i1 := (nextF_in hi.1 hi.2 e1).1
    have w1 := nextF_wk hi.1 hi.2 e1
    generalize cmpF t.w = c at *
    split at h
    · rename_i h34
      obtain ⟨⟨a, t2⟩, e2, h⟩ := Out.bind_ok h
      injection h with h; injection h with h' h; subst h h'
      obtain ⟨T, hv⟩ := anyF_cv i1 w1 e2
      exact AX.cmp no (by omega) (by omega) hv (by rcases h34 with h | h <;> simp [h])
    · split at h
      · rename_i h9
        obtain ⟨⟨a, t2⟩, e2, h⟩ := Out.bind_ok h
        injection h with h; injection h with h' h; subst h h'
        obtain ⟨T, hv, hc⟩ := plainF_cv i1 w1 e2
        exact AX.cmp no (by omega) (by omega) hv (by rcases hc with h | h
                                                     · exact .inr (.inr (.inl h))
                                                     · simp at h)
      · split at h
        · rename_i h10
          obtain ⟨⟨a, t2⟩, e2, h⟩ := Out.bind_ok h
          obtain ⟨⟨b, t3⟩, e3, h⟩ := Out.bind_ok h
          split at h
          · simp at h
          · rename_i hr
            obtain ⟨⟨d, t4⟩, e4, h⟩ := Out.bind_ok h
            injection h with h; injection h with h' h; subst h h' h10
            obtain ⟨x, y, hx, hy, e⟩ := pointF_cv i1 e2
            have i2 := (pointF_in i1 e2).1
            have i3 := (wantF_in i2 e3).1
            obtain ⟨w4, w5, w6⟩ := wantF_wk i3 e4
            rw [e]
            refine AX.near no hx hy ?_
            simp only at hr
            show 0 ≤ d.n ∧ d.n ≤ 1048576
            rw [w5] at w6 ⊢
            omega
        · rename_i hn34 hn9 hn10
          obtain ⟨⟨a, t2⟩, e2, h⟩ := Out.bind_ok h
          injection h with h; injection h with h' h; subst h h'
          obtain ⟨T, hv, hc⟩ := plainF_cv i1 w1 e2
          exact AX.cmp no (by omega) (by omega) hv (by rcases hc with h | h
                                                       · exact .inr (.inr (.inl h))
                                                       · exact .inr (.inr (.inr ⟨h.1, hn9⟩)))
end Go.Proofs.Ytmgljgmieomngaa.Pz
namespace Go.Proofs.Ytmgljgmieomngaa.Pz
open Go Go.RowKit Go.Proofs.YtmgljgmieomngaaW.PrintWords Go.Proofs.YtmgljgmieomngaaW.PrintLast Go.Proofs.YtmgljgmieomngaaW.PrintMore Go.Proofs.Ytmgljgmieomngaa.Q Go.Proofs.Ytmgljgmieomngaa.Oct
set_option linter.unusedVariables false
inductive GR : Md → List S54 → Prop
  | not {l : List S54} : GR .unit l → GR .unit (l ++ [op54 4])
  | par {l : List S54} : GR .sum l → GR .unit l
  | star : GR .unit [op54 1]
  | none : GR .unit [op54 2]
  | atom {x : S54} : AX x → GR .unit [x]
  | sum {l1 l2 l3 : List S54} : GR .unit l1 → GR .alls l2 → GR .sums l3 → GR .sum (l1 ++ l2 ++ l3)
  | alls0 : GR .alls []
  | alls {l1 l2 : List S54} : GR .unit l1 → GR .alls l2 → GR .alls (l1 ++ [op54 5] ++ l2)
  | sums0 : GR .sums []
  | sums {l1 l2 l3 : List S54} : GR .unit l1 → GR .alls l2 → GR .sums l3 → GR .sums (l1 ++ l2 ++ [op54 6] ++ l3)
theorem pr_gr (s : ByteArray) : ∀ (k : Nat) (m : Md) (t : St) (o : Out (List S54 × St)), Iw s t → Wk t.w → pr s k m t = some o → ∀ l t', o = .ok (l, t') → GR m l
  | 0, m, t, o, hi, hw, h => by simp [pr] at h
  | k + 1, .unit, t, o, hi, hw, h => by
    intro l t' ho
    subst ho
    rcases pr_unit h with ⟨p, e, _, h⟩ | ⟨t1, o1, a1, a2, a3⟩ | ⟨-, h⟩
    · simp at h
    · obtain ⟨⟨l1, t2⟩, b1, b2⟩ := Out.bind_ok a3.symm
      injection b2 with b2; injection b2 with b2 b3; subst b2 b3
      have u1 := isF_up hi (by decide) a1
      exact .not (pr_gr s k .unit t1 o1 u1.1 (isF_wk hi.1 hw a1) a2 l1 t2 b1)
    rcases h with ⟨p, e, _, h⟩ | ⟨t1, o1, a1, a2, a3⟩ | ⟨-, h⟩
    · simp at h
    · obtain ⟨⟨l1, t2⟩, b1, b2⟩ := Out.bind_ok a3.symm
      obtain ⟨⟨a, t3⟩, b3, b4⟩ := Out.bind_ok b2
      injection b4 with b4; injection b4 with b4 b5; subst b4 b5
      have u1 := isF_up hi (by decide) a1
      exact .par (pr_gr s k .sum t1 o1 u1.1 (isF_wk hi.1 hw a1) a2 l1 t2 b1)
    rcases h with ⟨p, e, _, h⟩ | ⟨t1, a1, a3⟩ | ⟨-, h⟩
    · simp at h
    · injection a3 with a3; injection a3 with a3 a4; subst a3 a4
      exact .star
    rcases h with ⟨p, e, _, h⟩ | ⟨t1, a1, a3⟩ | ⟨-, h⟩
    · simp at h
    · injection a3 with a3; injection a3 with a3 a4; subst a3 a4
      exact .none
    rcases h with ⟨p, e, _, h⟩ | ⟨t1, a1, a3⟩ | ⟨-, h⟩
    · simp at h
    · obtain ⟨⟨a, t2⟩, b1, b2⟩ := Out.bind_ok a3.symm
      injection b2 with b2; injection b2 with b2 b3; subst b2 b3
      have u1 := isF_up hi (by decide) a1
      obtain ⟨w1, w2, w3⟩ := wantF_wk u1.1.1 b1
      have hn : NM a.tx = true := by rw [w2] at w3 ⊢; exact (isF_wk hi.1 hw a1).1 w3
      exact .atom (AX.has (NO.of hn))
    · obtain ⟨⟨a, t2⟩, b1, b2⟩ := Out.bind_ok h.symm
      obtain ⟨⟨x, t3⟩, b3, b4⟩ := Out.bind_ok b2
      injection b4 with b4; injection b4 with b4 b5; subst b4 b5
      obtain ⟨w1, w2, w3⟩ := wantF_wk hi.1 b1
      have hn : NM a.tx = true := by rw [w2] at w3 ⊢; exact hw.1 w3
      exact .atom (atomF_ax (wantF_in hi.1 b1).1 w1 hn b3)
  | k + 1, .sum, t, o, hi, hw, h => by
    intro l t' ho
    obtain ⟨o1, a1, a2, a3⟩ := pr_sum h
    cases o1 with
    | bad p e => have := a2 p e rfl; rw [ho] at this; simp at this
    | ok r =>
      obtain ⟨l1, t1⟩ := r
      obtain ⟨o2, b1, b2, b3⟩ := a3 l1 t1 rfl
      have u1 := pr_up s k .unit t _ hi a1 l1 t1 rfl
      have v1 := pr_ok s k .unit t _ hi hw a1 l1 t1 rfl
      cases o2 with
      | bad p e => have := b2 p e rfl; rw [ho] at this; simp at this
      | ok r =>
        obtain ⟨l2, t2⟩ := r
        obtain ⟨o3, c1, c2⟩ := b3 l2 t2 rfl
        have u2 := pr_up s k .alls t1 _ u1.1 b1 l2 t2 rfl
        have v2 := pr_ok s k .alls t1 _ u1.1 v1.2 b1 l2 t2 rfl
        rw [ho] at c2
        obtain ⟨⟨l3, t3⟩, d1, d2⟩ := Out.bind_ok c2.symm
        injection d2 with d2; injection d2 with d2 d3; subst d3
        have g := GR.sum (pr_gr s k .unit t _ hi hw a1 l1 t1 rfl) (pr_gr s k .alls t1 _ u1.1 v1.2 b1 l2 t2 rfl) (pr_gr s k .sums t2 _ u2.1 v2.2 c1 l3 t3 d1)
        rw [← d2]
        simpa using g
  | k + 1, .alls, t, o, hi, hw, h => by
    intro l t' ho
    rw [pr] at h
    cases h1 : isF s 38 t with
    | bad p e => rw [h1] at h; injection h with h; rw [ho] at h; simp at h
    | ok r =>
      obtain ⟨b, t1⟩ := r
      cases b with
      | false =>
        rw [h1] at h; injection h with h; rw [ho] at h; injection h with h; injection h with h h'; subst h h'
        exact .alls0
      | true =>
        rw [h1] at h
        simp only at h
        obtain ⟨o1, f1, h⟩ := bind_some' h
        have u1 := isF_up hi (by decide) h1
        cases o1 with
        | bad p e => injection h with h; rw [ho] at h; simp at h
        | ok r =>
          obtain ⟨l1, t2⟩ := r
          simp only at h
          obtain ⟨o2, f2, h⟩ := bind_some' h
          injection h with h; rw [ho] at h
          obtain ⟨⟨l2, t3⟩, d1, d2⟩ := Out.bind_ok h
          injection d2 with d2; injection d2 with d2 d3; subst d2 d3
          have w1 := isF_wk hi.1 hw h1
          have u2 := pr_up s k .unit t1 _ u1.1 f1 l1 t2 rfl
          have v2 := pr_ok s k .unit t1 _ u1.1 w1 f1 l1 t2 rfl
          exact .alls (pr_gr s k .unit t1 _ u1.1 w1 f1 l1 t2 rfl) (pr_gr s k .alls t2 _ u2.1 v2.2 f2 l2 t3 d1)
  | k + 1, .sums, t, o, hi, hw, h => by
    intro l t' ho
    rw [pr] at h
    cases h1 : isF s 124 t with
    | bad p e => rw [h1] at h; injection h with h; rw [ho] at h; simp at h
    | ok r =>
      obtain ⟨b, t1⟩ := r
      cases b with
      | false =>
        rw [h1] at h; injection h with h; rw [ho] at h; injection h with h; injection h with h h'; subst h h'
        exact .sums0
      | true =>
        rw [h1] at h
        simp only at h
        obtain ⟨o1, f1, h⟩ := bind_some' h
        have u1 := isF_up hi (by decide) h1
        have w1 := isF_wk hi.1 hw h1
        cases o1 with
        | bad p e => injection h with h; rw [ho] at h; simp at h
        | ok r =>
          obtain ⟨l1, t2⟩ := r
          simp only at h
          obtain ⟨o2, f2, h⟩ := bind_some' h
          have u2 := pr_up s k .unit t1 _ u1.1 f1 l1 t2 rfl
          have v2 := pr_ok s k .unit t1 _ u1.1 w1 f1 l1 t2 rfl
          cases o2 with
          | bad p e => injection h with h; rw [ho] at h; simp at h
          | ok r =>
            obtain ⟨l2, t3⟩ := r
            simp only at h
            obtain ⟨o3, f3, h⟩ := bind_some' h
            injection h with h; rw [ho] at h
            obtain ⟨⟨l3, t4⟩, d1, d2⟩ := Out.bind_ok h
            injection d2 with d2; injection d2 with d2 d3; subst d2 d3
            have u3 := pr_up s k .alls t2 _ u2.1 f2 l2 t3 rfl
            have v3 := pr_ok s k .alls t2 _ u2.1 v2.2 f2 l2 t3 rfl
            exact .sums (pr_gr s k .unit t1 _ u1.1 w1 f1 l1 t2 rfl) (pr_gr s k .alls t2 _ u2.1 v2.2 f2 l2 t3 rfl) (pr_gr s k .sums t3 _ u3.1 v3.2 f3 l3 t4 d1)
/-- how many entries a text's terms leave -/
def dl (m : Md) : Int := match m with | .unit => 1 | .sum => 1 | _ => 0
theorem CK_push {x : S54} {ts : List S54} {n : Int} (h4 : x.f0 ≠ 4) (h5 : x.f0 ≠ 5) (h6 : x.f0 ≠ 6) : CK (x :: ts) n = 6 ∨ CK (x :: ts) n = CK ts (n + 1) := by
  rw [CK, if_neg h4, if_neg (fun e => e.elim h5 h6)]
  split
  · exact .inl rfl
  · exact .inr rfl
theorem GR.ck {m : Md} {l : List S54} (h : GR m l) : ∀ (rest : List S54) (n : Int), 1 - dl m ≤ n → CK (l ++ rest) n = 6 ∨ CK (l ++ rest) n = CK rest (n + dl m) := by
  induction h with
  | not h ih =>
    intro rest n hn
    rw [List.append_assoc]
    rcases ih ([op54 4] ++ rest) n hn with e | e
    · exact .inl e
    · right
      simp only [dl] at hn e ⊢
      rw [e, List.singleton_append, CK, if_pos (show (op54 4).f0 = 4 from rfl), if_neg (by omega)]
  | par h ih => exact ih
  | star =>
    intro rest n hn
    exact CK_push (show (1 : Int) ≠ 4 by decide) (show (1 : Int) ≠ 5 by decide) (show (1 : Int) ≠ 6 by decide)
  | none =>
    intro rest n hn
    exact CK_push (show (2 : Int) ≠ 4 by decide) (show (2 : Int) ≠ 5 by decide) (show (2 : Int) ≠ 6 by decide)
  | atom h =>
    intro rest n hn
    have := h.1
    exact CK_push (by omega) (by omega) (by omega)
  | sum h1 h2 h3 ih1 ih2 ih3 =>
    intro rest n hn
    simp only [dl] at *
    rw [List.append_assoc, List.append_assoc]
    rcases ih1 _ n hn with e | e
    · exact .inl e
    · rw [e]
      rcases ih2 _ (n + 1) (by omega) with e | e
      · exact .inl e
      · rw [e]
        rcases ih3 rest (n + 1 + 0) (by omega) with e | e
        · exact .inl e
        · right; rw [e]; simp
  | alls0 => intro rest n hn; right; simp [dl]
  | sums0 => intro rest n hn; right; simp [dl]
  | alls h1 h2 ih1 ih2 =>
    intro rest n hn
    simp only [dl] at *
    rw [List.append_assoc, List.append_assoc]
    rcases ih1 _ n (by omega) with e | e
    · exact .inl e
    · rw [e, List.singleton_append, CK, if_neg (show ¬ (op54 5).f0 = 4 by decide), if_pos (show (op54 5).f0 = 5 ∨ _ from .inl rfl), if_neg (by omega)]
      rcases ih2 rest (n + 1 - 1) (by omega) with e | e
      · exact .inl e
      · right; rw [e]; congr 1; omega
  | sums h1 h2 h3 ih1 ih2 ih3 =>
    intro rest n hn
    simp only [dl] at *
    rw [List.append_assoc, List.append_assoc, List.append_assoc]
    rcases ih1 _ n (by omega) with e | e
    · exact .inl e
    · rw [e]
      rcases ih2 _ (n + 1) (by omega) with e | e
      · exact .inl e
      · rw [e, List.singleton_append, CK, if_neg (show ¬ (op54 6).f0 = 4 by decide), if_pos (show (op54 6).f0 = 5 ∨ (op54 6).f0 = 6 from .inr rfl), if_neg (by omega)]
        rcases ih3 rest (n + 1 + 0 - 1) (by omega) with e | e
        · exact .inl e
        · right; rw [e]; congr 1; omega
/-- a term as Parse tells it -/
def CT (x : S54) : Prop := x = op54 1 ∨ x = op54 2 ∨ x = op54 4 ∨ x = op54 5 ∨ x = op54 6 ∨ AX x
theorem GR.ct {m : Md} {l : List S54} (h : GR m l) : ∀ x ∈ l, CT x := by
  induction h with
  | not h ih =>
    intro x hx
    rcases List.mem_append.1 hx with hx | hx
    · exact ih x hx
    · rw [List.mem_singleton.1 hx]; exact .inr (.inr (.inl rfl))
  | par h ih => exact ih
  | star => intro x hx; rw [List.mem_singleton.1 hx]; exact .inl rfl
  | none => intro x hx; rw [List.mem_singleton.1 hx]; exact .inr (.inl rfl)
  | atom h => intro x hx; rw [List.mem_singleton.1 hx]; exact .inr (.inr (.inr (.inr (.inr h))))
  | sum h1 h2 h3 ih1 ih2 ih3 =>
    intro x hx
    simp only [List.mem_append] at hx
    rcases hx with (hx | hx) | hx
    · exact ih1 x hx
    · exact ih2 x hx
    · exact ih3 x hx
  | alls0 => intro x hx; simp at hx
  | sums0 => intro x hx; simp at hx
  | alls h1 h2 ih1 ih2 =>
    intro x hx
    simp only [List.mem_append, List.mem_singleton] at hx
    rcases hx with (hx | hx) | hx
    · exact ih1 x hx
    · rw [hx]; exact .inr (.inr (.inr (.inl rfl)))
    · exact ih2 x hx
  | sums h1 h2 h3 ih1 ih2 ih3 =>
    intro x hx
    simp only [List.mem_append, List.mem_singleton] at hx
    rcases hx with ((hx | hx) | hx) | hx
    · exact ih1 x hx
    · exact ih2 x hx
    · rw [hx]; exact .inr (.inr (.inr (.inr (.inl rfl))))
    · exact ih3 x hx
theorem Check_ck {xs : List S54} {c : Int} (hx : ∀ t ∈ xs, OKT t) (hl : xs.length ≤ 48) {k : Nat} (hk : 500 ≤ k) : pred_Check.f k xs = some (CK xs 0) := by
  unfold pred_Check.f
  rw [if_neg (by omega)]
  exact Check_l0 xs hx (by omega) xs 0 k 0 rfl (by omega) (by omega) (by omega)
end Go.Proofs.Ytmgljgmieomngaa.Pz
namespace Go.Proofs.Ytmgljgmieomngaa.Pz
open Go Go.RowKit Go.Proofs.YtmgljgmieomngaaW.PrintWords Go.Proofs.YtmgljgmieomngaaW.PrintLast Go.Proofs.YtmgljgmieomngaaW.PrintMore Go.Proofs.Ytmgljgmieomngaa.Q Go.Proofs.Ytmgljgmieomngaa.Oct
set_option linter.unusedVariables false
/-- an entry of Print's stack, with the terms that its text is read as -/
def EN (e : S66) (l : List S54) : Prop := ((e.f1 = 2 ∧ UU e.f0 l) ∨ (e.f1 = 1 ∧ AA e.f0 l) ∨ (e.f1 = 0 ∧ OO e.f0 l)) ∧ FB e.f0 ∧ e.f0.size ≤ 2000 * l.length
theorem par_size (T : ByteArray) : (((⟨#[40]⟩ : ByteArray) ++ T) ++ (⟨#[41]⟩ : ByteArray)).size = T.size + 2 := by
  have z1 : ((⟨#[40]⟩ : ByteArray) ++ T).size = (⟨#[40]⟩ : ByteArray).size + T.size := ByteArray.size_append
  have z2 : (((⟨#[40]⟩ : ByteArray) ++ T) ++ (⟨#[41]⟩ : ByteArray)).size = ((⟨#[40]⟩ : ByteArray) ++ T).size + (⟨#[41]⟩ : ByteArray).size := ByteArray.size_append
  have h1 := sz1 40
  have h2 := sz1 41
  omega
theorem within_yes {T : ByteArray} {h a : Int} (c : h < a) (hs : T.size ≤ 200000) : pred_printed_within.f T h a = some (((⟨#[40]⟩ : ByteArray) ++ T) ++ (⟨#[41]⟩ : ByteArray)) := by
  have z1 : ((⟨#[40]⟩ : ByteArray) ++ T).size = (⟨#[40]⟩ : ByteArray).size + T.size := ByteArray.size_append
  have h1 := sz1 40
  unfold pred_printed_within.f
  rw [if_pos c, if_pos (by omega), if_pos (by omega)]
theorem within_no {T : ByteArray} {h a : Int} (c : ¬ h < a) : pred_printed_within.f T h a = some T := by
  unfold pred_printed_within.f
  rw [if_neg c]
theorem par_fb (T : ByteArray) : FB (((⟨#[40]⟩ : ByteArray) ++ T) ++ (⟨#[41]⟩ : ByteArray)) := FB.app (FB.one 40 (by decide) T) _
theorem EN.two {e : S66} {l : List S54} (h : EN e l) (hl : l.length ≤ 48) : ∃ T, pred_printed_within.f e.f0 e.f1 2 = some T ∧ UU T l ∧ FB T ∧ T.size ≤ 2000 * l.length + 2 := by
  obtain ⟨h, fb, hs⟩ := h
  have := par_size e.f0
  rcases h with ⟨h, u⟩ | ⟨h, u⟩ | ⟨h, u⟩
  · exact ⟨_, within_no (by omega), u, fb, by omega⟩
  · exact ⟨_, within_yes (by omega) (by omega), u.any.paren, par_fb _, by omega⟩
  · exact ⟨_, within_yes (by omega) (by omega), u.paren, par_fb _, by omega⟩
theorem EN.one {e : S66} {l : List S54} (h : EN e l) (hl : l.length ≤ 48) : ∃ T, pred_printed_within.f e.f0 e.f1 1 = some T ∧ AA T l ∧ FB T ∧ T.size ≤ 2000 * l.length + 2 := by
  obtain ⟨h, fb, hs⟩ := h
  have := par_size e.f0
  rcases h with ⟨h, u⟩ | ⟨h, u⟩ | ⟨h, u⟩
  · exact ⟨_, within_no (by omega), u.all, fb, by omega⟩
  · exact ⟨_, within_no (by omega), u, fb, by omega⟩
  · exact ⟨_, within_yes (by omega) (by omega), u.paren.all, par_fb _, by omega⟩
theorem EN.zero {e : S66} {l : List S54} (h : EN e l) (hl : l.length ≤ 48) : ∃ T, pred_printed_within.f e.f0 e.f1 0 = some T ∧ OO T l ∧ FB T ∧ T.size ≤ 2000 * l.length + 2 := by
  obtain ⟨h, fb, hs⟩ := h
  rcases h with ⟨h, u⟩ | ⟨h, u⟩ | ⟨h, u⟩
  · exact ⟨_, within_no (by omega), u.all.any, fb, by omega⟩
  · exact ⟨_, within_no (by omega), u.any, fb, by omega⟩
  · exact ⟨_, within_no (by omega), u, fb, by omega⟩
theorem EN.oo {e : S66} {l : List S54} (h : EN e l) : OO e.f0 l := by
  rcases h.1 with ⟨h, u⟩ | ⟨h, u⟩ | ⟨h, u⟩
  · exact u.all.any
  · exact u.any
  · exact u
theorem EN.not {T : ByteArray} {l : List S54} (u : UU T l) (fb : FB T) (hs : T.size ≤ 2000 * l.length + 2) : EN ⟨(⟨#[33]⟩ : ByteArray) ++ T, 2⟩ (l ++ [op54 4]) := by
  have z1 : ((⟨#[33]⟩ : ByteArray) ++ T).size = (⟨#[33]⟩ : ByteArray).size + T.size := ByteArray.size_append
  have h1 := sz1 33
  exact ⟨.inl ⟨rfl, u.not fb⟩, FB.one 33 (by decide) T, by simp only [List.length_append, List.length_cons, List.length_nil]; omega⟩
theorem two_size (A B M : ByteArray) (hm : M.size = 3) : ((A ++ M) ++ B).size = A.size + B.size + 3 := by
  have z1 : (A ++ M).size = A.size + M.size := ByteArray.size_append
  have z2 : ((A ++ M) ++ B).size = (A ++ M).size + B.size := ByteArray.size_append
  omega
theorem EN.and {A B : ByteArray} {la lb : List S54} (a : AA A la) (b : UU B lb) (fb : FB A) (ha : A.size ≤ 2000 * la.length + 2) (hb : B.size ≤ 2000 * lb.length + 2) : EN ⟨(A ++ (⟨#[32, 38, 32]⟩ : ByteArray)) ++ B, 1⟩ (la ++ lb ++ [op54 5]) := by
  have z := two_size A B ⟨#[32, 38, 32]⟩ rfl
  exact ⟨.inr (.inl ⟨rfl, a.and b⟩), FB.app (FB.app fb _) _, by simp only [List.length_append, List.length_cons, List.length_nil]; omega⟩
theorem EN.or {A B : ByteArray} {la lb : List S54} (a : OO A la) (b : AA B lb) (fb : FB A) (ha : A.size ≤ 2000 * la.length + 2) (hb : B.size ≤ 2000 * lb.length + 2) : EN ⟨(A ++ (⟨#[32, 124, 32]⟩ : ByteArray)) ++ B, 0⟩ (la ++ lb ++ [op54 6]) := by
  have z := two_size A B ⟨#[32, 124, 32]⟩ rfl
  exact ⟨.inr (.inr ⟨rfl, a.or b⟩), FB.app (FB.app fb _) _, by simp only [List.length_append, List.length_cons, List.length_nil]; omega⟩
theorem rd66_mid (a r : List S66) (x : S66) (i : Int) (h : i = a.length) : rd_T66 (a ++ x :: r) i = x := by
  subst h
  unfold rd_T66
  simp
theorem set66_mid (a r : List S66) (x y : S66) : (a ++ x :: r).set a.length y = a ++ y :: r := by
  induction a with
  | nil => rfl
  | cons z a ih => simp
theorem last_of {α : Type} (l : List α) (h : 1 ≤ l.length) : ∃ a x, l = a ++ [x] := by
  rcases List.eq_nil_or_concat l with e | ⟨a, x, e⟩
  · subst e; simp at h
  · exact ⟨a, x, by simpa using e⟩
end Go.Proofs.Ytmgljgmieomngaa.Pz
namespace Go.Proofs.Ytmgljgmieomngaa.Pz
open Go Go.RowKit Go.Proofs.YtmgljgmieomngaaW.PrintWords Go.Proofs.YtmgljgmieomngaaW.PrintLast Go.Proofs.YtmgljgmieomngaaW.PrintMore Go.Proofs.Ytmgljgmieomngaa.Q Go.Proofs.Ytmgljgmieomngaa.Oct
set_option linter.unusedVariables false
theorem take_mid {α : Type} (a r : List α) (x : α) : (a ++ x :: r).take (a.length + 1) = a ++ [x] := by
  induction a with
  | nil => rfl
  | cons z a ih => simpa using ih
theorem Print_l0 (xs : List S54) (hx : ∀ x ∈ xs, CT x) (hl : xs.length ≤ 48) : ∀ (rest : List S54) (i k : Nat) (st : List (S66 × List S54)), xs.drop i = rest → CK rest st.length = 0 → i ≤ xs.length → st.length ≤ i → (∀ q ∈ st, EN q.1 q.2) →
    (st.map Prod.snd).flatten = xs.take i → 900 + rest.length < k →
    ∃ e, EN e xs ∧ pred_Print.l0 k (st.map Prod.fst) xs (xs.length : Int) (i : Int) = some (if (e.f0.size : Int) > 300 then ((⟨#[]⟩ : ByteArray), 6) else (e.f0, 0))
  | [], i, k, st, h, hc, hi, hst, hen, hf, hk => by
    obtain ⟨k, rfl⟩ : ∃ m, k = m + 1 := ⟨k - 1, by omega⟩
    have hi2 : xs.length ≤ i := List.drop_eq_nil_iff.1 h
    have h1 : st.length = 1 := by
      rw [CK] at hc
      split at hc
      · omega
      · simp at hc
    obtain ⟨q, rfl⟩ := List.length_eq_one_iff.1 h1
    have e : q.2 = xs := by
      simp only [List.map_cons, List.map_nil, List.flatten_cons, List.flatten_nil, List.append_nil] at hf
      rw [hf, List.take_of_length_le hi2]
    have he := hen q (by simp)
    rw [e] at he
    refine ⟨q.1, he, ?_⟩
    have hr : rd_T66 [q.1] 0 = q.1 := rfl
    rw [pred_Print.l0, if_neg (by omega), if_pos (by simp), List.map_cons, List.map_nil, hr]
    by_cases c : (q.1.f0.size : Int) > 300
    · rw [if_pos c, if_pos c]
    · rw [if_neg c, if_neg c]
  | x :: rest, i, k, st, h, hc, hi, hst, hen, hf, hk => by
    obtain ⟨k, rfl⟩ : ∃ m, k = m + 1 := ⟨k - 1, by omega⟩
    simp only [List.length_cons] at hk
    obtain ⟨e1, e2, e3⟩ := rdT_drop h
    have hw : wrap64 ((i : Int) + 1) = ((i + 1 : Nat) : Int) := by unfold wrap64; omega
    have hdx : xs.take (i + 1) = xs.take i ++ [x] := by
      have : xs[i]? = some x := by
        have := congrArg (fun l => l[0]?) h
        simpa using this
      rw [List.take_add_one, this]; rfl
    have hm : (st.map Prod.fst).length = st.length := List.length_map _
    have hfl : ((st.map Prod.snd).flatten).length ≤ 48 := by rw [hf, List.length_take]; omega
    have next : ∀ st' : List (S66 × List S54), CK rest st'.length = 0 → st'.length ≤ i + 1 → (∀ q ∈ st', EN q.1 q.2) → (st'.map Prod.snd).flatten = xs.take i ++ [x] →
        ∃ e, EN e xs ∧ pred_Print.l0 k (st'.map Prod.fst) xs (xs.length : Int) ((i + 1 : Nat) : Int) = some (if (e.f0.size : Int) > 300 then ((⟨#[]⟩ : ByteArray), 6) else (e.f0, 0)) :=
      fun st' c1 c2 c3 c4 => Print_l0 xs hx hl rest (i + 1) k st' e3 c1 (by omega) c2 c3 (by rw [hdx]; exact c4) (by omega)
    have push : ∀ en : S66, EN en [x] → (x.f0 ≠ 4 ∧ x.f0 ≠ 5 ∧ x.f0 ≠ 6) → ∃ e, EN e xs ∧ pred_Print.l0 k (st.map Prod.fst ++ [en]) xs (xs.length : Int) ((i + 1 : Nat) : Int) = some (if (e.f0.size : Int) > 300 then ((⟨#[]⟩ : ByteArray), 6) else (e.f0, 0)) := by
      intro en he hn
      have hp := next (st ++ [(en, [x])]) (by
        rw [CK, if_neg hn.1, if_neg (fun e => e.elim hn.2.1 hn.2.2)] at hc
        split at hc
        · simp at hc
        · rw [List.length_append]; simpa using hc) (by simp; omega) (fun q hq => by
          rcases List.mem_append.1 hq with hq | hq
          · exact hen q hq
          · rw [List.mem_singleton.1 hq]; exact he) (by simp [hf])
      rw [List.map_append] at hp
      simpa only [List.map_cons, List.map_nil] using hp
    have ct := hx x (by
      have : x ∈ xs.drop i := by rw [h]; exact List.mem_cons_self
      exact List.mem_of_mem_drop this)
    rw [pred_Print.l0, if_pos (by omega), if_pos (by omega), if_pos (by omega), e1, hw, hm]
    rcases ct with rfl | rfl | rfl | rfl | rfl | ⟨hx3, T, t1, t2, t3, t4⟩
    · rw [if_pos (show (op54 1).f0 = 1 from rfl), if_pos (by omega)]
      exact push ⟨(⟨#[42]⟩ : ByteArray), 2⟩ ⟨.inl ⟨rfl, UU.star⟩, ⟨by decide, by decide⟩, by decide⟩ ⟨by decide, by decide, by decide⟩
    · rw [if_neg (show ¬ (op54 2).f0 = 1 by decide), if_pos (show (op54 2).f0 = 2 from rfl), if_pos (by omega)]
      exact push ⟨(⟨#[35]⟩ : ByteArray), 2⟩ ⟨.inl ⟨rfl, UU.none⟩, ⟨by decide, by decide⟩, by decide⟩ ⟨by decide, by decide, by decide⟩
    · have hc0 : 1 ≤ st.length ∧ CK rest st.length = 0 := by
        rw [CK, if_pos (show (op54 4).f0 = 4 from rfl)] at hc
        split at hc
        · simp at hc
        · exact ⟨by omega, hc⟩
      obtain ⟨a, q, rfl⟩ := last_of st hc0.1
      have hq := hen q (by simp)
      rw [List.map_append, List.flatten_append] at hfl
      simp only [List.map_cons, List.map_nil, List.flatten_cons, List.flatten_nil, List.append_nil, List.length_append] at hfl
      obtain ⟨T, w1, w2, w3, w4⟩ := hq.two (by omega)
      have hlen : ((a ++ [q]).length : Int) = a.length + 1 := by simp
      have hj : wrap64 (((a ++ [q]).length : Int) - 1) = ((a.map Prod.fst).length : Int) := by rw [hlen, List.length_map]; unfold wrap64; omega
      have hr : rd_T66 ((a ++ [q]).map Prod.fst) ((a.map Prod.fst).length : Int) = q.1 := by
        rw [List.map_append]; exact rd66_mid _ _ _ _ rfl
      rw [if_neg (show ¬ (op54 4).f0 = 1 by decide), if_neg (show ¬ (op54 4).f0 = 2 by decide), if_neg (show ¬ (op54 4).f0 = 3 by decide), if_pos (show (op54 4).f0 = 4 from rfl), hj,
        if_pos (by omega), if_pos (by rw [List.length_map]; omega), hr, w1]
      simp only [Option.bind_some]
      rw [if_pos (by omega), Int.toNat_natCast]
      have hs : ((a ++ [q]).map Prod.fst).set (a.map Prod.fst).length (⟨(⟨#[33]⟩ : ByteArray) ++ T, 2⟩ : S66) = (a ++ [((⟨(⟨#[33]⟩ : ByteArray) ++ T, 2⟩ : S66), q.2 ++ [op54 4])]).map Prod.fst := by
        rw [List.map_append, List.map_append]; exact set66_mid _ _ _ _
      rw [hs]
      refine next _ (by rw [List.length_append] at hc0 ⊢; exact hc0.2) (by rw [List.length_append] at hst ⊢; simp at hst ⊢; omega) (fun q' hq' => ?_) ?_
      · rcases List.mem_append.1 hq' with hq' | hq'
        · exact hen q' (List.mem_append_left _ hq')
        · rw [List.mem_singleton.1 hq']; exact EN.not w2 w3 w4
      · rw [← hf]; simp
    · have hc0 : 2 ≤ st.length ∧ CK rest ((st.length : Int) - 1) = 0 := by
        rw [CK, if_neg (show ¬ (op54 5).f0 = 4 by decide), if_pos (show (op54 5).f0 = 5 ∨ (op54 5).f0 = 6 from .inl rfl)] at hc
        split at hc
        · simp at hc
        · exact ⟨by omega, hc⟩
      obtain ⟨b, q2, rfl⟩ := last_of st (by omega)
      obtain ⟨a, q1, rfl⟩ := last_of b (by have := hc0.1; simp at this; omega)
      have hq1 := hen q1 (by simp)
      have hq2 := hen q2 (by simp)
      have hfe : ((((a ++ [q1]) ++ [q2]).map Prod.snd).flatten) = (a.map Prod.snd).flatten ++ (q1.2 ++ q2.2) := by simp
      have hfl2 : q1.2.length + q2.2.length ≤ 48 := by rw [hfe] at hfl; simp only [List.length_append] at hfl; omega
      obtain ⟨A, a1, a2, a3, a4⟩ := hq1.one (by omega)
      obtain ⟨B, b1, b2, b3, b4⟩ := hq2.two (by omega)
      have hlen : ((((a ++ [q1]) ++ [q2]).length : Nat) : Int) = a.length + 2 := by simp only [List.length_append, List.length_cons, List.length_nil]; omega
      have hj : wrap64 ((((a ++ [q1]) ++ [q2]).length : Int) - 1) = ((((a ++ [q1]).map Prod.fst).length : Nat) : Int) := by rw [hlen, List.length_map, List.length_append]; unfold wrap64; simp; omega
      have hj2 : wrap64 (((((a ++ [q1]).map Prod.fst).length : Nat) : Int) - 1) = ((a.map Prod.fst).length : Int) := by rw [List.length_map, List.length_map, List.length_append]; unfold wrap64; simp; omega
      have hr2 : rd_T66 (((a ++ [q1]) ++ [q2]).map Prod.fst) ((((a ++ [q1]).map Prod.fst).length : Nat) : Int) = q2.1 := by
        rw [List.map_append]; exact rd66_mid _ _ _ _ rfl
      have hr1 : rd_T66 (((a ++ [q1]) ++ [q2]).map Prod.fst) ((a.map Prod.fst).length : Int) = q1.1 := by
        rw [List.append_assoc, List.map_append]; exact rd66_mid _ _ _ _ rfl
      have hla : ((a.map Prod.fst).length : Int) = a.length := by rw [List.length_map]
      have hlb : ((((a ++ [q1]).map Prod.fst).length : Nat) : Int) = a.length + 1 := by rw [List.length_map]; simp
      have z := two_size A B ⟨#[32, 38, 32]⟩ rfl
      have zA : (A ++ (⟨#[32, 38, 32]⟩ : ByteArray)).size = A.size + (⟨#[32, 38, 32]⟩ : ByteArray).size := ByteArray.size_append
      have z3 : (⟨#[32, 38, 32]⟩ : ByteArray).size = 3 := rfl
      rw [if_neg (show ¬ (op54 5).f0 = 1 by decide), if_neg (show ¬ (op54 5).f0 = 2 by decide), if_neg (show ¬ (op54 5).f0 = 3 by decide), if_neg (show ¬ (op54 5).f0 = 4 by decide), if_pos (show (op54 5).f0 = 5 from rfl), hj, hj2,
        if_pos (by omega), if_pos (by omega), hr1, a1]
      simp only [Option.bind_some]
      rw [if_pos (by omega), if_pos (by omega), if_pos (by omega), hr2, b1]
      simp only [Option.bind_some]
      rw [if_pos (by omega), if_pos (by omega), Int.toNat_natCast, Int.toNat_natCast]
      have hs : ((((a ++ [q1]) ++ [q2]).map Prod.fst).set (a.map Prod.fst).length (⟨(A ++ (⟨#[32, 38, 32]⟩ : ByteArray)) ++ B, 1⟩ : S66)).take ((a ++ [q1]).map Prod.fst).length = (a ++ [((⟨(A ++ (⟨#[32, 38, 32]⟩ : ByteArray)) ++ B, 1⟩ : S66), q1.2 ++ q2.2 ++ [op54 5])]).map Prod.fst := by
        have h1 : (((a ++ [q1]) ++ [q2]).map Prod.fst) = a.map Prod.fst ++ q1.1 :: [q2.1] := by simp
        have h2 : ((a ++ [q1]).map Prod.fst).length = (a.map Prod.fst).length + 1 := by simp
        rw [h1, set66_mid, h2, take_mid]
        simp
      rw [hs]
      refine next _ (by have h7 := hc0.2; rw [hlen] at h7; rw [List.length_append, show (((a.length + [((⟨(A ++ (⟨#[32, 38, 32]⟩ : ByteArray)) ++ B, 1⟩ : S66), q1.2 ++ q2.2 ++ [op54 5])].length : Nat) : Int)) = (a.length : Int) + 2 - 1 by simp; omega]; exact h7) (by rw [List.length_append] at hst ⊢; simp at hst ⊢; omega) (fun q' hq' => ?_) ?_
      · rcases List.mem_append.1 hq' with hq' | hq'
        · exact hen q' (by simp [hq'])
        · rw [List.mem_singleton.1 hq']; exact EN.and a2 b2 a3 a4 b4
      · rw [← hf]; simp
    · have hc0 : 2 ≤ st.length ∧ CK rest ((st.length : Int) - 1) = 0 := by
        rw [CK, if_neg (show ¬ (op54 6).f0 = 4 by decide), if_pos (show (op54 6).f0 = 5 ∨ (op54 6).f0 = 6 from .inr rfl)] at hc
        split at hc
        · simp at hc
        · exact ⟨by omega, hc⟩
      obtain ⟨b, q2, rfl⟩ := last_of st (by omega)
      obtain ⟨a, q1, rfl⟩ := last_of b (by have := hc0.1; simp at this; omega)
      have hq1 := hen q1 (by simp)
      have hq2 := hen q2 (by simp)
      have hfe : ((((a ++ [q1]) ++ [q2]).map Prod.snd).flatten) = (a.map Prod.snd).flatten ++ (q1.2 ++ q2.2) := by simp
      have hfl2 : q1.2.length + q2.2.length ≤ 48 := by rw [hfe] at hfl; simp only [List.length_append] at hfl; omega
      obtain ⟨A, a1, a2, a3, a4⟩ := hq1.zero (by omega)
      obtain ⟨B, b1, b2, b3, b4⟩ := hq2.one (by omega)
      have hlen : ((((a ++ [q1]) ++ [q2]).length : Nat) : Int) = a.length + 2 := by simp only [List.length_append, List.length_cons, List.length_nil]; omega
      have hj : wrap64 ((((a ++ [q1]) ++ [q2]).length : Int) - 1) = ((((a ++ [q1]).map Prod.fst).length : Nat) : Int) := by rw [hlen, List.length_map, List.length_append]; unfold wrap64; simp; omega
      have hj2 : wrap64 (((((a ++ [q1]).map Prod.fst).length : Nat) : Int) - 1) = ((a.map Prod.fst).length : Int) := by rw [List.length_map, List.length_map, List.length_append]; unfold wrap64; simp; omega
      have hr2 : rd_T66 (((a ++ [q1]) ++ [q2]).map Prod.fst) ((((a ++ [q1]).map Prod.fst).length : Nat) : Int) = q2.1 := by
        rw [List.map_append]; exact rd66_mid _ _ _ _ rfl
      have hr1 : rd_T66 (((a ++ [q1]) ++ [q2]).map Prod.fst) ((a.map Prod.fst).length : Int) = q1.1 := by
        rw [List.append_assoc, List.map_append]; exact rd66_mid _ _ _ _ rfl
      have hla : ((a.map Prod.fst).length : Int) = a.length := by rw [List.length_map]
      have hlb : ((((a ++ [q1]).map Prod.fst).length : Nat) : Int) = a.length + 1 := by rw [List.length_map]; simp
      have z := two_size A B ⟨#[32, 124, 32]⟩ rfl
      have zA : (A ++ (⟨#[32, 124, 32]⟩ : ByteArray)).size = A.size + (⟨#[32, 124, 32]⟩ : ByteArray).size := ByteArray.size_append
      have z3 : (⟨#[32, 124, 32]⟩ : ByteArray).size = 3 := rfl
      rw [if_neg (show ¬ (op54 6).f0 = 1 by decide), if_neg (show ¬ (op54 6).f0 = 2 by decide), if_neg (show ¬ (op54 6).f0 = 3 by decide), if_neg (show ¬ (op54 6).f0 = 4 by decide), if_neg (show ¬ (op54 6).f0 = 5 by decide), if_pos (show (op54 6).f0 = 6 from rfl), hj, hj2,
        if_pos (by omega), if_pos (by omega), hr1, a1]
      simp only [Option.bind_some]
      rw [if_pos (by omega), if_pos (by omega), if_pos (by omega), hr2, b1]
      simp only [Option.bind_some]
      rw [if_pos (by omega), if_pos (by omega), Int.toNat_natCast, Int.toNat_natCast]
      have hs : ((((a ++ [q1]) ++ [q2]).map Prod.fst).set (a.map Prod.fst).length (⟨(A ++ (⟨#[32, 124, 32]⟩ : ByteArray)) ++ B, 0⟩ : S66)).take ((a ++ [q1]).map Prod.fst).length = (a ++ [((⟨(A ++ (⟨#[32, 124, 32]⟩ : ByteArray)) ++ B, 0⟩ : S66), q1.2 ++ q2.2 ++ [op54 6])]).map Prod.fst := by
        have h1 : (((a ++ [q1]) ++ [q2]).map Prod.fst) = a.map Prod.fst ++ q1.1 :: [q2.1] := by simp
        have h2 : ((a ++ [q1]).map Prod.fst).length = (a.map Prod.fst).length + 1 := by simp
        rw [h1, set66_mid, h2, take_mid]
        simp
      rw [hs]
      refine next _ (by have h7 := hc0.2; rw [hlen] at h7; rw [List.length_append, show (((a.length + [((⟨(A ++ (⟨#[32, 124, 32]⟩ : ByteArray)) ++ B, 0⟩ : S66), q1.2 ++ q2.2 ++ [op54 6])].length : Nat) : Int)) = (a.length : Int) + 2 - 1 by simp; omega]; exact h7) (by rw [List.length_append] at hst ⊢; simp at hst ⊢; omega) (fun q' hq' => ?_) ?_
      · rcases List.mem_append.1 hq' with hq' | hq'
        · exact hen q' (by simp [hq'])
        · rw [List.mem_singleton.1 hq']; exact EN.or a2 b2 a3 a4 b4
      · rw [← hf]; simp
    · have n1 : x.f0 ≠ 1 ∧ x.f0 ≠ 2 := by omega
      rw [if_neg n1.1, if_neg n1.2, if_pos hx3, t4 k (by omega)]
      simp only [Option.bind_some]
      rw [if_pos (by omega)]
      exact push ⟨T, 2⟩ ⟨.inl ⟨rfl, t3⟩, t2, by simpa using t1⟩ ⟨by omega, by omega, by omega⟩
end Go.Proofs.Ytmgljgmieomngaa.Pz
namespace Go.Proofs.Ytmgljgmieomngaa.Pz
open Go Go.RowKit Go.Proofs.YtmgljgmieomngaaW.PrintWords Go.Proofs.YtmgljgmieomngaaW.PrintLast Go.Proofs.YtmgljgmieomngaaW.PrintMore Go.Proofs.Ytmgljgmieomngaa.Q Go.Proofs.Ytmgljgmieomngaa.Oct
set_option linter.unusedVariables false
theorem pr_mono (s : ByteArray) : ∀ (k : Nat) (m : Md) (t : St), LeO (pr s k m t) (pr s (k + 1) m t)
  | 0, m, t => fun r h => by simp [pr] at h
  | k + 1, .unit, t => by
    have ih := pr_mono s k
    rw [pr.eq_2 s t k, pr.eq_2 s t (k + 1)]
    cases isF s 33 t with
    | bad p e => exact LeO.refl _
    | ok r =>
      obtain ⟨b, t1⟩ := r
      cases b with
      | true => exact LeO.bind (ih .unit t1) (fun _ => LeO.refl _)
      | false =>
        simp only
        cases isF s 40 t with
        | bad p e => exact LeO.refl _
        | ok r =>
          obtain ⟨b, t1⟩ := r
          cases b with
          | true => exact LeO.bind (ih .sum t1) (fun _ => LeO.refl _)
          | false => exact LeO.refl _
  | k + 1, .sum, t => by
    have ih := pr_mono s k
    rw [pr.eq_3 s t k, pr.eq_3 s t (k + 1)]
    refine LeO.bind (ih _ _) (fun o1 => ?_)
    cases o1 with
    | bad p e => exact LeO.refl _
    | ok r =>
      refine LeO.bind (ih _ _) (fun o2 => ?_)
      cases o2 with
      | bad p e => exact LeO.refl _
      | ok r => exact LeO.bind (ih _ _) (fun _ => LeO.refl _)
  | k + 1, .alls, t => by
    have ih := pr_mono s k
    rw [pr.eq_4 s t k, pr.eq_4 s t (k + 1)]
    cases isF s 38 t with
    | bad p e => exact LeO.refl _
    | ok r =>
      obtain ⟨b, t1⟩ := r
      cases b with
      | false => exact LeO.refl _
      | true =>
        refine LeO.bind (ih _ _) (fun o1 => ?_)
        cases o1 with
        | bad p e => exact LeO.refl _
        | ok r => exact LeO.bind (ih _ _) (fun _ => LeO.refl _)
  | k + 1, .sums, t => by
    have ih := pr_mono s k
    rw [pr.eq_5 s t k, pr.eq_5 s t (k + 1)]
    cases isF s 124 t with
    | bad p e => exact LeO.refl _
    | ok r =>
      obtain ⟨b, t1⟩ := r
      cases b with
      | false => exact LeO.refl _
      | true =>
        refine LeO.bind (ih _ _) (fun o1 => ?_)
        cases o1 with
        | bad p e => exact LeO.refl _
        | ok r =>
          refine LeO.bind (ih _ _) (fun o2 => ?_)
          cases o2 with
          | bad p e => exact LeO.refl _
          | ok r => exact LeO.bind (ih _ _) (fun _ => LeO.refl _)
theorem pr_mono' (s : ByteArray) (k : Nat) (m : Md) (t : St) : ∀ d, LeO (pr s k m t) (pr s (k + d) m t)
  | 0 => LeO.refl _
  | d + 1 => LeO.trans (pr_mono' s k m t d) (pr_mono s (k + d) m t)
theorem next_end {s : ByteArray} {q : Int} (h : (s.size : Int) ≤ q) : nextF s q = .ok ⟨q, ⟨101, false, q, ⟨#[]⟩, 0⟩⟩ := by
  unfold nextF
  rw [scan_no _ s q (fun e => by have := e.1; omega)]
  simp only
  rw [if_neg (by omega)]
/-- what a right parse tells -/
theorem parse_right {s : ByteArray} {l : List S54} {p : Int} (h : parseF s = some (l, p, 0)) : s.size ≤ 300 ∧ p = 0 ∧ GR .sum l ∧ (∀ x ∈ l, OKT x) ∧ l.length ≤ 48 ∧ CK l 0 = 0 := by
  have hs : s.size ≤ 300 := by
    rcases Nat.lt_or_ge 300 s.size with h1 | h1
    · unfold parseF at h
      rw [if_pos h1] at h
      injection h with h; injection h with _ h; injection h with _ h; simp at h
    · exact h1
  refine ⟨hs, ?_⟩
  rcases parse_parts s hs with ⟨p', e, b, n1, n2⟩ | ⟨t, o, n1, i1, w1, n2, ⟨p', e, b, n3, n4⟩ | ⟨l', t1, n3, i2, ok, ⟨p', e, b, n4, n5⟩ | ⟨a, c, n4, n5, n6⟩⟩⟩
  · rw [n2] at h; injection h with h; injection h with _ h; injection h with _ h; exact absurd h b.1
  · rw [n4] at h; injection h with h; injection h with _ h; injection h with _ h; exact absurd h b.1
  · rw [n5] at h; injection h with h; injection h with _ h; injection h with _ h; exact absurd h b.1
  · rw [n6] at h
    injection h with h
    by_cases c6 : c = 6
    · rw [if_pos c6] at h; injection h with _ h; injection h with _ h; simp at h
    · rw [if_neg c6] at h
      injection h with h h2; injection h2 with h2 _
      subst h
      have g := pr_gr s 3000 .sum t o i1 w1 n2 l' t1 n3
      have hl := Check_len n5 c6
      have hck := Check_ck (c := 0) ok hl (k := 3000) (by decide)
      rw [hck] at n5
      injection n5 with n5
      refine ⟨h2.symm, g, ok, hl, ?_⟩
      rcases g.ck [] 0 (by simp [dl]) with e | e
      · rw [List.append_nil] at e; exact absurd (n5.symm.trans e) c6
      · rw [List.append_nil] at e; rw [e]; rfl
theorem parse_wrong {s : ByteArray} {l : List S54} {p e : Int} (h : parseF s = some (l, p, e)) (he : e ≠ 0) : l = [] := by
  rcases Nat.lt_or_ge 300 s.size with h1 | h1
  · unfold parseF at h
    rw [if_pos h1] at h
    injection h with h; injection h with h _; exact h.symm
  · rcases parse_parts s h1 with ⟨p', e', b, n1, n2⟩ | ⟨t, o, n1, i1, w1, n2, ⟨p', e', b, n3, n4⟩ | ⟨l', t1, n3, i2, ok, ⟨p', e', b, n4, n5⟩ | ⟨a, c, n4, n5, n6⟩⟩⟩
    · rw [n2] at h; injection h with h; injection h with h _; exact h.symm
    · rw [n4] at h; injection h with h; injection h with h _; exact h.symm
    · rw [n5] at h; injection h with h; injection h with h _; exact h.symm
    · rw [n6] at h
      injection h with h
      by_cases c6 : c = 6
      · rw [if_pos c6] at h; injection h with h _; exact h.symm
      · rw [if_neg c6] at h; injection h with _ h; injection h with _ h; exact absurd h.symm he
theorem parse_some (s : ByteArray) : ∃ l p e, parseF s = some (l, p, e) := by
  rcases Nat.lt_or_ge 300 s.size with h1 | h1
  · exact ⟨[], 0, 6, by unfold parseF; rw [if_pos h1]⟩
  · rcases parse_parts s h1 with ⟨p', e', b, n1, n2⟩ | ⟨t, o, n1, i1, w1, n2, ⟨p', e', b, n3, n4⟩ | ⟨l', t1, n3, i2, ok, ⟨p', e', b, n4, n5⟩ | ⟨a, c, n4, n5, n6⟩⟩⟩
    · exact ⟨_, _, _, n2⟩
    · exact ⟨_, _, _, n4⟩
    · exact ⟨_, _, _, n5⟩
    · by_cases c6 : c = 6
      · exact ⟨_, _, _, by rw [n6, if_pos c6]⟩
      · exact ⟨_, _, _, by rw [n6, if_neg c6]⟩
theorem Sits.self (s : ByteArray) : Sits s s 0 := ⟨Int.le_refl 0, by omega, fun i _ _ => by rw [Int.zero_add]⟩
theorem parse_read {s : ByteArray} {l : List S54} (hs : s.size ≤ 300) (h : OO s l) (ok : ∀ x ∈ l, OKT x) (hl : l.length ≤ 48) (hc : CK l 0 = 0) : parseF s = some (l, 0, 0) := by
  have he := next_end (s := s) (q := 0 + s.size) (by omega)
  obtain ⟨t, e1, n0, u⟩ := h.sum (Sits.self s) (.inl (by omega)) he (.inl rfl) (show (101 : Int) ≠ 38 by decide) (show (101 : Int) ≠ 124 by decide)
  have i1 := (nextF_iw (Int.le_refl 0) (by omega) e1).1
  obtain ⟨o, ho⟩ := pr_tot s 3000 .sum t i1 (by have := i1.2.1; simp only [need]; omega)
  have h1 := pr_mono' s 3000 .sum t n0 o ho
  rw [u (3000 + n0) (by omega)] at h1
  injection h1 with h1
  have hw : wantF s 101 ⟨0 + s.size, ⟨101, false, 0 + s.size, ⟨#[]⟩, 0⟩⟩ = .ok (⟨101, false, 0 + s.size, ⟨#[]⟩, 0⟩, ⟨0 + s.size, ⟨101, false, 0 + s.size, ⟨#[]⟩, 0⟩⟩) := wantF_yes rfl rfl he
  unfold parseF
  rw [if_neg (by omega), e1]
  simp only
  rw [ho, ← h1]
  simp only [Option.bind_some]
  rw [hw]
  simp only
  rw [Check_ck (c := 0) ok hl (by decide), hc]
  rfl
end Go.Proofs.Ytmgljgmieomngaa.Pz
namespace Go.Proofs.Ytmgljgmieomngaa.Pure
open Go Go.RowKit Go.Proofs.Ytmgljgmieomngaa.Q Go.Proofs.Ytmgljgmieomngaa.Oct Go.Proofs.Ytmgljgmieomngaa.Pz Go.Proofs.YtmgljgmieomngaaW.PrintWords Go.Proofs.YtmgljgmieomngaaW.PrintLast Go.Proofs.YtmgljgmieomngaaW.PrintMore
theorem PredAgain : grapevinelaw05_PredAgain.Pure := by
  intro s hs
  refine ⟨2000, ?_⟩
  obtain ⟨l, p, e, h⟩ := parse_some s
  unfold grapevinelaw05_PredAgain.f pred_Parse.f
  rw [h]
  simp only [Option.bind_some, grapevinelaw05_live.f, if_true]
  by_cases he : e = 0
  · subst he
    rw [if_pos rfl]
    obtain ⟨h1, rfl, g, ok, hl, hc⟩ := parse_right h
    have hck := Check_ck (c := 0) ok hl (k := 2000) (by decide)
    rw [hc] at hck
    obtain ⟨en, e1, e2⟩ := Print_l0 l g.ct hl l 0 2000 [] rfl hc (by omega) (by simp) (by simp) rfl (by omega)
    have hp : pred_Print.f 2000 l = some (if (en.f0.size : Int) > 300 then ((⟨#[]⟩ : ByteArray), 6) else (en.f0, 0)) := by
      unfold pred_Print.f
      rw [hck]
      simp only [Option.bind_some, if_true]
      exact e2
    rw [hp]
    simp only [Option.bind_some]
    by_cases c : (en.f0.size : Int) > 300
    · rw [if_pos c, hck]
      simp
    · rw [if_neg c]
      simp only [if_true]
      rw [parse_read (by omega) e1.oo ok hl hc]
      simp only [Option.bind_some, if_true]
      rw [Same_f l ok hl 2000 (by decide)]
      rfl
  · rw [if_neg he, parse_wrong h he]
    rfl
end Go.Proofs.Ytmgljgmieomngaa.Pure
