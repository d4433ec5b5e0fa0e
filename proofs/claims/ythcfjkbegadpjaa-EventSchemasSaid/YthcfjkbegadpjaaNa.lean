/- Numbers as bytes, seven bits a byte, and as keys: plain laws on lists and whole numbers. -/
import Derived.Laws.BitsAllLaws
import Derived.RowKit
import Derived.Test.YthcfjkbegadpjaaWMore
namespace Go.Proofs.Ythcfjkbegadpjaa.Oct
open Go Go.RowKit Go.Proofs.YthcfjkbegadpjaaW.PrintWords Go.Proofs.YthcfjkbegadpjaaW.PrintMore
set_option linter.unusedVariables false

theorem u64w (x : Int) : IntKind.u64.wrap x = x % 18446744073709551616 := IntKind.wrap_u64 x
theorem u64w_id {x : Int} (h0 : 0 ≤ x) (h1 : x < 18446744073709551616) : IntKind.u64.wrap x = x := by rw [u64w]; omega
theorem w64_id {x : Int} (h0 : -9223372036854775808 ≤ x) (h1 : x < 9223372036854775808) : wrap64 x = x := by unfold wrap64; omega

/-- bytes: all from 0 to 255 -/
def Bs (l : List Int) : Prop := ∀ x ∈ l, 0 ≤ x ∧ x ≤ 255
theorem Bs.of_wf {l : List Int} (h : ∀ x ∈ l, (Lit.int .u8 x).wf = true) : Bs l := by
  intro x hx
  have := h x hx
  simp [Lit.wf, IntKind.min, IntKind.max, IntKind.signed, IntKind.bits] at this
  omega
theorem Bs.nil : Bs [] := by intro x hx; simp at hx
theorem Bs.cons {x : Int} {l : List Int} (h : 0 ≤ x ∧ x ≤ 255) (hl : Bs l) : Bs (x :: l) := by
  intro y hy
  rcases List.mem_cons.mp hy with rfl | hy
  · exact h
  · exact hl y hy
theorem Bs.append {a b : List Int} (ha : Bs a) (hb : Bs b) : Bs (a ++ b) := by
  intro x hx
  rcases List.mem_append.mp hx with h | h
  · exact ha x h
  · exact hb x h
theorem Bs.drop {l : List Int} (h : Bs l) (n : Nat) : Bs (l.drop n) := fun x hx => h x (List.mem_of_mem_drop hx)
theorem Bs.take {l : List Int} (h : Bs l) (n : Nat) : Bs (l.take n) := fun x hx => h x (List.mem_of_mem_take hx)

/-! ### a number's bytes -/
def uB : Nat → Int → List Int
  | 0, n => [n]
  | f + 1, n => if n ≥ 128 then (n % 128 + 128) :: uB f (n / 128) else [n]

theorem or128 (x : Int) (h0 : 0 ≤ x) (h1 : x < 256) : Go.bits .or .u8 x 128 = x % 128 + 128 := by
  rw [u8_or x 128 h0 h1 (by decide) (by decide)]
  have key : ∀ n : Fin 256, (n.val ||| 128) = n.val % 128 + 128 := by decide +kernel
  have := key ⟨x.toNat, by omega⟩
  simp only at this
  rw [show (128 : Int).toNat = 128 from rfl, this]
  omega
theorem and127 (x : Int) (h0 : 0 ≤ x) (h1 : x < 256) : Go.bits .and .u8 x 127 = x % 128 := by
  rw [u8_and x 127 h0 h1 (by decide) (by decide)]
  rw [show (127 : Int).toNat = 127 from rfl, nat_mask7]
  omega

theorem uB_len (f : Nat) (n : Int) : 1 ≤ (uB f n).length ∧ (uB f n).length ≤ f + 1 := by
  induction f generalizing n with
  | zero => simp [uB]
  | succ f ih =>
    unfold uB
    split
    · have := ih (n / 128)
      simp only [List.length_cons]
      omega
    · simp
theorem uB_small (f : Nat) (n : Int) (h : n < 128) : uB f n = [n] := by
  cases f with
  | zero => rfl
  | succ f => unfold uB; rw [if_neg (by omega)]
theorem uB_bytes (f : Nat) (n : Int) (h0 : 0 ≤ n) (h1 : n < 128 ^ (f + 1)) : Bs (uB f n) := by
  induction f generalizing n with
  | zero => exact Bs.cons ⟨h0, by simp at h1; omega⟩ Bs.nil
  | succ f ih =>
    unfold uB
    split
    · refine Bs.cons ⟨by omega, by omega⟩ (ih _ (by omega) ?_)
      rw [Int.pow_succ] at h1
      exact Int.ediv_lt_of_lt_mul (by decide) h1
    · exact Bs.cons ⟨h0, by omega⟩ Bs.nil

theorem uB_mono (f : Nat) : ∀ a b : Int, 0 ≤ a → a ≤ b → b < 128 ^ (f + 1) → (uB f a).length ≤ (uB f b).length := by
  induction f with
  | zero => intro a b _ _ _; simp [uB]
  | succ f ih =>
    intro a b ha hab hb
    unfold uB
    by_cases h1 : a ≥ 128
    · rw [if_pos h1, if_pos (by omega)]
      simp only [List.length_cons]
      have hb' : b / 128 < 128 ^ (f + 1) := by
        rw [Int.pow_succ] at hb
        exact Int.ediv_lt_of_lt_mul (by decide) hb
      have := ih (a / 128) (b / 128) (by omega) (by omega) hb'
      omega
    · rw [if_neg h1]
      have := (uB_len (f + 1) b).1
      unfold uB at this
      exact this

/-- what stands for a number: the value, how many bytes, the error -/
def tk : List Int → Nat → Int → Int × Int × Int
  | [], _, _ => (0, 0, 3)
  | x :: xs, i, n =>
    if i = 9 ∧ x > 1 then (0, 0, 6)
    else if x ≥ 128 then tk xs (i + 1) (n + x % 128 * 2 ^ (7 * i))
    else if x = 0 ∧ i > 0 then (0, 0, 4)
    else (n + x % 128 * 2 ^ (7 * i), (i : Int) + 1, 0)
def fin (at' : Int) (r : Int × Int × Int) : Int × Int × Int := (r.1, if r.2.2 = 0 then at' + r.2.1 else 0, r.2.2)
/-- the number at a place, and the place behind it, or the error -/
def TU (b : List Int) (at' : Int) : Int × Int × Int :=
  if at' < 0 ∨ at' > (b.length : Int) then (0, 0, 2) else fin at' (tk (b.drop at'.toNat) 0 0)

theorem pow2_le {a b : Nat} (h : a ≤ b) : (2 : Int) ^ a ≤ 2 ^ b := by
  have : ((2 ^ a : Nat) : Int) ≤ ((2 ^ b : Nat) : Int) := Int.ofNat_le.mpr (Nat.pow_le_pow_right (by decide) h)
  rw [Int.natCast_pow, Int.natCast_pow] at this
  exact this
theorem pow7 (i : Nat) : (2 : Int) ^ (7 * (i + 1)) = 2 ^ (7 * i) * 128 := by
  rw [Nat.mul_add, Int.pow_add]; rfl
theorem pow7pos (i : Nat) : (0 : Int) < 2 ^ (7 * i) := Int.pow_pos (by decide)
theorem pow_le9 {i : Nat} (h : i ≤ 9) : (2 : Int) ^ (7 * i) ≤ 9223372036854775808 := by
  have : (2 : Int) ^ (7 * i) ≤ 2 ^ (7 * 9) := pow2_le (by omega)
  exact this

/-- the digit's share, beside what was there -/
theorem or_shl (n x : Int) (i : Nat) (hi : i ≤ 9) (hn0 : 0 ≤ n) (hn : n < 2 ^ (7 * i)) (hx0 : 0 ≤ x) (hx : x ≤ 255) (h9 : i = 9 → x ≤ 1) :
    Go.bits .or .u64 n (shl .u64 (IntKind.u64.wrap (Go.bits .and .u8 x 127)) (wrap64 (7 * (i : Int)))) = n + x % 128 * 2 ^ (7 * i) ∧
      n + x % 128 * 2 ^ (7 * i) < 18446744073709551616 ∧ (i < 9 → n + x % 128 * 2 ^ (7 * i) < 2 ^ (7 * (i + 1))) := by
  have hp := pow7pos i
  have hp9 := pow_le9 hi
  have hm : x % 128 * 2 ^ (7 * i) + n < 18446744073709551616 := by
    by_cases h : i = 9
    · subst h
      have : x % 128 ≤ 1 := by have := h9 rfl; omega
      have e : (2 : Int) ^ (7 * 9) = 9223372036854775808 := by decide +kernel
      rw [e] at hn ⊢
      omega
    · have h8 : (2 : Int) ^ (7 * i) ≤ 2 ^ (7 * 8) := pow2_le (by omega)
      have e : (2 : Int) ^ (7 * 8) = 72057594037927936 := by decide +kernel
      rw [e] at h8
      have : x % 128 * 2 ^ (7 * i) ≤ 127 * 2 ^ (7 * i) := Int.mul_le_mul_of_nonneg_right (by omega) (by omega)
      omega
  have hlt : i < 9 → n + x % 128 * 2 ^ (7 * i) < 2 ^ (7 * (i + 1)) := by
    intro _
    rw [pow7]
    have : x % 128 * 2 ^ (7 * i) ≤ 127 * 2 ^ (7 * i) := Int.mul_le_mul_of_nonneg_right (by omega) (by omega)
    omega
  refine ⟨?_, by omega, hlt⟩
  rw [and127 x hx0 (by omega), u64w_id (by omega) (by omega), w64_id (by omega) (by omega)]
  have hs : min (7 * (i : Int)).toNat (IntKind.u64).bits = 7 * i := by
    have : (7 * (i : Int)).toNat = 7 * i := by omega
    rw [this]
    show min (7 * i) 64 = 7 * i
    omega
  unfold shl
  rw [hs]
  have hnn : 0 ≤ x % 128 * 2 ^ (7 * i) := Int.mul_nonneg (by omega) (by omega)
  rw [u64w_id hnn (by omega)]
  rw [u64_or n _ hn0 (by omega) hnn (by omega)]
  have e1 : (x % 128 * 2 ^ (7 * i)).toNat = 2 ^ (7 * i) * (x % 128).toNat := by
    have : x % 128 * 2 ^ (7 * i) = ((2 ^ (7 * i) * (x % 128).toNat : Nat) : Int) := by
      rw [Int.natCast_mul, Int.natCast_pow, Int.toNat_of_nonneg (by omega), Int.mul_comm]; rfl
    rw [this]; rfl
  have hnlt : n.toNat < 2 ^ (7 * i) := by
    have : (n.toNat : Int) < ((2 ^ (7 * i) : Nat) : Int) := by
      rw [Int.toNat_of_nonneg hn0, Int.natCast_pow]; exact hn
    omega
  rw [e1, Nat.or_comm, ← Nat.two_pow_add_eq_or_of_lt hnlt, Int.natCast_add, Int.natCast_mul, Int.natCast_pow, Int.toNat_of_nonneg (by omega), Int.toNat_of_nonneg hn0]
  have : ((2 : Nat) : Int) ^ (7 * i) = 2 ^ (7 * i) := rfl
  rw [this, Int.mul_comm]; omega

/-- what is told of a number's bytes, whatever stands behind -/
theorem tk_uB : ∀ (f i : Nat) (n acc : Int) (rest : List Int), i + f = 9 → 0 ≤ n → n < 2 ^ (64 - 7 * i) → (i = 0 ∨ n > 0) →
    tk (uB f n ++ rest) i acc = (acc + n * 2 ^ (7 * i), (i : Int) + (uB f n).length, 0) := by
  intro f
  induction f with
  | zero =>
    intro i n acc rest hi h0 h1 hz
    obtain rfl : i = 9 := by omega
    have hn : n < 2 := h1
    simp only [uB, List.singleton_append, tk]
    rw [if_neg (by omega), if_neg (by omega), if_neg (by omega)]
    rw [Int.emod_eq_of_lt h0 (by omega)]
    simp
  | succ f ih =>
    intro i n acc rest hi h0 h1 hz
    unfold uB
    by_cases h : n ≥ 128
    · rw [if_pos h]
      simp only [List.cons_append, tk]
      rw [if_neg (by omega), if_pos (by omega)]
      have e64 : 64 - 7 * i = 7 + (64 - 7 * (i + 1)) := by omega
      have hd : n / 128 < 2 ^ (64 - 7 * (i + 1)) := by
        rw [e64, Int.pow_add] at h1
        exact Int.ediv_lt_of_lt_mul (by decide) (by rw [Int.mul_comm]; exact h1)
      rw [ih (i + 1) (n / 128) _ rest (by omega) (by omega) hd (by omega)]
      have e1 : (n % 128 + 128) % 128 = n % 128 := by omega
      rw [e1, pow7]
      have e2 : n = n % 128 + 128 * (n / 128) := by omega
      have e3 : acc + n % 128 * 2 ^ (7 * i) + n / 128 * (2 ^ (7 * i) * 128) = acc + n * 2 ^ (7 * i) := by
        have : n * 2 ^ (7 * i) = n % 128 * 2 ^ (7 * i) + n / 128 * (2 ^ (7 * i) * 128) := by
          conv => lhs; rw [e2]
          rw [Int.add_mul, Int.mul_comm (2 ^ (7 * i)) 128, ← Int.mul_assoc, Int.mul_comm 128 (n / 128)]
        omega
      rw [e3]
      simp only [List.length_cons]
      congr 2
      omega
    · rw [if_neg h]
      simp only [List.singleton_append, tk]
      rw [if_neg (by omega), if_neg (by omega), if_neg (by omega), Int.emod_eq_of_lt h0 (by omega)]
      simp

/-- what is taken for a number are just its bytes -/
theorem tk_once : ∀ (l : List Int) (i : Nat) (acc v c : Int), Bs l → i ≤ 9 → tk l i acc = (v, c, 0) →
    ∃ (m : Int) (rest : List Int), l = uB (9 - i) m ++ rest ∧ v = acc + m * 2 ^ (7 * i) ∧ c = (i : Int) + (uB (9 - i) m).length ∧ 0 ≤ m ∧ m < 2 ^ (64 - 7 * i) ∧ (i > 0 → m > 0) := by
  intro l
  induction l with
  | nil => intro i acc v c _ _ h; simp [tk] at h
  | cons x xs ih =>
    intro i acc v c hb hi h
    have hx := hb x (by simp)
    unfold tk at h
    by_cases h1 : i = 9 ∧ x > 1
    · rw [if_pos h1] at h; simp at h
    · rw [if_neg h1] at h
      by_cases h2 : x ≥ 128
      · rw [if_pos h2] at h
        have hi' : i + 1 ≤ 9 := by omega
        obtain ⟨m, rest, hl, hv, hc, hm0, hm1, hmp⟩ := ih (i + 1) _ v c (fun y hy => hb y (by simp [hy])) hi' h
        have hmp := hmp (by omega)
        refine ⟨128 * m + x % 128, rest, ?_, ?_, ?_, by omega, ?_, by omega⟩
        · obtain ⟨f, hf⟩ : ∃ f, 9 - i = f + 1 := ⟨8 - i, by omega⟩
          rw [hf]
          unfold uB
          rw [if_pos (by omega)]
          have e1 : (128 * m + x % 128) % 128 + 128 = x := by omega
          have e2 : (128 * m + x % 128) / 128 = m := by omega
          rw [e1, e2, List.cons_append, hl, show f = 9 - (i + 1) from by omega]
        · rw [hv, pow7, Int.add_mul, Int.mul_comm (2 ^ (7 * i)) 128, ← Int.mul_assoc, Int.mul_comm m 128]
          omega
        · rw [hc]
          obtain ⟨f, hf⟩ : ∃ f, 9 - i = f + 1 := ⟨8 - i, by omega⟩
          rw [hf]
          conv => rhs; unfold uB
          rw [if_pos (by omega)]
          have e2 : (128 * m + x % 128) / 128 = m := by omega
          rw [e2, List.length_cons, show 9 - (i + 1) = f from by omega]
          omega
        · have e64 : 64 - 7 * i = 7 + (64 - 7 * (i + 1)) := by omega
          rw [e64, Int.pow_add]
          have : (2 : Int) ^ 7 = 128 := by decide
          rw [this]
          omega
      · rw [if_neg h2] at h
        by_cases h3 : x = 0 ∧ i > 0
        · rw [if_pos h3] at h; simp at h
        · rw [if_neg h3] at h
          simp only [Prod.mk.injEq] at h
          obtain ⟨hv, hc, _⟩ := h
          refine ⟨x, xs, ?_, ?_, ?_, by omega, ?_, by omega⟩
          · rw [uB_small _ _ (by omega)]; rfl
          · rw [← hv, Int.emod_eq_of_lt (by omega) (by omega)]
          · rw [uB_small _ _ (by omega), ← hc]; rfl
          · by_cases h9 : i = 9
            · subst h9
              show x < 2
              omega
            · have : (2 : Int) ^ 8 ≤ 2 ^ (64 - 7 * i) := pow2_le (by omega)
              have e : (2 : Int) ^ 8 = 256 := by decide
              omega

/-- cut short -/
theorem tk_cut : ∀ (f i : Nat) (n acc : Int) (m : Nat), i + f = 9 → 0 ≤ n → n < 2 ^ (64 - 7 * i) → m < (uB f n).length → tk ((uB f n).take m) i acc = (0, 0, 3) := by
  intro f
  induction f with
  | zero =>
    intro i n acc m hi h0 h1 hm
    simp [uB] at hm
    subst hm
    simp [tk]
  | succ f ih =>
    intro i n acc m hi h0 h1 hm
    cases m with
    | zero => simp [tk]
    | succ m =>
      unfold uB at hm ⊢
      by_cases h : n ≥ 128
      · rw [if_pos h] at hm ⊢
        simp only [List.take_succ_cons, tk]
        rw [if_neg (by omega), if_pos (by omega)]
        have e64 : 64 - 7 * i = 7 + (64 - 7 * (i + 1)) := by omega
        refine ih (i + 1) (n / 128) _ m (by omega) (by omega) ?_ (by simpa using hm)
        rw [e64, Int.pow_add] at h1
        exact Int.ediv_lt_of_lt_mul (by decide) (by rw [Int.mul_comm]; exact h1)
      · rw [if_neg h] at hm
        simp at hm
theorem tk_range : ∀ (l : List Int) (i : Nat) (acc : Int), Bs l → i ≤ 9 → 0 ≤ acc → acc < 2 ^ (7 * i) →
    0 ≤ (tk l i acc).1 ∧ (tk l i acc).1 < 18446744073709551616 ∧ 0 ≤ (tk l i acc).2.1 ∧ (tk l i acc).2.1 ≤ (i : Int) + l.length ∧ ((tk l i acc).2.2 ≠ 0 → (tk l i acc).1 = 0 ∧ (tk l i acc).2.1 = 0) ∧ ((tk l i acc).2.2 = 0 → (i : Int) < (tk l i acc).2.1) := by
  intro l
  induction l with
  | nil => intro i acc _ _ _ _; simp [tk] <;> omega
  | cons x xs ih =>
    intro i acc hb hi h0 h1
    have hx := hb x (by simp)
    unfold tk
    by_cases c1 : i = 9 ∧ x > 1
    · rw [if_pos c1]; simp; omega
    · rw [if_neg c1]
      obtain ⟨_, r1, r2⟩ := or_shl acc x i hi h0 h1 hx.1 hx.2 (by omega)
      have hnn : 0 ≤ x % 128 * 2 ^ (7 * i) := Int.mul_nonneg (by omega) (by have := pow7pos i; omega)
      by_cases c2 : x ≥ 128
      · rw [if_pos c2]
        have := ih (i + 1) (acc + x % 128 * 2 ^ (7 * i)) (fun y hy => hb y (by simp [hy])) (by omega) (by omega) (r2 (by omega))
        simp only [List.length_cons]
        refine ⟨this.1, this.2.1, this.2.2.1, by have := this.2.2.2.1; omega, this.2.2.2.2.1, fun h => by have := this.2.2.2.2.2 h; omega⟩
      · rw [if_neg c2]
        by_cases c3 : x = 0 ∧ i > 0
        · rw [if_pos c3]; simp; omega
        · rw [if_neg c3]
          simp only [List.length_cons]
          refine ⟨by omega, r1, by omega, by omega, by simp, by omega⟩
theorem pow64 : (2 : Int) ^ (64 - 7 * 0) = 18446744073709551616 := by decide +kernel
theorem pow128 : (128 : Int) ^ (9 + 1) = 1180591620717411303424 := by decide +kernel

/-! ### numbers that may be below 0 -/
def fold (n : Int) : Int := if n ≥ 0 then 2 * n else -2 * n - 1
def unfold' (u : Int) : Int := if u % 2 = 0 then u / 2 else -(u / 2) - 1
theorem fold_range {n : Int} (h0 : -9223372036854775808 ≤ n) (h1 : n ≤ 9223372036854775807) : 0 ≤ fold n ∧ fold n < 18446744073709551616 := by
  unfold fold; split <;> omega
theorem unfold_fold (n : Int) : unfold' (fold n) = n := by
  unfold unfold' fold
  split
  · rw [if_pos (by omega)]; omega
  · rw [if_neg (by omega)]; omega
theorem fold_unfold (u : Int) (h : 0 ≤ u) : fold (unfold' u) = u := by
  unfold unfold' fold
  split
  · rw [if_pos (by omega)]; omega
  · rw [if_neg (by omega)]; omega
theorem unfold_range {u : Int} (h0 : 0 ≤ u) (h1 : u < 18446744073709551616) : -9223372036854775808 ≤ unfold' u ∧ unfold' u ≤ 9223372036854775807 := by
  unfold unfold'; split <;> omega
theorem xor_all64 (a : Nat) (h : a < 18446744073709551616) : a ^^^ 18446744073709551615 = 18446744073709551615 - a := by
  have h1 : (BitVec.ofNat 64 a ^^^ BitVec.allOnes 64).toNat = a ^^^ 18446744073709551615 := by
    rw [BitVec.toNat_xor, BitVec.toNat_allOnes, BitVec.toNat_ofNat, Nat.mod_eq_of_lt h]
  have h2 : (BitVec.ofNat 64 a ^^^ BitVec.allOnes 64).toNat = 18446744073709551615 - a := by
    rw [BitVec.xor_allOnes, BitVec.toNat_not, BitVec.toNat_ofNat, Nat.mod_eq_of_lt h]
  omega
theorem xor_fold (n : Int) (h0 : -9223372036854775808 ≤ n) (h1 : n ≤ 9223372036854775807) :
    Go.bits .xor .u64 (IntKind.u64.wrap ((IntKind.u64.wrap n) * 2)) (IntKind.u64.wrap (n / 9223372036854775808)) = fold n := by
  rw [u64w, u64w, u64w]
  have hr : 0 ≤ (n % 18446744073709551616 * 2) % 18446744073709551616 ∧ (n % 18446744073709551616 * 2) % 18446744073709551616 < 18446744073709551616 := by omega
  by_cases h : n ≥ 0
  · have e : n / 9223372036854775808 = 0 := by omega
    rw [e]
    have e2 : (n % 18446744073709551616 * 2) % 18446744073709551616 = 2 * n := by omega
    rw [e2]
    obtain ⟨m, hm⟩ : ∃ m : Nat, 2 * n = m := ⟨(2 * n).toNat, by omega⟩
    rw [hm]
    have := bits_xor_u64_nat m 0 (by omega) (by omega)
    simp only [Int.ofNat_zero, Nat.xor_zero] at this
    rw [show ((0 : Int) % 18446744073709551616) = ((0 : Nat) : Int) from rfl]
    have := bits_xor_u64_nat m 0 (by omega) (by omega)
    rw [this, Nat.xor_zero]
    unfold fold; rw [if_pos h, hm]
  · have e : n / 9223372036854775808 = -1 := by omega
    rw [e]
    obtain ⟨m, hm⟩ : ∃ m : Nat, (n % 18446744073709551616 * 2) % 18446744073709551616 = m := ⟨_, (Int.toNat_of_nonneg hr.1).symm⟩
    rw [hm]
    rw [show ((-1 : Int) % 18446744073709551616) = ((18446744073709551615 : Nat) : Int) from rfl]
    rw [bits_xor_u64_nat m 18446744073709551615 (by omega) (by omega), xor_all64 m (by omega)]
    unfold fold; rw [if_neg h]
    omega
theorem xor_unfold (u : Int) (h0 : 0 ≤ u) (h1 : u < 18446744073709551616) :
    Go.bits .xor .i64 (wrap64 (u / 2)) (wrap64 (-(wrap64 (Go.bits .and .u64 u 1)))) = unfold' u := by
  rw [u64_and u 1 h0 h1 (by decide) (by decide), show (1 : Int).toNat = 1 from rfl, nat_mask1]
  rw [w64_id (x := u / 2) (by omega) (by omega)]
  have e0 : ((u.toNat % 2 : Nat) : Int) = u % 2 := by omega
  rw [e0, w64_id (x := u % 2) (by omega) (by omega), w64_id (x := -(u % 2)) (by omega) (by omega)]
  obtain ⟨m, hm⟩ : ∃ m : Nat, u / 2 = m := ⟨_, (Int.toNat_of_nonneg (by omega)).symm⟩
  unfold unfold'
  rw [hm]
  show IntKind.i64.wrap ((BitVec.ofInt 64 (m : Int) ^^^ BitVec.ofInt 64 (-(u % 2))).toNat : Int) = _
  by_cases h : u % 2 = 0
  · rw [if_pos h, h]
    have : BitVec.ofInt 64 (-0) = 0#64 := by decide
    rw [this, BitVec.xor_zero, ofInt_u64 m (by omega), IntKind.wrap_i64]
    omega
  · rw [if_neg h, show u % 2 = 1 from by omega]
    have : BitVec.ofInt 64 (-1) = BitVec.allOnes 64 := by decide
    rw [this, BitVec.xor_allOnes, BitVec.toNat_not, ofInt_u64 m (by omega), IntKind.wrap_i64]
    omega
end Go.Proofs.Ythcfjkbegadpjaa.Oct
