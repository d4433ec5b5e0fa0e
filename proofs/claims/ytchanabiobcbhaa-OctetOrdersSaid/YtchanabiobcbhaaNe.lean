/- octet.Key, TakeKey and their references, as the plain laws. -/
import Derived.Test.YtchanabiobcbhaaNb
import Derived.Test.YtchanabiobcbhaaNc
import Derived.Test.YtchanabiobcbhaaQx4
import Derived.Test.YtchanabiobcbhaaQx6
import Derived.Test.YtchanabiobcbhaaQx8
import Derived.Test.YtchanabiobcbhaaQx7
namespace Go.Proofs.Ytchanabiobcbhaa.Oct
open Go Go.RowKit Go.Proofs.YtchanabiobcbhaaW.PrintWords Go.Proofs.YtchanabiobcbhaaW.PrintMore Go.Proofs.Ytchanabiobcbhaa.Q
set_option linter.unusedVariables false

/-- a number's key: its bytes, the greatest first -/
def kB (u : Int) : List Int := [u / 72057594037927936 % 256, u / 281474976710656 % 256, u / 1099511627776 % 256, u / 4294967296 % 256, u / 16777216 % 256, u / 65536 % 256, u / 256 % 256, u % 256]
def kV (u : Int) (l : List Int) : Int := l.foldl (fun u x => u * 256 + x) u
def TK (b : List Int) (p : Int) : Int × Int × Int :=
  if p < 0 ∨ p > (b.length : Int) then (0, 0, 2) else if (b.length : Int) - p < 8 then (0, 0, 3) else (kV 0 ((b.drop p.toNat).take 8) - 9223372036854775808, p + 8, 0)
theorem kB_len (u : Int) : (kB u).length = 8 := rfl
theorem kB_bytes (u : Int) : Bs (kB u) := by
  intro x hx
  simp only [kB, List.mem_cons, List.not_mem_nil, or_false] at hx
  omega
theorem kV_kB (u : Int) (h0 : 0 ≤ u) (h1 : u < 18446744073709551616) : kV 0 (kB u) = u := by
  simp only [kV, kB, List.foldl_cons, List.foldl_nil]
  have a1 : u / 72057594037927936 % 256 = u / 72057594037927936 := by omega
  have a2 : u / 72057594037927936 * 256 + u / 281474976710656 % 256 = u / 281474976710656 := by omega
  have a3 : u / 281474976710656 * 256 + u / 1099511627776 % 256 = u / 1099511627776 := by omega
  have a4 : u / 1099511627776 * 256 + u / 4294967296 % 256 = u / 4294967296 := by omega
  have a5 : u / 4294967296 * 256 + u / 16777216 % 256 = u / 16777216 := by omega
  have a6 : u / 16777216 * 256 + u / 65536 % 256 = u / 65536 := by omega
  have a7 : u / 65536 * 256 + u / 256 % 256 = u / 256 := by omega
  have a8 : u / 256 * 256 + u % 256 = u := by omega
  rw [show (0 : Int) * 256 = 0 from rfl, Int.zero_add, a1, a2, a3, a4, a5, a6, a7, a8]

theorem xor_low (a : Nat) (h : a < 9223372036854775808) : a ^^^ 9223372036854775808 = a + 9223372036854775808 := by
  have e : (9223372036854775808 : Nat) = 2 ^ 63 := by decide +kernel
  apply Nat.eq_of_testBit_eq
  intro j
  rw [Nat.testBit_xor, Nat.add_comm a, e, Nat.testBit_two_pow]
  rw [e] at h
  rcases Nat.lt_trichotomy j 63 with hj | rfl | hj
  · rw [Nat.testBit_two_pow_add_gt hj]
    rw [decide_eq_false (by omega), Bool.xor_false]
  · rw [Nat.testBit_two_pow_add_eq]; simp
  · have h1 : a.testBit j = false := Nat.testBit_lt_two_pow (Nat.lt_of_lt_of_le h (Nat.pow_le_pow_right (by decide) (by omega)))
    have h2 : (2 ^ 63 + a).testBit j = false := Nat.testBit_lt_two_pow (Nat.lt_of_lt_of_le (show 2 ^ 63 + a < 2 ^ 64 by omega) (Nat.pow_le_pow_right (by decide) (by omega)))
    rw [h1, h2, decide_eq_false (by omega)]; rfl
theorem xor_high (a : Nat) (h0 : 9223372036854775808 ≤ a) (h : a < 18446744073709551616) : a ^^^ 9223372036854775808 = a - 9223372036854775808 := by
  obtain ⟨b, rfl⟩ : ∃ b, a = b + 9223372036854775808 := ⟨a - 9223372036854775808, by omega⟩
  rw [← xor_low b (by omega), Nat.xor_assoc, Nat.xor_self, Nat.xor_zero, xor_low b (by omega)]
  omega
theorem xor_key (n : Int) (h0 : -9223372036854775808 ≤ n) (h1 : n ≤ 9223372036854775807) : Go.bits .xor .u64 (IntKind.u64.wrap n) 9223372036854775808 = n + 9223372036854775808 := by
  rw [u64w]
  obtain ⟨m, hm⟩ : ∃ m : Nat, n % 18446744073709551616 = m := ⟨_, (Int.toNat_of_nonneg (by omega)).symm⟩
  rw [hm, show (9223372036854775808 : Int) = ((9223372036854775808 : Nat) : Int) from rfl, bits_xor_u64_nat m _ (by omega) (by omega)]
  by_cases h : m < 9223372036854775808
  · rw [xor_low m h]; omega
  · rw [xor_high m (by omega) (by omega)]; omega
theorem xor_val (u : Int) (h0 : 0 ≤ u) (h1 : u < 18446744073709551616) : wrap64 (Go.bits .xor .u64 u 9223372036854775808) = u - 9223372036854775808 := by
  obtain ⟨m, rfl⟩ : ∃ m : Nat, u = m := ⟨_, (Int.toNat_of_nonneg h0).symm⟩
  rw [show (9223372036854775808 : Int) = ((9223372036854775808 : Nat) : Int) from rfl, bits_xor_u64_nat m _ (by omega) (by omega)]
  unfold wrap64
  by_cases h : m < 9223372036854775808
  · rw [xor_low m h]; omega
  · rw [xor_high m (by omega) (by omega)]; omega

theorem Key_step (k : Nat) (u : Int) (l : List Int) (i : Nat) (hi : i < 8) (hl : l.length = 8) :
    octet_Key.l0 (k + 1) u l 8 i = octet_Key.l0 k u (l.set i (u / 2 ^ (56 - 8 * i) % 256)) 8 ((i + 1 : Nat) : Int) := by
  simp only [octet_Key.l0]
  rw [if_pos (by omega), w64_id (x := 8 * (i : Int)) (by omega) (by omega), w64_id (x := 56 - 8 * (i : Int)) (by omega) (by omega), if_pos (by omega), if_pos (by omega), if_pos (by omega), w64_id (x := (i : Int) + 1) (by omega) (by omega)]
  have hs : min (56 - 8 * (i : Int)).toNat (IntKind.u64).bits = 56 - 8 * i := by
    show min (56 - 8 * (i : Int)).toNat 64 = 56 - 8 * i
    omega
  unfold shr
  rw [hs, Int.toNat_natCast, Int.natCast_add]; rfl
theorem Key_f (n : Int) (k : Nat) (h0 : -9223372036854775808 ≤ n) (h1 : n ≤ 9223372036854775807) (hk : 20 ≤ k) : octet_Key.f k n = some (kB (n + 9223372036854775808)) := by
  unfold octet_Key.f
  rw [if_pos (by decide), xor_key n h0 h1]
  simp only [Option.bind_some, List.length_replicate]
  obtain ⟨k, rfl⟩ : ∃ m, k = m + 9 := ⟨k - 9, by omega⟩
  generalize n + 9223372036854775808 = u
  have e0 : (((8 : Nat) : Int)) = 8 := rfl
  rw [e0]
  rw [show octet_Key.l0 (k + 9) u (List.replicate 8 0) 8 0 = octet_Key.l0 (k + 8 + 1) u (List.replicate 8 0) 8 ((0 : Nat) : Int) from rfl]
  rw [Key_step (k + 8) u _ 0 (by decide) (by simp), Key_step (k + 7) u _ 1 (by decide) (by simp), Key_step (k + 6) u _ 2 (by decide) (by simp), Key_step (k + 5) u _ 3 (by decide) (by simp), Key_step (k + 4) u _ 4 (by decide) (by simp), Key_step (k + 3) u _ 5 (by decide) (by simp), Key_step (k + 2) u _ 6 (by decide) (by simp), Key_step (k + 1) u _ 7 (by decide) (by simp)]
  simp only [octet_Key.l0]
  rw [if_neg (by decide)]
  have p0 : (2 : Int) ^ (56 - 8 * 0) = 72057594037927936 := by decide +kernel
  have p1 : (2 : Int) ^ (56 - 8 * 1) = 281474976710656 := by decide +kernel
  have p2 : (2 : Int) ^ (56 - 8 * 2) = 1099511627776 := by decide +kernel
  have p3 : (2 : Int) ^ (56 - 8 * 3) = 4294967296 := by decide +kernel
  have p4 : (2 : Int) ^ (56 - 8 * 4) = 16777216 := by decide +kernel
  have p5 : (2 : Int) ^ (56 - 8 * 5) = 65536 := by decide +kernel
  have p6 : (2 : Int) ^ (56 - 8 * 6) = 256 := by decide +kernel
  have p7 : (2 : Int) ^ (56 - 8 * 7) = 1 := by decide +kernel
  rw [p0, p1, p2, p3, p4, p5, p6, p7, Int.ediv_one]
  rfl
theorem refKey_step (k : Nat) (u : Int) (l : List Int) (i : Nat) (hi : i < 8) (hl : l.length = 8) (h0 : 0 ≤ u) (h1 : u < 18446744073709551616) :
    grapevineref02_Key.l0 (k + 1) u l i = grapevineref02_Key.l0 k (u / 256) (l.set i (u % 256)) ((i : Int) - 1) := by
  simp only [grapevineref02_Key.l0]
  rw [if_pos (by omega), if_pos (by omega), if_pos (by omega), w64_id (x := (i : Int) - 1) (by omega) (by omega)]
  have e1 : Int.tdiv u 256 = u / 256 := Int.tdiv_eq_ediv_of_nonneg h0
  have e2 : Int.tmod u 256 = u % 256 := Int.tmod_eq_emod_of_nonneg h0
  rw [e1, e2, u64w_id (x := u / 256) (by omega) (by omega), Int.toNat_natCast, Int.emod_emod]
theorem refKey_f (n : Int) (k : Nat) (h0 : -9223372036854775808 ≤ n) (h1 : n ≤ 9223372036854775807) (hk : 20 ≤ k) : grapevineref02_Key.f k n = some (kB (n + 9223372036854775808)) := by
  unfold grapevineref02_Key.f
  rw [if_pos (by decide)]
  have e : IntKind.u64.wrap (IntKind.u64.wrap n + 9223372036854775808) = n + 9223372036854775808 := by rw [u64w, u64w]; omega
  rw [e]
  obtain ⟨k, rfl⟩ : ∃ m, k = m + 9 := ⟨k - 9, by omega⟩
  obtain ⟨u, hu⟩ : ∃ u, u = n + 9223372036854775808 := ⟨_, rfl⟩
  rw [← hu]
  have u0 : 0 ≤ u := by omega
  have u1 : u < 18446744073709551616 := by omega
  clear hu e
  rw [show grapevineref02_Key.l0 (k + 9) u (List.replicate 8 0) 7 = grapevineref02_Key.l0 (k + 8 + 1) u (List.replicate 8 0) ((7 : Nat) : Int) from rfl]
  rw [refKey_step (k + 8) u _ 7 (by decide) (by simp) u0 u1, show (((7 : Nat) : Int) - 1) = ((6 : Nat) : Int) from rfl]
  rw [refKey_step (k + 7) _ _ 6 (by decide) (by simp) (by omega) (by omega), show (((6 : Nat) : Int) - 1) = ((5 : Nat) : Int) from rfl]
  rw [refKey_step (k + 6) _ _ 5 (by decide) (by simp) (by omega) (by omega), show (((5 : Nat) : Int) - 1) = ((4 : Nat) : Int) from rfl]
  rw [refKey_step (k + 5) _ _ 4 (by decide) (by simp) (by omega) (by omega), show (((4 : Nat) : Int) - 1) = ((3 : Nat) : Int) from rfl]
  rw [refKey_step (k + 4) _ _ 3 (by decide) (by simp) (by omega) (by omega), show (((3 : Nat) : Int) - 1) = ((2 : Nat) : Int) from rfl]
  rw [refKey_step (k + 3) _ _ 2 (by decide) (by simp) (by omega) (by omega), show (((2 : Nat) : Int) - 1) = ((1 : Nat) : Int) from rfl]
  rw [refKey_step (k + 2) _ _ 1 (by decide) (by simp) (by omega) (by omega), show (((1 : Nat) : Int) - 1) = ((0 : Nat) : Int) from rfl]
  rw [refKey_step (k + 1) _ _ 0 (by decide) (by simp) (by omega) (by omega), show (((0 : Nat) : Int) - 1) = -1 from rfl]
  simp only [grapevineref02_Key.l0]
  rw [if_neg (by decide)]
  have d2 : u / 256 / 256 = u / 65536 := by omega
  have d3 : u / 65536 / 256 = u / 16777216 := by omega
  have d4 : u / 16777216 / 256 = u / 4294967296 := by omega
  have d5 : u / 4294967296 / 256 = u / 1099511627776 := by omega
  have d6 : u / 1099511627776 / 256 = u / 281474976710656 := by omega
  have d7 : u / 281474976710656 / 256 = u / 72057594037927936 := by omega
  rw [d2, d3, d4, d5, d6, d7]
  rfl

theorem kV_range : ∀ (l : List Int) (u B : Int), Bs l → 0 ≤ u → u < B → 0 ≤ kV u l ∧ kV u l < B * 256 ^ l.length := by
  intro l
  induction l with
  | nil => intro u B _ h0 h1; simp [kV]; omega
  | cons x xs ih =>
    intro u B hb h0 h1
    have hx := hb x (by simp)
    have := ih (u * 256 + x) (B * 256) (fun y hy => hb y (by simp [hy])) (by omega) (by omega)
    simp only [List.length_cons, Int.pow_succ]
    refine ⟨this.1, ?_⟩
    have h2 := this.2
    rw [Int.mul_assoc, Int.mul_comm 256] at h2
    exact h2
theorem or_low (u x : Int) (h0 : 0 ≤ u) (h1 : u < 72057594037927936) (hx : 0 ≤ x ∧ x ≤ 255) :
    Go.bits .or .u64 (IntKind.u64.wrap (u * 256)) (IntKind.u64.wrap x) = u * 256 + x := by
  rw [u64w_id (x := u * 256) (by omega) (by omega), u64w_id (x := x) (by omega) (by omega), u64_or _ _ (by omega) (by omega) (by omega) (by omega), nat_join 8 _ _ (by omega) (by omega)]
  omega
theorem TakeKey_l0 (p : Int) (hp : 0 ≤ p) (hp2 : p < 9223372036854775000) (l : List Int) (hb : Bs l) (hl : l.length = 8) : ∀ (rest : List Int) (i : Nat) (u : Int) (k : Nat), l.drop i = rest → i + rest.length = 8 → 0 ≤ u → u < 256 ^ i → 8 - i ≤ k →
    octet_TakeKey.l0 (k + 1) p u l 8 i = some (kV u rest - 9223372036854775808, p + 8, 0) := by
  intro rest
  induction rest with
  | nil =>
    intro i u k hd hi h0 h1 hk
    have : i = 8 := by simpa using hi
    subst this
    simp only [octet_TakeKey.l0]
    have e : (256 : Int) ^ 8 = 18446744073709551616 := by decide +kernel
    rw [if_neg (by decide), xor_val u h0 (by rw [← e]; exact h1), w64_id (x := p + 8) (by omega) (by omega)]
    rfl
  | cons x xs ih =>
    intro i u k hd hi h0 h1 hk
    have hx : 0 ≤ x ∧ x ≤ 255 := (hb.drop i) x (by rw [hd]; simp)
    simp only [List.length_cons] at hi
    simp only [octet_TakeKey.l0]
    rw [if_pos (by omega), if_pos (by omega), if_pos (by omega), rd_drop hd rfl, w64_id (x := (i : Int) + 1) (by omega) (by omega)]
    have h7 : u < 72057594037927936 := by
      have e : (256 : Int) ^ 7 = 72057594037927936 := by decide +kernel
      have : ((256 ^ i : Nat) : Int) ≤ ((256 ^ 7 : Nat) : Int) := Int.ofNat_le.mpr (Nat.pow_le_pow_right (by decide) (by omega))
      rw [Int.natCast_pow, Int.natCast_pow] at this
      have e2 : ((256 : Nat) : Int) ^ i = (256 : Int) ^ i := rfl
      have e3 : ((256 : Nat) : Int) ^ 7 = (256 : Int) ^ 7 := rfl
      omega
    rw [or_low u x h0 h7 hx]
    obtain ⟨k, rfl⟩ : ∃ m, k = m + 1 := ⟨k - 1, by omega⟩
    have := ih (i + 1) (u * 256 + x) k (drop_succ hd) (by omega) (by omega) (by rw [Int.pow_succ]; omega) (by omega)
    rw [show ((i : Int) + 1) = ((i + 1 : Nat) : Int) from by omega, this]
    rfl
theorem TakeKey_f (b : List Int) (hb : Bs b) (hl : b.length ≤ 140737488355328) (p : Int) (k : Nat) (hp : -9223372036854775808 ≤ p) (hk : 30 ≤ k) : octet_TakeKey.f k b p = some (TK b p) := by
  unfold octet_TakeKey.f TK
  obtain ⟨k, rfl⟩ : ∃ m, k = m + 2 := ⟨k - 2, by omega⟩
  by_cases h : p < 0
  · rw [if_pos h, if_pos (.inl h)]; rfl
  · rw [if_neg h]
    simp only [octet_TakeKey.j0]
    by_cases h2 : p > (b.length : Int)
    · rw [if_pos (by simpa using h2), if_pos (.inr h2)]
    · rw [if_neg (by simpa using h2), w64_id (x := (b.length : Int) - p) (by omega) (by omega), if_neg (show ¬ (p < 0 ∨ p > (b.length : Int)) by omega)]
      by_cases h3 : (b.length : Int) - p < 8
      · rw [if_pos h3, if_pos h3]
      · rw [if_neg h3, if_neg h3, w64_id (x := p + 8) (by omega) (by omega), if_pos (by omega), if_pos (by omega), if_pos (by omega)]
        obtain ⟨q, rfl⟩ : ∃ q : Nat, p = q := ⟨p.toNat, by omega⟩
        have e : ((b.take ((q : Int) + 8).toNat).drop (q : Int).toNat) = (b.drop q).take 8 := by
          rw [show ((q : Int) + 8).toNat = q + 8 from by omega, Int.toNat_natCast, List.drop_take, show q + 8 - q = 8 from by omega]
        have len : ((b.drop q).take 8).length = 8 := by rw [List.length_take, List.length_drop]; omega
        rw [e, len]
        exact TakeKey_l0 q (by omega) (by omega) _ ((hb.drop q).take 8) len _ 0 0 k rfl (by rw [Int.toNat_natCast, len]) (by omega) (by decide) (by omega)
theorem refTakeKey_l0 (b : List Int) (hb : Bs b) (hl : b.length ≤ 140737488355328) (p : Nat) (hp : p + 8 ≤ b.length) : ∀ (rest : List Int) (i : Nat) (u : Int) (k : Nat), ((b.drop p).take 8).drop i = rest → i + rest.length = 8 → 0 ≤ u → u < 256 ^ i → 8 - i ≤ k →
    grapevineref02_TakeKey.l0 (k + 1) b p u i = some (kV u rest - 9223372036854775808, (p : Int) + 8, 0) := by
  intro rest
  induction rest with
  | nil =>
    intro i u k hd hi h0 h1 hk
    have : i = 8 := by simpa using hi
    subst this
    simp only [grapevineref02_TakeKey.l0]
    have e : (256 : Int) ^ 8 = 18446744073709551616 := by decide +kernel
    rw [if_neg (by decide), w64_id (x := (p : Int) + 8) (by omega) (by omega)]
    have : wrap64 (IntKind.u64.wrap (u - 9223372036854775808)) = u - 9223372036854775808 := by rw [u64w]; unfold wrap64; omega
    rw [this]
    rfl
  | cons x xs ih =>
    intro i u k hd hi h0 h1 hk
    have hx : 0 ≤ x ∧ x ≤ 255 := (((hb.drop p).take 8).drop i) x (by rw [hd]; simp)
    simp only [List.length_cons] at hi
    simp only [grapevineref02_TakeKey.l0]
    have hrd : rd b ((p : Int) + i) = x := by
      have : (b.drop (p + i))[0]? = some x := by
        have h1 : (((b.drop p).take 8).drop i)[0]? = some x := by rw [hd]; rfl
        rw [List.getElem?_drop, List.getElem?_take, List.getElem?_drop] at h1
        rw [List.getElem?_drop]
        simp at h1 ⊢
        exact h1.2
      rw [List.getElem?_drop] at this
      unfold rd
      rw [show ((p : Int) + i).toNat = p + i from by omega, List.getD_eq_getElem?_getD]
      simp at this
      simp [this]
    rw [if_pos (by omega), w64_id (x := (p : Int) + i) (by omega) (by omega), if_pos (by omega), if_pos (by omega), hrd, w64_id (x := (i : Int) + 1) (by omega) (by omega)]
    have h7 : u < 72057594037927936 := by
      have e : (256 : Int) ^ 7 = 72057594037927936 := by decide +kernel
      have : ((256 ^ i : Nat) : Int) ≤ ((256 ^ 7 : Nat) : Int) := Int.ofNat_le.mpr (Nat.pow_le_pow_right (by decide) (by omega))
      rw [Int.natCast_pow, Int.natCast_pow] at this
      have e2 : ((256 : Nat) : Int) ^ i = (256 : Int) ^ i := rfl
      have e3 : ((256 : Nat) : Int) ^ 7 = (256 : Int) ^ 7 := rfl
      omega
    rw [u64w_id (x := 256 * u) (by omega) (by omega), u64w_id (x := x) (by omega) (by omega), u64w_id (x := 256 * u + x) (by omega) (by omega), Int.mul_comm 256 u]
    obtain ⟨k, rfl⟩ : ∃ m, k = m + 1 := ⟨k - 1, by omega⟩
    have := ih (i + 1) (u * 256 + x) k (drop_succ hd) (by omega) (by omega) (by rw [Int.pow_succ]; omega) (by omega)
    rw [show ((i : Int) + 1) = ((i + 1 : Nat) : Int) from by omega, this]
    rfl
theorem refTakeKey_f (b : List Int) (hb : Bs b) (hl : b.length ≤ 140737488355328) (p : Int) (k : Nat) (hp : -9223372036854775808 ≤ p) (hk : 30 ≤ k) : grapevineref02_TakeKey.f k b p = some (TK b p) := by
  unfold grapevineref02_TakeKey.f TK
  obtain ⟨k, rfl⟩ : ∃ m, k = m + 2 := ⟨k - 2, by omega⟩
  by_cases h : p < 0
  · rw [if_pos h, if_pos (.inl h)]; rfl
  · rw [if_neg h]
    simp only [grapevineref02_TakeKey.j0]
    by_cases h2 : p > (b.length : Int)
    · rw [if_pos (by simpa using h2), if_pos (.inr h2)]
    · rw [if_neg (by simpa using h2), w64_id (x := (b.length : Int) - p) (by omega) (by omega), if_neg (show ¬ (p < 0 ∨ p > (b.length : Int)) by omega)]
      by_cases h3 : (b.length : Int) - p < 8
      · rw [if_pos h3, if_pos h3]
      · rw [if_neg h3, if_neg h3]
        obtain ⟨q, rfl⟩ : ∃ q : Nat, p = q := ⟨p.toNat, by omega⟩
        have len : ((b.drop q).take 8).length = 8 := by rw [List.length_take, List.length_drop]; omega
        exact refTakeKey_l0 b hb hl q (by omega) _ 0 0 k rfl (by rw [Int.toNat_natCast, len]) (by omega) (by decide) (by omega)
/-- a key is taken as it was, whatever stands around it -/
theorem TK_back (n : Int) (h0 : -9223372036854775808 ≤ n) (h1 : n ≤ 9223372036854775807) (a c : List Int) :
    TK (a ++ kB (n + 9223372036854775808) ++ c) a.length = (n, (a.length : Int) + 8, 0) := by
  unfold TK
  have len : (a ++ kB (n + 9223372036854775808) ++ c).length = a.length + 8 + c.length := by simp [kB_len]; omega
  rw [len, if_neg (by omega), if_neg (by omega), Int.toNat_natCast, List.append_assoc, List.drop_left, List.take_left' (kB_len _), kV_kB _ (by omega) (by omega)]
  congr 1; omega
end Go.Proofs.Ytchanabiobcbhaa.Oct
