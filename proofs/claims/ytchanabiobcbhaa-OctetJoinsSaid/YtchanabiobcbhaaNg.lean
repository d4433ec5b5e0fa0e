/- Parts behind their lengths: octet.Join, TakeJoin, SameRows and their references, as the plain laws. -/
import Derived.Test.YtchanabiobcbhaaNf
import Derived.Test.YtchanabiobcbhaaQx32
import Derived.Test.YtchanabiobcbhaaQx34
import Derived.Test.YtchanabiobcbhaaQx33
import Derived.Test.YtchanabiobcbhaaQx35
import Derived.Test.YtchanabiobcbhaaQx36
namespace Go.Proofs.Ytchanabiobcbhaa.Oct
open Go Go.RowKit Go.Proofs.YtchanabiobcbhaaW.PrintWords Go.Proofs.YtchanabiobcbhaaW.PrintMore Go.Proofs.Ytchanabiobcbhaa.Q
set_option linter.unusedVariables false

def jn : List (List Int) → List Int → List Int × Int
  | [], acc => (acc, 0)
  | p :: ps, acc => if (p.length : Int) > 4096 then ([], 6) else jn ps (acc ++ uB 9 p.length ++ p)
def JN (l : List (List Int)) : List Int × Int := if (l.length : Int) > 64 then ([], 6) else jn l (uB 9 l.length)
def tj : Nat → List Int → Int → List (List Int) → List (List Int) × Int × Int
  | 0, _, p, acc => (acc, p, 0)
  | n + 1, b, p, acc => if (PT b p 4096).2.2 = 0 then tj n b (PT b p 4096).2.1 (acc ++ [(PT b p 4096).1]) else ([], 0, (PT b p 4096).2.2)
def TJ (b : List Int) (p : Int) : List (List Int) × Int × Int :=
  if (TU b p).2.2 = 0 then if (TU b p).1 > 64 then ([], 0, 6) else tj (TU b p).1.toNat b (TU b p).2.1 [] else ([], 0, (TU b p).2.2)

theorem rdL_drop {l : List (List Int)} {p : Nat} {x : List Int} {xs : List (List Int)} (h : l.drop p = x :: xs) : rd_L1 l (p : Int) = x := by
  unfold rd_L1
  rw [Int.toNat_natCast, List.getD_eq_getElem?_getD]
  have : (l.drop p)[0]? = some x := by rw [h]; rfl
  rw [List.getElem?_drop] at this
  simp at this
  simp [this]
theorem dropL_succ {α : Type} {b : List α} {p : Nat} {x : α} {xs : List α} (h : b.drop p = x :: xs) : b.drop (p + 1) = xs := by
  rw [← List.drop_drop, h]; rfl
theorem dropL_lt {α : Type} {b : List α} {p : Nat} {x : α} {xs : List α} (h : b.drop p = x :: xs) : p < b.length := by
  rcases Nat.lt_or_ge p b.length with h' | h'
  · exact h'
  · rw [List.drop_of_length_le h'] at h; cases h

theorem Join_l0 (l : List (List Int)) (hl : l.length ≤ 64) (hz : ∀ z ∈ l, z.length ≤ 140737488351232) : ∀ (rest : List (List Int)) (i : Nat) (acc : List Int) (k : Nat), l.drop i = rest → acc.length + rest.length * 5000 ≤ 1000000 → i ≤ l.length → 30 + rest.length ≤ k →
    octet_Join.l0 k acc l (l.length : Int) i = some (jn rest acc) := by
  intro rest
  induction rest with
  | nil =>
    intro i acc k hd ha hi hk
    obtain ⟨k, rfl⟩ : ∃ m, k = m + 1 := ⟨k - 1, by omega⟩
    have : l.length ≤ i := by simpa using hd
    simp only [octet_Join.l0]
    rw [if_neg (by omega)]; rfl
  | cons p ps ih =>
    intro i acc k hd ha hi hk
    obtain ⟨k, rfl⟩ : ∃ m, k = m + 1 := ⟨k - 1, by omega⟩
    have hlt := dropL_lt hd
    have hp := hz p (List.mem_of_mem_drop (by rw [hd]; simp))
    simp only [List.length_cons] at ha hk
    simp only [octet_Join.l0]
    rw [if_pos (by omega), if_pos (by omega), if_pos (by omega), rdL_drop hd]
    unfold jn
    by_cases h : (p.length : Int) > 4096
    · rw [if_pos h, if_pos h]
    · rw [if_neg h, if_neg h, u64w_id (x := (p.length : Int)) (by omega) (by omega), Uint_f _ k (by omega) (by omega) (by omega)]
      have hu := uB_len 9 (p.length : Int)
      simp only [Option.bind_some]
      rw [if_pos (by omega), if_pos (by simp; omega), w64_id (x := (i : Int) + 1) (by omega) (by omega)]
      exact ih (i + 1) _ k (dropL_succ hd) (by simp; omega) (by omega) (by omega)
theorem Join_f (l : List (List Int)) (hz : ∀ z ∈ l, z.length ≤ 140737488351232) (hll : l.length ≤ 140737488355328) (k : Nat) (hk : 100 ≤ k) : octet_Join.f k l = some (JN l) := by
  unfold octet_Join.f JN
  by_cases h : (l.length : Int) > 64
  · rw [if_pos h, if_pos h]
  · rw [if_neg h, if_neg h, u64w_id (x := (l.length : Int)) (by omega) (by omega), Uint_f _ k (by omega) (by omega) (by omega)]
    have hu := uB_len 9 (l.length : Int)
    simp only [Option.bind_some]
    exact Join_l0 l (by omega) hz l 0 _ k rfl (by omega) (by omega) (by omega)
theorem refJoin_l0 (l : List (List Int)) (hl : l.length ≤ 64) (hz : ∀ z ∈ l, z.length ≤ 140737488351232) : ∀ (rest : List (List Int)) (i : Nat) (acc : List Int) (k : Nat), l.drop i = rest → acc.length + rest.length * 5000 ≤ 1000000 → i ≤ l.length → 30 + rest.length ≤ k →
    grapevineref02_Join.l0 k l acc i = some (jn rest acc) := by
  intro rest
  induction rest with
  | nil =>
    intro i acc k hd ha hi hk
    obtain ⟨k, rfl⟩ : ∃ m, k = m + 1 := ⟨k - 1, by omega⟩
    have : l.length ≤ i := by simpa using hd
    simp only [grapevineref02_Join.l0]
    rw [if_neg (by omega)]; rfl
  | cons p ps ih =>
    intro i acc k hd ha hi hk
    obtain ⟨k, rfl⟩ : ∃ m, k = m + 1 := ⟨k - 1, by omega⟩
    have hlt := dropL_lt hd
    have hp := hz p (List.mem_of_mem_drop (by rw [hd]; simp))
    simp only [List.length_cons] at ha hk
    simp only [grapevineref02_Join.l0]
    rw [if_pos (by omega), if_pos (by omega), rdL_drop hd]
    unfold jn
    by_cases h : (p.length : Int) > 4096
    · rw [if_pos h, if_pos h]
    · rw [if_neg h, if_neg h, u64w_id (x := (p.length : Int)) (by omega) (by omega), refUint_f _ k (by omega) (by omega) (by omega)]
      have hu := uB_len 9 (p.length : Int)
      simp only [Option.bind_some]
      rw [if_pos (by omega), if_pos (by simp; omega), w64_id (x := (i : Int) + 1) (by omega) (by omega)]
      exact ih (i + 1) _ k (dropL_succ hd) (by simp; omega) (by omega) (by omega)
theorem refJoin_f (l : List (List Int)) (hz : ∀ z ∈ l, z.length ≤ 140737488351232) (hll : l.length ≤ 140737488355328) (k : Nat) (hk : 100 ≤ k) : grapevineref02_Join.f k l = some (JN l) := by
  unfold grapevineref02_Join.f JN
  by_cases h : (l.length : Int) > 64
  · rw [if_pos h, if_pos h]
  · rw [if_neg h, if_neg h, u64w_id (x := (l.length : Int)) (by omega) (by omega), refUint_f _ k (by omega) (by omega) (by omega)]
    have hu := uB_len 9 (l.length : Int)
    simp only [Option.bind_some]
    exact refJoin_l0 l (by omega) hz l 0 _ k rfl (by omega) (by omega) (by omega)

theorem PT_short (b : List Int) (hb : Bs b) (p most : Int) (h0 : 0 ≤ most) : ((PT b p most).1.length : Int) ≤ most := by
  unfold PT
  have hr := TU_range b hb p
  split
  · split
    · simp; omega
    · split
      · simp; omega
      · simp only [List.length_take]; omega
  · simp; omega
theorem TakeJoin_l0 (b : List Int) (hb : Bs b) (hl : b.length ≤ 140737488355327) (N : Nat) (hN : N ≤ 64) : ∀ (n i : Nat) (p : Int) (acc : List (List Int)) (k : Nat), i + n = N → acc.length + n ≤ 1000 → 40 + n ≤ k →
    octet_TakeJoin.l0 k b p acc (N : Int) i = some (tj n b p acc) := by
  intro n
  induction n with
  | zero =>
    intro i p acc k hi ha hk
    obtain ⟨k, rfl⟩ : ∃ m, k = m + 1 := ⟨k - 1, by omega⟩
    simp only [octet_TakeJoin.l0]
    rw [if_neg (by omega)]; rfl
  | succ n ih =>
    intro i p acc k hi ha hk
    obtain ⟨k, rfl⟩ : ∃ m, k = m + 1 := ⟨k - 1, by omega⟩
    simp only [octet_TakeJoin.l0]
    rw [if_pos (by omega), part_f b hb (by omega) p 4096 (by omega) (by omega) k (by omega)]
    simp only [Option.bind_some]
    unfold tj
    have hs := PT_short b hb p 4096 (by omega)
    by_cases h : (PT b p 4096).2.2 = 0
    · rw [if_pos h, if_pos h, if_pos (by simp only [List.length_nil]; omega), if_pos (by omega), w64_id (x := (i : Int) + 1) (by omega) (by omega)]
      exact ih (i + 1) _ _ k (by omega) (by simp; omega) (by omega)
    · rw [if_neg h, if_neg h]
theorem TakeJoin_f (b : List Int) (hb : Bs b) (hl : b.length ≤ 140737488355327) (p : Int) (k : Nat) (hk : 200 ≤ k) : octet_TakeJoin.f k b p = some (TJ b p) := by
  unfold octet_TakeJoin.f TJ
  rw [TakeUint_f b hb (by omega) p k (by omega)]
  simp only [Option.bind_some]
  obtain ⟨r1, r2, r3, r4, r5, r6⟩ := TU_range b hb p
  by_cases h : (TU b p).2.2 = 0
  · rw [if_pos h, if_pos h]
    by_cases h1 : (TU b p).1 > 64
    · rw [if_pos h1, if_pos h1]
    · rw [if_neg h1, if_neg h1, w64_id (x := (TU b p).1) (by omega) (by omega), if_pos (by omega), if_pos (by omega)]
      obtain ⟨N, hN⟩ : ∃ N : Nat, (TU b p).1 = N := ⟨_, (Int.toNat_of_nonneg r1).symm⟩
      rw [hN, Int.toNat_natCast]
      exact TakeJoin_l0 b hb hl N (by omega) N 0 _ [] k (by omega) (by simp; omega) (by omega)
  · rw [if_neg h, if_neg h]
theorem refTakeJoin_l0 (b : List Int) (hb : Bs b) (hl : b.length ≤ 140737488355327) (N : Nat) (hN : N ≤ 64) : ∀ (n i : Nat) (p : Int) (acc : List (List Int)) (k : Nat), i + n = N → acc.length + n ≤ 1000 → 40 + n ≤ k →
    grapevineref02_TakeJoin.l0 k b (N : Int) p acc i = some (tj n b p acc) := by
  intro n
  induction n with
  | zero =>
    intro i p acc k hi ha hk
    obtain ⟨k, rfl⟩ : ∃ m, k = m + 1 := ⟨k - 1, by omega⟩
    simp only [grapevineref02_TakeJoin.l0]
    rw [w64_id (x := (N : Int)) (by omega) (by omega), if_neg (by omega)]; rfl
  | succ n ih =>
    intro i p acc k hi ha hk
    obtain ⟨k, rfl⟩ : ∃ m, k = m + 1 := ⟨k - 1, by omega⟩
    simp only [grapevineref02_TakeJoin.l0]
    rw [w64_id (x := (N : Int)) (by omega) (by omega), if_pos (by omega), some_f b hb (by omega) p 4096 (by omega) (by omega) k (by omega)]
    simp only [Option.bind_some]
    unfold tj
    by_cases h : (PT b p 4096).2.2 = 0
    · rw [if_pos h, if_pos h, if_pos (by omega), w64_id (x := (i : Int) + 1) (by omega) (by omega)]
      exact ih (i + 1) _ _ k (by omega) (by simp; omega) (by omega)
    · rw [if_neg h, if_neg h]
theorem refTakeJoin_f (b : List Int) (hb : Bs b) (hl : b.length ≤ 140737488355327) (p : Int) (k : Nat) (hk : 200 ≤ k) : grapevineref02_TakeJoin.f k b p = some (TJ b p) := by
  unfold grapevineref02_TakeJoin.f TJ
  rw [refTakeUint_f b hb (by omega) p k (by omega)]
  simp only [Option.bind_some]
  obtain ⟨r1, r2, r3, r4, r5, r6⟩ := TU_range b hb p
  by_cases h : (TU b p).2.2 = 0
  · rw [if_pos h, if_pos h]
    by_cases h1 : (TU b p).1 > 64
    · rw [if_pos h1, if_pos h1]
    · rw [if_neg h1, if_neg h1]
      obtain ⟨N, hN⟩ : ∃ N : Nat, (TU b p).1 = N := ⟨_, (Int.toNat_of_nonneg r1).symm⟩
      rw [hN, Int.toNat_natCast]
      exact refTakeJoin_l0 b hb hl N (by omega) N 0 _ [] k (by omega) (by simp; omega) (by omega)
  · rw [if_neg h, if_neg h]
theorem SameRows_l0 (l : List (List Int)) (hl : l.length ≤ 140737488355328) : ∀ (n i k : Nat), i + n = l.length → n < k → grapevineref02_SameRows.l0 k l l i = some true := by
  intro n
  induction n with
  | zero =>
    intro i k hi hk
    obtain ⟨k, rfl⟩ : ∃ m, k = m + 1 := ⟨k - 1, by omega⟩
    simp only [grapevineref02_SameRows.l0]
    rw [if_neg (by omega)]
  | succ n ih =>
    intro i k hi hk
    obtain ⟨k, rfl⟩ : ∃ m, k = m + 1 := ⟨k - 1, by omega⟩
    simp only [grapevineref02_SameRows.l0]
    rw [if_pos (by omega), if_pos (by omega), if_pos (by omega), if_pos trivial, w64_id (x := (i : Int) + 1) (by omega) (by omega)]
    exact ih (i + 1) k (by omega) (by omega)
theorem SameRows_f (l : List (List Int)) (hl : l.length ≤ 140737488355328) (k : Nat) (hk : l.length < k) : grapevineref02_SameRows.f k l l = some true := by
  unfold grapevineref02_SameRows.f
  rw [if_pos rfl]
  exact SameRows_l0 l hl l.length 0 k (by omega) hk
theorem tj_length : ∀ (n : Nat) (b : List Int) (p : Int) (acc : List (List Int)), (tj n b p acc).1.length ≤ acc.length + n := by
  intro n
  induction n with
  | zero => intro b p acc; simp [tj]
  | succ n ih =>
    intro b p acc
    unfold tj
    split
    · have := ih b (PT b p 4096).2.1 (acc ++ [(PT b p 4096).1])
      simp at this
      omega
    · simp
theorem TJ_length (b : List Int) (p : Int) : (TJ b p).1.length ≤ 64 := by
  unfold TJ
  split
  · split
    · simp
    · have := tj_length (TU b p).1.toNat b (TU b p).2.1 []
      simp at this
      omega
  · simp
/-- bytes that stand behind their length are taken, whatever stands around -/
theorem PT_back' (a l c : List Int) (most : Int) (hl : (l.length : Int) ≤ most) (hm : most ≤ 140737488355328) (q : Int) (hq : q = a.length) :
    PT (a ++ uB 9 l.length ++ l ++ c) q most = (l, (a.length : Int) + (uB 9 l.length).length + l.length, 0) := by
  subst hq
  have := PT_back l most hl hm a c
  rw [show a ++ (uB 9 l.length ++ l) ++ c = a ++ uB 9 l.length ++ l ++ c from by simp] at this
  rw [this]
  simp
  omega
/-- the parts that are joined are taken -/
theorem tj_back : ∀ (l : List (List Int)) (a c : List Int) (acc : List (List Int)) (out : List Int), jn l a = (out, 0) →
    tj l.length (out ++ c) a.length acc = (acc ++ l, (out.length : Int), 0) := by
  intro l
  induction l with
  | nil => intro a c acc out h; simp [jn] at h; subst h; simp [tj]
  | cons p ps ih =>
    intro a c acc out h
    unfold jn at h
    by_cases h1 : (p.length : Int) > 4096
    · rw [if_pos h1] at h; simp at h
    · rw [if_neg h1] at h
      have key : ∃ t, out = a ++ uB 9 p.length ++ p ++ t := by
        have : ∀ (l : List (List Int)) (a out : List Int), jn l a = (out, 0) → ∃ t, out = a ++ t := by
          intro l
          induction l with
          | nil => intro a out h; simp [jn] at h; exact ⟨[], by simp [h]⟩
          | cons q qs ih2 =>
            intro a out h
            unfold jn at h
            by_cases h1 : (q.length : Int) > 4096
            · rw [if_pos h1] at h; simp at h
            · rw [if_neg h1] at h
              obtain ⟨t, ht⟩ := ih2 _ _ h
              exact ⟨uB 9 q.length ++ q ++ t, by rw [ht]; simp⟩
        exact this _ _ _ h
      obtain ⟨t, ht⟩ := key
      have hP : PT (out ++ c) (a.length : Int) 4096 = (p, (a.length : Int) + (uB 9 p.length).length + p.length, 0) := by
        rw [ht, List.append_assoc (a ++ uB 9 p.length ++ p) t c]
        exact PT_back' a p (t ++ c) 4096 (by omega) (by omega) _ rfl
      simp only [List.length_cons]
      unfold tj
      rw [hP]
      simp only [if_true]
      have := ih _ c (acc ++ [p]) out h
      rw [show ((a ++ uB 9 p.length ++ p).length : Int) = (a.length : Int) + (uB 9 p.length).length + p.length from by simp; omega] at this
      rw [this]
      simp
theorem jn_bs : ∀ (l : List (List Int)) (a out : List Int), (∀ z ∈ l, Bs z) → Bs a → jn l a = (out, 0) → Bs out := by
  intro l
  induction l with
  | nil => intro a out _ ha h; simp [jn] at h; exact h ▸ ha
  | cons p ps ih =>
    intro a out hl ha h
    unfold jn at h
    by_cases h1 : (p.length : Int) > 4096
    · rw [if_pos h1] at h; simp at h
    · rw [if_neg h1] at h
      exact ih _ _ (fun z hz => hl z (by simp [hz])) ((ha.append (uB_bytes 9 _ (by omega) (by rw [pow128]; omega))).append (hl p (by simp))) h
theorem jn_len : ∀ (l : List (List Int)) (a out : List Int) (e : Int), jn l a = (out, e) → out.length ≤ a.length + l.length * 4106 := by
  intro l
  induction l with
  | nil => intro a out e h; simp [jn] at h; simp [← h.1]
  | cons p ps ih =>
    intro a out e h
    unfold jn at h
    by_cases h1 : (p.length : Int) > 4096
    · rw [if_pos h1] at h; simp at h; obtain ⟨h2, h3⟩ := h; subst h2; simp
    · rw [if_neg h1] at h
      have := ih _ _ _ h
      have hu := uB_len 9 (p.length : Int)
      simp only [List.length_append] at this
      simp only [List.length_cons]
      omega
theorem jn_err : ∀ (l : List (List Int)) (a : List Int), (jn l a).2 = 0 ∨ jn l a = ([], 6) := by
  intro l
  induction l with
  | nil => intro a; left; rfl
  | cons p ps ih =>
    intro a
    unfold jn
    split
    · right; rfl
    · exact ih _
theorem JN_err (l : List (List Int)) : (JN l).2 = 0 ∨ JN l = ([], 6) := by
  unfold JN
  split
  · right; rfl
  · exact jn_err _ _
end Go.Proofs.Ytchanabiobcbhaa.Oct
