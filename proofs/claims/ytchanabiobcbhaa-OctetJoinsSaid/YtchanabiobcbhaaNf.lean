/- Texts behind their length: octet.Text, part, TakeText and their references, as the plain laws. -/
import Derived.Test.YtchanabiobcbhaaNb
import Derived.Test.YtchanabiobcbhaaNc
import Derived.Test.YtchanabiobcbhaaQx24
import Derived.Test.YtchanabiobcbhaaQx26
import Derived.Test.YtchanabiobcbhaaQx27
import Derived.Test.YtchanabiobcbhaaQx25
import Derived.Test.YtchanabiobcbhaaQx28
import Derived.Test.YtchanabiobcbhaaQx29
namespace Go.Proofs.Ytchanabiobcbhaa.Oct
open Go Go.RowKit Go.Proofs.YtchanabiobcbhaaW.PrintWords Go.Proofs.YtchanabiobcbhaaW.PrintMore Go.Proofs.Ytchanabiobcbhaa.Q
set_option linter.unusedVariables false

/-- as many bytes as the number at a place says -/
def PT (b : List Int) (p most : Int) : List Int × Int × Int :=
  if (TU b p).2.2 = 0 then
    if (TU b p).1 > most then ([], 0, 6)
    else if (TU b p).1 > (b.length : Int) - (TU b p).2.1 then ([], 0, 3)
    else ((b.drop (TU b p).2.1.toNat).take (TU b p).1.toNat, (TU b p).2.1 + (TU b p).1, 0)
  else ([], 0, (TU b p).2.2)
def TX (s : ByteArray) : List Int × Int := if (s.size : Int) > 200 then ([], 6) else (uB 9 s.size ++ bytesOf s, 0)

theorem part_f (b : List Int) (hb : Bs b) (hl : b.length ≤ 140737488355328) (p most : Int) (hm0 : 0 ≤ most) (hm1 : most ≤ 140737488355328) (k : Nat) (hk : 30 ≤ k) : octet_part.f k b p most = some (PT b p most) := by
  unfold octet_part.f PT
  rw [TakeUint_f b hb hl p k hk]
  simp only [Option.bind_some]
  obtain ⟨r1, r2, r3, r4, r5, r6⟩ := TU_range b hb p
  generalize TU b p = t at *
  by_cases h : t.2.2 = 0
  · rw [if_pos h, if_pos h, u64w_id (x := most) hm0 (by omega)]
    by_cases h1 : t.1 > most
    · rw [if_pos h1, if_pos h1]
    · rw [if_neg h1, if_neg h1, w64_id (x := (b.length : Int) - t.2.1) (by omega) (by omega), u64w_id (x := (b.length : Int) - t.2.1) (by omega) (by omega)]
      by_cases h2 : t.1 > (b.length : Int) - t.2.1
      · rw [if_pos h2, if_pos h2]
      · rw [if_neg h2, if_neg h2, w64_id (x := t.1) (by omega) (by omega), w64_id (x := t.2.1 + t.1) (by omega) (by omega), if_pos (by omega), if_pos (by omega), if_pos (by omega)]
        have e : (t.2.1 + t.1).toNat - t.2.1.toNat = t.1.toNat := by omega
        rw [List.drop_take, e]
  · rw [if_neg h, if_neg h]
theorem some_f (b : List Int) (hb : Bs b) (hl : b.length ≤ 140737488355327) (p most : Int) (hm0 : 0 ≤ most) (hm1 : most ≤ 140737488355328) (k : Nat) (hk : 30 ≤ k) : grapevineref02_some.f k b p most = some (PT b p most) := by
  unfold grapevineref02_some.f PT
  rw [refTakeUint_f b hb (by omega) p k hk]
  simp only [Option.bind_some]
  obtain ⟨r1, r2, r3, r4, r5, r6⟩ := TU_range b hb p
  generalize TU b p = t at *
  by_cases h : t.2.2 = 0
  · rw [if_pos h, if_pos h, u64w_id (x := most) hm0 (by omega)]
    by_cases h1 : t.1 > most
    · rw [if_pos h1, if_pos h1]
    · rw [if_neg h1, if_neg h1, w64_id (x := (b.length : Int) - t.2.1) (by omega) (by omega), w64_id (x := t.1) (by omega) (by omega)]
      by_cases h2 : t.1 > (b.length : Int) - t.2.1
      · rw [if_pos (by omega), if_pos h2]
      · rw [if_neg (by omega), if_neg h2, w64_id (x := t.2.1 + t.1) (by omega) (by omega), if_pos (by omega), if_pos (by omega), if_pos (by omega)]
        have e : (t.2.1 + t.1).toNat - t.2.1.toNat = t.1.toNat := by omega
        rw [List.drop_take, e]
        simp only [List.nil_append, List.length_nil, Nat.zero_add]
        rw [if_pos (by rw [List.length_take, List.length_drop]; omega)]
  · rw [if_neg h, if_neg h]
theorem TakeText_f (b : List Int) (hb : Bs b) (hl : b.length ≤ 140737488355328) (p : Int) (k : Nat) (hk : 30 ≤ k) : octet_TakeText.f k b p = some (strOfNums (PT b p 200).1, (PT b p 200).2.1, (PT b p 200).2.2) := by
  unfold octet_TakeText.f
  rw [part_f b hb hl p 200 (by omega) (by omega) k hk]
  rfl
theorem refTakeText_f (b : List Int) (hb : Bs b) (hl : b.length ≤ 140737488355327) (p : Int) (k : Nat) (hk : 30 ≤ k) : grapevineref02_TakeText.f k b p = some (strOfNums (PT b p 200).1, (PT b p 200).2.1, (PT b p 200).2.2) := by
  unfold grapevineref02_TakeText.f
  rw [some_f b hb hl p 200 (by omega) (by omega) k hk]
  rfl
theorem Text_f (s : ByteArray) (k : Nat) (hk : 20 ≤ k) : octet_Text.f k s = some (TX s) := by
  unfold octet_Text.f TX
  by_cases h : (s.size : Int) > 200
  · rw [if_pos h, if_pos h]
  · rw [if_neg h, if_neg h, u64w_id (x := (s.size : Int)) (by omega) (by omega), Uint_f _ k (by omega) (by omega) hk]
    simp only [Option.bind_some]
    have := uB_len 9 (s.size : Int)
    rw [if_pos (by omega)]
theorem refText_f (s : ByteArray) (k : Nat) (hk : 20 ≤ k) : grapevineref02_Text.f k s = some (TX s) := by
  unfold grapevineref02_Text.f TX
  by_cases h : (s.size : Int) > 200
  · rw [if_pos h, if_pos h]
  · rw [if_neg h, if_neg h, u64w_id (x := (s.size : Int)) (by omega) (by omega), refUint_f _ k (by omega) (by omega) hk]
    simp only [Option.bind_some]
    have := uB_len 9 (s.size : Int)
    rw [if_pos (by omega)]
theorem str_bytes (s : ByteArray) : strOfNums (bytesOf s) = s := by
  cases s with
  | mk d =>
    unfold strOfNums bytesOf
    congr 1
    simp only [List.map_map]
    have : (fun n : Int => UInt8.ofNat n.toNat) ∘ (fun b : UInt8 => (b.toNat : Int)) = id := by
      funext b
      simp
    rw [this]
    simp
theorem bytesOf_bs (s : ByteArray) : Bs (bytesOf s) := by
  intro x hx
  unfold bytesOf at hx
  obtain ⟨b, _, rfl⟩ := List.mem_map.mp hx
  have := b.toNat_lt
  omega
/-- bytes that are put behind their length are taken as they were -/
theorem PT_back (l : List Int) (most : Int) (hl : (l.length : Int) ≤ most) (hm : most ≤ 140737488355328) (a c : List Int) :
    PT (a ++ (uB 9 l.length ++ l) ++ c) a.length most = (l, (a.length : Int) + (uB 9 l.length ++ l).length, 0) := by
  have hT : TU (a ++ (uB 9 l.length ++ l) ++ c) a.length = ((l.length : Int), (a.length : Int) + (uB 9 l.length).length, 0) := by
    unfold TU
    rw [if_neg (by simp; omega), Int.toNat_natCast, List.append_assoc, List.drop_left, List.append_assoc, tk_uB 9 0 _ 0 (l ++ c) (by decide) (by omega) (by rw [pow64]; omega) (.inl rfl)]
    simp [fin]
  unfold PT
  rw [hT]
  simp only [if_true]
  rw [if_neg (by omega), if_neg (by simp; omega)]
  congr 1
  · rw [show ((a.length : Int) + (uB 9 l.length).length).toNat = (a ++ uB 9 l.length).length from by simp; omega]
    rw [show a ++ (uB 9 l.length ++ l) ++ c = (a ++ uB 9 l.length) ++ (l ++ c) from by simp, List.drop_left, Int.toNat_natCast, List.take_left]
  · congr 1
    simp
    omega
end Go.Proofs.Ytchanabiobcbhaa.Oct
