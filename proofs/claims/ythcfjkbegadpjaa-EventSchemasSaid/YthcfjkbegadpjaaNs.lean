/- Schemas: event.CheckSchema and its reference are one function. -/
import Derived.Test.YthcfjkbegadpjaaNm
import Derived.Test.YthcfjkbegadpjaaQx3
import Derived.Test.YthcfjkbegadpjaaQx21
import Derived.Test.YthcfjkbegadpjaaQx22
namespace Go.Proofs.Ythcfjkbegadpjaa.Oct
open Go Go.RowKit Go.Proofs.YthcfjkbegadpjaaW.PrintWords Go.Proofs.YthcfjkbegadpjaaW.PrintMore Go.Proofs.Ythcfjkbegadpjaa.Q
set_option linter.unusedVariables false
/-- what is wrong with a name behind another one -/
def NE (a s : ByteArray) : Int := if NM s = true then (if Op.bytesLess a.toList s.toList = true then 0 else 4) else 11
theorem name_f (a s : ByteArray) (k : Nat) (hk : 40 ≤ k) : event_name.f k a s = some (NE a s) := by
  unfold event_name.f NE
  rw [Name_f s k hk]
  simp only [Option.bind_some]
  repeat' split
  all_goals rfl
theorem NM_ne {s : ByteArray} (h : NM s = true) : s.toList ≠ [] := by
  intro e
  unfold NM at h
  have h1 := (Bool.and_eq_true _ _ ▸ h).1
  have h2 := of_decide_eq_true h1
  have h3 : s.toList.length = s.size := by rw [ByteArray.toList_eq, Array.length_toList]; rfl
  rw [e] at h3
  simp at h3
  omega
theorem nil_toList : (⟨#[]⟩ : ByteArray).toList = [] := by rw [ByteArray.toList_eq]
theorem less_nil {l : List UInt8} (h : l ≠ []) : Op.bytesLess [] l = true := by
  cases l with
  | nil => exact absurd rfl h
  | cons x xs => rfl
def CSl : List S48 → ByteArray → Int
  | [], _ => 0
  | f :: l, a => if NE a f.f0 = 0 then (if f.f1 < 1 then 12 else if f.f1 > 4 then 12 else CSl l f.f0) else NE a f.f0
def CS (l : List S48) : Int := if (l.length : Int) > 8 then 6 else CSl l ⟨#[]⟩
theorem rdS_drop (l : List S48) (i : Nat) (h : i < l.length) : l.drop i = rd_T48 l (i : Int) :: l.drop (i + 1) := by
  rw [List.drop_eq_getElem_cons h]
  congr 1
  unfold rd_T48
  simp [List.getD_eq_getElem?_getD, h]
theorem CheckSchema_l0 (l : List S48) (hl : l.length ≤ 8) : ∀ (d i k : Nat) (a : ByteArray), i + d = l.length → d + 40 < k → event_CheckSchema.l0 k a l (l.length : Int) (i : Int) = some (CSl (l.drop i) a)
  | 0, i, k, a, h, hk => by
    obtain ⟨k, rfl⟩ : ∃ m, k = m + 1 := ⟨k - 1, by omega⟩
    rw [event_CheckSchema.l0, if_neg (by omega), List.drop_of_length_le (by omega)]
    rfl
  | d + 1, i, k, a, h, hk => by
    obtain ⟨k, rfl⟩ : ∃ m, k = m + 1 := ⟨k - 1, by omega⟩
    have ih := CheckSchema_l0 l hl d (i + 1) k (rd_T48 l (i : Int)).f0 (by omega) (by omega)
    have hw : wrap64 ((i : Int) + 1) = ((i + 1 : Nat) : Int) := by unfold wrap64; omega
    rw [event_CheckSchema.l0, if_pos (by omega), if_pos (by omega), if_pos (by omega), name_f _ _ k (by omega), hw, ih, rdS_drop l i (by omega)]
    simp only [Option.bind_some, CSl]
    repeat' split
    all_goals rfl
theorem CheckSchema_f (l : List S48) (k : Nat) (hk : 60 ≤ k) : event_CheckSchema.f k l = some (CS l) := by
  unfold event_CheckSchema.f CS
  by_cases h : (l.length : Int) > 8
  · rw [if_pos h, if_pos h]
  · rw [if_neg h, if_neg h]
    exact CheckSchema_l0 l (by omega) l.length 0 k _ (by omega) (by omega)
def prevS (l : List S48) (i : Nat) : ByteArray := if i = 0 then ⟨#[]⟩ else (rd_T48 l ((i : Int) - 1)).f0
theorem refCheckSchema_l0 (l : List S48) (hl : l.length ≤ 8) : ∀ (d i k : Nat), i + d = l.length → 2 * d + 40 < k → grapevineref04_CheckSchema.l0 k l (i : Int) = some (CSl (l.drop i) (prevS l i))
  | 0, i, k, h, hk => by
    obtain ⟨k, rfl⟩ : ∃ m, k = m + 1 := ⟨k - 1, by omega⟩
    rw [grapevineref04_CheckSchema.l0, if_neg (by omega), List.drop_of_length_le (by omega)]
    rfl
  | d + 1, i, k, h, hk => by
    obtain ⟨k, rfl⟩ : ∃ m, k = m + 2 := ⟨k - 2, by omega⟩
    have ih := refCheckSchema_l0 l hl d (i + 1) k (by omega) (by omega)
    have hw : wrap64 ((i : Int) + 1) = ((i + 1 : Nat) : Int) := by unfold wrap64; omega
    have hp : prevS l (i + 1) = (rd_T48 l (i : Int)).f0 := by
      unfold prevS
      rw [if_neg (by omega), show ((i + 1 : Nat) : Int) - 1 = (i : Int) by omega]
    rw [hp] at ih
    have j1 : ∀ x, grapevineref04_CheckSchema.j1 (k + 1) l (i : Int) x = some (if x = true then 4 else if (rd_T48 l (i : Int)).f1 < 1 then 12 else if (rd_T48 l (i : Int)).f1 > 4 then 12 else CSl (l.drop (i + 1)) (rd_T48 l (i : Int)).f0) := by
      intro x
      rw [grapevineref04_CheckSchema.j1, if_pos (show (0 : Int) ≤ (i : Int) by omega), if_pos (show (i : Int) < (l.length : Int) by omega), hw, ih]
      repeat' split
      all_goals rfl
    rw [grapevineref04_CheckSchema.l0, if_pos (by omega), if_pos (by omega), refName_f _ (k + 1) (by omega)]
    simp only [Option.bind_some]
    rw [rdS_drop l i (by omega)]
    simp only [CSl]
    by_cases hn : NM (rd_T48 l (i : Int)).f0 = true
    · rw [if_pos hn]
      by_cases h0 : i = 0
      · subst h0
        have hz : NE (prevS l 0) (rd_T48 l ((0 : Nat) : Int)).f0 = 0 := by
          unfold NE prevS
          rw [if_pos hn, if_pos rfl]
          have hb : Op.bytesLess (⟨#[]⟩ : ByteArray).toList (rd_T48 l ((0 : Nat) : Int)).f0.toList = true := by rw [nil_toList]; exact less_nil (NM_ne hn)
          rw [if_pos hb]
        rw [if_neg (by omega), hz, if_pos rfl, j1]
        rfl
      · have hw1 : wrap64 ((i : Int) - 1) = (i : Int) - 1 := by unfold wrap64; omega
        rw [if_pos (by omega), hw1, if_pos (by omega), if_pos (by omega), j1]
        have hz : NE (prevS l i) (rd_T48 l (i : Int)).f0 = if Op.bytesLess (rd_T48 l ((i : Int) - 1)).f0.toList (rd_T48 l (i : Int)).f0.toList = true then 0 else 4 := by
          unfold NE prevS
          rw [if_pos hn, if_neg h0]
        rw [hz]
        cases Op.bytesLess (rd_T48 l ((i : Int) - 1)).f0.toList (rd_T48 l (i : Int)).f0.toList <;> simp
    · rw [if_neg hn]
      have hz : NE (prevS l i) (rd_T48 l (i : Int)).f0 = 11 := by
        unfold NE
        rw [if_neg hn]
      rw [hz]
      rfl
theorem refCheckSchema_f (l : List S48) (k : Nat) (hk : 80 ≤ k) : grapevineref04_CheckSchema.f k l = some (CS l) := by
  unfold grapevineref04_CheckSchema.f CS
  by_cases h : (l.length : Int) > 8
  · rw [if_pos h, if_pos h]
  · rw [if_neg h, if_neg h]
    exact refCheckSchema_l0 l (by omega) l.length 0 k (by omega) (by omega)
end Go.Proofs.Ythcfjkbegadpjaa.Oct
