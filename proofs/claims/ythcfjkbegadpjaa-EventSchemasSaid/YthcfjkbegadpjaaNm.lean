/- Names: event.Name and its reference are one function. -/
import Derived.Test.YthcfjkbegadpjaaNa
import Derived.Test.YthcfjkbegadpjaaQx2
import Derived.Test.YthcfjkbegadpjaaQx19
namespace Go.Proofs.Ythcfjkbegadpjaa.Oct
open Go Go.RowKit Go.Proofs.YthcfjkbegadpjaaW.PrintWords Go.Proofs.YthcfjkbegadpjaaW.PrintMore Go.Proofs.Ythcfjkbegadpjaa.Q
set_option linter.unusedVariables false
/-- a byte that may stand in a name, first or not -/
def okc (i c : Int) : Bool := decide (c ≥ 97 ∧ c ≤ 122) || decide (i > 0 ∧ (c ≥ 48 ∧ c ≤ 57 ∨ c = 45))
def nm (s : ByteArray) : Nat → Int → Bool
  | 0, _ => true
  | d + 1, i => okc i (bt s i) && nm s d (i + 1)
/-- which names are right -/
def NM (s : ByteArray) : Bool := decide (1 ≤ s.size ∧ s.size ≤ 16) && nm s s.size 0
theorem Name_l0 (s : ByteArray) (hs : s.size ≤ 16) : ∀ (d : Nat) (i : Nat) (k : Nat), i + d = s.size → 2 * d < k → event_Name.l0 k s (s.size : Int) (i : Int) = some (nm s d i)
  | 0, i, k, h, hk => by
    obtain ⟨k, rfl⟩ : ∃ m, k = m + 1 := ⟨k - 1, by omega⟩
    rw [event_Name.l0, if_neg (by omega)]
    rfl
  | d + 1, i, k, h, hk => by
    obtain ⟨k, rfl⟩ : ∃ m, k = m + 2 := ⟨k - 2, by omega⟩
    have ih := Name_l0 s hs d (i + 1) k (by omega) (by omega)
    have hw : wrap64 ((i : Int) + 1) = ((i + 1 : Nat) : Int) := by unfold wrap64; omega
    rw [event_Name.l0, if_pos (by omega), if_pos (by omega), if_pos (by omega)]
    have e : event_Name.l0 k s (s.size : Int) (wrap64 ((i : Int) + 1)) = some (nm s d ((i : Int) + 1)) := by
      rw [hw, ih]; simp
    simp only [event_Name.j2, e, nm]
    generalize bt s (i : Int) = c
    generalize nm s d ((i : Int) + 1) = r
    unfold okc
    repeat' split
    all_goals (simp at *; try omega)
    all_goals (intros; first | omega | (exfalso; omega) | skip)
theorem Name_f (s : ByteArray) (k : Nat) (hk : 40 ≤ k) : event_Name.f k s = some (NM s) := by
  obtain ⟨k, rfl⟩ : ∃ m, k = m + 1 := ⟨k - 1, by omega⟩
  unfold event_Name.f NM
  by_cases h0 : (s.size : Int) < 1
  · rw [if_pos h0, event_Name.j0, if_pos rfl, decide_eq_false (by omega)]
    rfl
  · rw [if_neg h0, event_Name.j0]
    by_cases h1 : (s.size : Int) > 16
    · rw [if_pos (decide_eq_true h1), decide_eq_false (by omega)]
      rfl
    · rw [if_neg (by simpa using h1), decide_eq_true (by omega)]
      have := Name_l0 s (by omega) s.size 0 k (by omega) (by omega)
      simpa using this
theorem refName_l0 (s : ByteArray) (hs : s.size ≤ 16) : ∀ (d : Nat) (i : Nat) (k : Nat), i + d = s.size → d < k → grapevineref04_Name.l0 k s (i : Int) = some (nm s d i)
  | 0, i, k, h, hk => by
    obtain ⟨k, rfl⟩ : ∃ m, k = m + 1 := ⟨k - 1, by omega⟩
    rw [grapevineref04_Name.l0, if_neg (by omega)]
    rfl
  | d + 1, i, k, h, hk => by
    obtain ⟨k, rfl⟩ : ∃ m, k = m + 1 := ⟨k - 1, by omega⟩
    have ih := refName_l0 s hs d (i + 1) k (by omega) (by omega)
    have hw : wrap64 ((i : Int) + 1) = ((i + 1 : Nat) : Int) := by unfold wrap64; omega
    rw [grapevineref04_Name.l0, if_pos (by omega), if_pos (by omega)]
    have e : grapevineref04_Name.l0 k s (wrap64 ((i : Int) + 1)) = some (nm s d ((i : Int) + 1)) := by
      rw [hw, ih]; simp
    simp only [e, nm]
    generalize bt s (i : Int) = c
    generalize nm s d ((i : Int) + 1) = r
    unfold okc
    repeat' split
    all_goals (simp at *; try omega)
    all_goals (intros; first | omega | (exfalso; omega) | skip)
theorem refName_f (s : ByteArray) (k : Nat) (hk : 40 ≤ k) : grapevineref04_Name.f k s = some (NM s) := by
  obtain ⟨k, rfl⟩ : ∃ m, k = m + 1 := ⟨k - 1, by omega⟩
  unfold grapevineref04_Name.f NM
  by_cases h0 : (s.size : Int) = 0
  · rw [if_pos h0, grapevineref04_Name.j0, if_pos rfl, decide_eq_false (by omega)]
    rfl
  · rw [if_neg h0, grapevineref04_Name.j0]
    by_cases h1 : (s.size : Int) > 16
    · rw [if_pos (decide_eq_true h1), decide_eq_false (by omega)]
      rfl
    · rw [if_neg (by simpa using h1), decide_eq_true (by omega)]
      have := refName_l0 s (by omega) s.size 0 k (by omega) (by omega)
      simpa using this
end Go.Proofs.Ythcfjkbegadpjaa.Oct
