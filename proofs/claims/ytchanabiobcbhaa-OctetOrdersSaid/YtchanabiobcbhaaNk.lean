/- Bytes of one length are ordered as the numbers they spell. -/
import Derived.Test.YtchanabiobcbhaaNe
import Derived.Laws.Strings
namespace Go.Proofs.Ytchanabiobcbhaa.Oct
open Go Go.RowKit Go.Proofs.YtchanabiobcbhaaW.PrintWords Go.Proofs.YtchanabiobcbhaaW.PrintMore Go.Proofs.Ytchanabiobcbhaa.Q
set_option linter.unusedVariables false
def b8 (n : Int) : UInt8 := UInt8.ofNat n.toNat
theorem b8_nat {x : Int} (h : 0 ≤ x ∧ x ≤ 255) : (b8 x).toNat = x.toNat := by
  unfold b8
  rw [UInt8.toNat_ofNat']
  omega
theorem b8_lt {x y : Int} (hx : 0 ≤ x ∧ x ≤ 255) (hy : 0 ≤ y ∧ y ≤ 255) : b8 x < b8 y ↔ x < y := by
  rw [UInt8.lt_iff_toNat_lt, b8_nat hx, b8_nat hy]
  omega
theorem b8_eq {x y : Int} (hx : 0 ≤ x ∧ x ≤ 255) (hy : 0 ≤ y ∧ y ≤ 255) : b8 x = b8 y ↔ x = y := by
  rw [← UInt8.toNat_inj, b8_nat hx, b8_nat hy]
  omega
theorem kV_lt : ∀ (a b : List Int) (u v : Int), a.length = b.length → Bs a → Bs b → u < v → kV u a < kV v b := by
  intro a
  induction a with
  | nil => intro b u v h _ _ huv; cases b with
    | nil => simpa [kV] using huv
    | cons _ _ => simp at h
  | cons x a ih => intro b u v h ha hb huv; cases b with
    | nil => simp at h
    | cons y b =>
      have hx := ha x (by simp)
      have hy := hb y (by simp)
      have := ih b (u * 256 + x) (v * 256 + y) (by simpa using h) (fun z hz => ha z (by simp [hz])) (fun z hz => hb z (by simp [hz])) (by omega)
      simpa [kV] using this
theorem less_kV : ∀ (a b : List Int) (u : Int), a.length = b.length → Bs a → Bs b → Op.bytesLess (a.map b8) (b.map b8) = decide (kV u a < kV u b) ∧ (a.map b8 == b.map b8) = decide (kV u a = kV u b) := by
  intro a
  induction a with
  | nil => intro b u h _ _; cases b with
    | nil => simp [Op.bytesLess]
    | cons _ _ => simp at h
  | cons x a ih => intro b u h ha hb; cases b with
    | nil => simp at h
    | cons y b =>
      have hx := ha x (by simp)
      have hy := hb y (by simp)
      have ha' : Bs a := fun z hz => ha z (by simp [hz])
      have hb' : Bs b := fun z hz => hb z (by simp [hz])
      have hl : a.length = b.length := by simpa using h
      have e1 : kV u (x :: a) = kV (u * 256 + x) a := rfl
      have e2 : kV u (y :: b) = kV (u * 256 + y) b := rfl
      have l1 : ((x :: a).map b8 == (y :: b).map b8) = (b8 x == b8 y && (a.map b8 == b.map b8)) := rfl
      rw [e1, e2, l1]
      simp only [List.map_cons, Op.bytesLess]
      rcases Int.lt_trichotomy x y with hxy | hxy | hxy
      · have := kV_lt a b (u * 256 + x) (u * 256 + y) hl ha' hb' (by omega)
        have h1 : (b8 x < b8 y) := (b8_lt hx hy).2 hxy
        have h2 : ¬ (b8 x = b8 y) := fun h => by have := (b8_eq hx hy).1 h; omega
        refine ⟨?_, ?_⟩
        · rw [decide_eq_true h1, Bool.true_or, decide_eq_true this]
        · rw [beq_eq_false_iff_ne.mpr h2, Bool.false_and]
          exact (decide_eq_false (by omega)).symm
      · subst hxy
        obtain ⟨i1, i2⟩ := ih b (u * 256 + x) hl ha' hb'
        have h1 : ¬ (b8 x < b8 x) := fun h => by have := (b8_lt hx hx).1 h; omega
        refine ⟨?_, ?_⟩
        · rw [decide_eq_false h1, Bool.false_or, beq_self_eq_true, Bool.true_and, i1]
        · rw [i2, beq_self_eq_true, Bool.true_and]
      · have := kV_lt b a (u * 256 + y) (u * 256 + x) hl.symm hb' ha' (by omega)
        have h1 : ¬ (b8 x < b8 y) := fun h => by have := (b8_lt hx hy).1 h; omega
        have h2 : ¬ (b8 x = b8 y) := fun h => by have := (b8_eq hx hy).1 h; omega
        refine ⟨?_, ?_⟩
        · rw [decide_eq_false h1, beq_eq_false_iff_ne.mpr h2, Bool.false_and, Bool.or_false]
          exact (decide_eq_false (by omega)).symm
        · rw [beq_eq_false_iff_ne.mpr h2, Bool.false_and]
          exact (decide_eq_false (by omega)).symm
theorem strOfNums_toList (l : List Int) : (strOfNums l).toList = l.map b8 := by
  rw [ByteArray.toList_eq]
  simp [strOfNums, b8]
theorem strOfNums_size (l : List Int) : (strOfNums l).size = l.length := by
  simp [strOfNums, ByteArray.size]
theorem kB_less (u v : Int) (hu0 : 0 ≤ u) (hu1 : u < 18446744073709551616) (hv0 : 0 ≤ v) (hv1 : v < 18446744073709551616) :
    Op.bytesLess ((strOfNums (kB u)).toList) ((strOfNums (kB v)).toList) = decide (u < v) ∧ ((strOfNums (kB u)).toList == (strOfNums (kB v)).toList) = decide (u = v) := by
  rw [strOfNums_toList, strOfNums_toList]
  have := less_kV (kB u) (kB v) 0 rfl (kB_bytes u) (kB_bytes v)
  rw [kV_kB u hu0 hu1, kV_kB v hv0 hv1] at this
  exact this
end Go.Proofs.Ytchanabiobcbhaa.Oct
