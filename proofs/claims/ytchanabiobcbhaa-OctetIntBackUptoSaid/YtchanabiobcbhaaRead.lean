/- What comes in, read as lists: bytes, rows of bytes; and what a reading's bulk says of their lengths. -/
import Derived.Test.YtchanabiobcbhaaRows
import Derived.Test.YtchanabiobcbhaaWWords
import Derived.Test.YtchanabiobcbhaaWMore
import Derived.ChangeSlices
import Derived.Deep.Matrix
import Derived.Lib.SmallJoins
namespace Go.Proofs.Ytchanabiobcbhaa.Rd
open Go Go.RowKit Go.ChangeShapes Go.WideShapes Go.Deep Go.Proofs.YtchanabiobcbhaaW.PrintWords Go.Proofs.YtchanabiobcbhaaW.PrintMore
set_option linter.unusedVariables false
section
variable {H : Type} {enc : TypeId × Value → H} {P : Program} {w : World} {base : Nat} {spare : Nat → Bool} {held : Bool} {n : Nat}

theorem read_ints {t e : TypeId} {k : IntKind} {v : Value} {y : DataW H × List MemPlace} (ht : P.underlying t = some (.slice e)) (he : P.underlying e = some (.int k)) (hc : P.cellsOf e = 1)
    (h : DataW.trod enc P w base spare held n t [v] = some y) :
    ∃ (a : Option Addr) (cap : Nat) (l : List Int), v = .slice a l.length cap ∧ (Kd.int k).C w a l.length l ∧ l.length ≤ cap ∧ l.length ≤ maxLen ∧ (∀ x ∈ l, (Lit.int k x).wf = true) ∧
      (y.1 = .nil ∧ l = [] ∨ ∃ sp, y.1 = .slice (lits k l) sp) := by
  rcases open_ints ht he hc h with ⟨hcs, rfl⟩ | ⟨a, len, cap, zs, hcs, _, hl, hm, hz, rfl, hcell, hwz⟩
  · simp at hcs
    subst hcs
    exact ⟨none, 0, [], rfl, Kd.C_nil _ _, by simp, by simp, by simp, .inl ⟨rfl, rfl⟩⟩
  · simp at hcs
    subst hcs
    have hlen : len ≤ zs.length := by rw [hz]; split <;> omega
    have hmm : len ≤ maxLen := Nat.le_trans hl hm
    refine ⟨some a, cap, zs.take len, ?_, ?_, ?_, ?_, ?_, .inr ⟨_, rfl⟩⟩
    · simp [List.length_take, Nat.min_eq_left hlen]
    · refine Kd.C_of_reads (d := (0 : Int)) (h1 := fun _ => rfl) ?_
      refine ⟨rfl, ?_, fun hn => ⟨a, rfl, fun j hj => ?_⟩⟩
      · rw [List.length_take, Nat.min_eq_left hlen]; unfold maxLen at hmm; omega
      · rw [List.length_take, Nat.min_eq_left hlen] at hj
        rw [hcell j (by omega)]
        simp [List.getD_eq_getElem?_getD, hj]
    · rw [List.length_take]; omega
    · rw [List.length_take]; omega
    · intro x hx; exact hwz x (List.mem_of_mem_take hx)

theorem lits_length {k : IntKind} (l : List Int) : (lits (H := H) k l).length = l.length := by simp [lits]
end
/-! ### what a bulk says -/
theorem one_le {H : Type} (d : DataW H) : 1 ≤ Rows.uptoBulk d := by
  cases d with
  | lit l => cases l <;> simp [Rows.uptoBulk]
  | nil => simp [Rows.uptoBulk]
  | ptr d => simp [Rows.uptoBulk]
  | slice elems spare => simp [Rows.uptoBulk]
  | agg parts => simp [Rows.uptoBulk]
  | iface t d => simp [Rows.uptoBulk]
  | map entries => simp [Rows.uptoBulk]
  | held h => simp [Rows.uptoBulk]
theorem length_le {H : Type} (l : List (DataW H)) : l.length ≤ Rows.uptoBulkAll l := by
  induction l with
  | nil => simp [Rows.uptoBulkAll]
  | cons x r ih => have := one_le x; simp only [Rows.uptoBulkAll, List.length_cons]; omega
theorem slice_le {H : Type} (elems spare : List (DataW H)) : elems.length + spare.length + 1 ≤ Rows.uptoBulk (.slice elems spare) := by
  have h1 := length_le elems
  have h2 := length_le spare
  simp only [Rows.uptoBulk]
  omega
theorem bulk_ints {H : Type} {k : IntKind} {l : List Int} {d : DataW H} (h : d = .nil ∧ l = [] ∨ ∃ sp, d = .slice (lits k l) sp) : l.length ≤ Rows.uptoBulk d := by
  rcases h with ⟨rfl, rfl⟩ | ⟨sp, rfl⟩
  · simp
  · have := slice_le (lits (H := H) k l) sp
    rw [lits_length] at this
    omega
theorem bulk_agg2 {H : Type} (a b : DataW H) : Rows.uptoBulk (.agg [a, b]) = Rows.uptoBulk a + Rows.uptoBulk b + 1 := by
  simp [Rows.uptoBulk, Rows.uptoBulkAll]
end Go.Proofs.Ytchanabiobcbhaa.Rd
