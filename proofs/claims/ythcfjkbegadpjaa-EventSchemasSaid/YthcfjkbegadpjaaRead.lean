/- What comes in, read as lists: bytes, rows of bytes; and what a reading's bulk says of their lengths. -/
import Derived.Test.YthcfjkbegadpjaaRows
import Derived.Test.YthcfjkbegadpjaaWWords
import Derived.Test.YthcfjkbegadpjaaWMore
import Derived.ChangeSlices
import Derived.Deep.Matrix
import Derived.Lib.SmallJoins
namespace Go.Proofs.Ythcfjkbegadpjaa.Rd
open Go Go.RowKit Go.ChangeShapes Go.WideShapes Go.Deep Go.Proofs.YthcfjkbegadpjaaW.PrintWords Go.Proofs.YthcfjkbegadpjaaW.PrintMore
set_option linter.unusedVariables false
section
variable {H : Type} {enc : TypeId × Value → H} {P : Program} {w : World} {base : Nat} {spare : Nat → Bool} {held : Bool} {n : Nat}

theorem read_ints {t e : TypeId} {k : IntKind} {v : Value} {y : DataW H × List MemPlace} (ht : P.underlying t = some (.slice e)) (he : P.underlying e = some (.int k)) (hc : P.cellsOf e = 1)
    (h : DataW.trod enc P w base spare held n t [v] = some y) :
    ∃ (a : Option Addr) (cap : Nat) (l : List Int), v = .slice a l.length cap ∧ (Kd.int k).C w a l.length l ∧ l.length ≤ cap ∧ l.length ≤ maxLen ∧ (∀ x ∈ l, (Lit.int k x).wf = true) ∧
      (y.1 = .nil ∧ l = [] ∨ ∃ sp, y.1 = .slice (lits k l) sp) := by
  rcases open_ints ht he hc h with ⟨hcs, rfl⟩ | ⟨a, len, cap, zs, hcs, _, hl, hm, hz, rfl, hcell, hwz⟩
  · simp at hcs
    subst hcs
    exact ⟨none, 0, [], rfl, Kd.C_nil _ _, by simp, by simp, by simp, .inl ⟨rfl, rfl⟩⟩
  · simp at hcs
    subst hcs
    have hlen : len ≤ zs.length := by rw [hz]; split <;> omega
    have hmm : len ≤ maxLen := Nat.le_trans hl hm
    refine ⟨some a, cap, zs.take len, ?_, ?_, ?_, ?_, ?_, .inr ⟨_, rfl⟩⟩
    · simp [List.length_take, Nat.min_eq_left hlen]
    · refine Kd.C_of_reads (d := (0 : Int)) (h1 := fun _ => rfl) ?_
      refine ⟨rfl, ?_, fun hn => ⟨a, rfl, fun j hj => ?_⟩⟩
      · rw [List.length_take, Nat.min_eq_left hlen]; unfold maxLen at hmm; omega
      · rw [List.length_take, Nat.min_eq_left hlen] at hj
        rw [hcell j (by omega)]
        simp [List.getD_eq_getElem?_getD, hj]
    · rw [List.length_take]; omega
    · rw [List.length_take]; omega
    · intro x hx; exact hwz x (List.mem_of_mem_take hx)

/-- a datum that reads as whole numbers -/
def IntsOf (k : IntKind) (d : DataW H) (z : List Int) : Prop := d = .nil ∧ z = [] ∨ ∃ sp, d = .slice (lits k z) sp
def RowsAll (k : IntKind) : List (DataW H) → List (List Int) → Prop
  | [], [] => True
  | d :: ds, z :: zs => IntsOf k d z ∧ RowsAll k ds zs
  | _, _ => False
theorem rowsAll_map {k : IntKind} (f : Nat → DataW H) (g : Nat → List Int) : ∀ rs : List Nat, (∀ r ∈ rs, IntsOf k (f r) (g r)) → RowsAll k (rs.map f) (rs.map g) := by
  intro rs
  induction rs with
  | nil => intro _; trivial
  | cons r rs ih => intro h; exact ⟨h r (by simp), ih fun q hq => h q (by simp [hq])⟩
theorem read_rows {t e q : TypeId} {v : Value} {y : DataW H × List MemPlace} (ht : P.underlying t = some (.slice e)) (he : P.underlying e = some (.slice q)) (hq : P.underlying q = some (.int .u8)) (ce : P.cellsOf e = 1) (cq : P.cellsOf q = 1)
    (h : DataW.trod enc P w base (fun _ => true) held n t [v] = some y) :
    ∃ (a : Option Addr) (cap : Nat) (l : List (List Int)), v = .slice a l.length cap ∧ (Kd.slice q (Kd.int .u8)).C w a l.length l ∧ l.length ≤ cap ∧ l.length ≤ maxLen ∧ (∀ z ∈ l, ∀ x ∈ z, (Lit.int .u8 x).wf = true) ∧
      (y.1 = .nil ∧ l = [] ∨ ∃ elems sp, y.1 = .slice elems sp ∧ RowsAll .u8 elems l) := by
  rcases open_int_rows ht he hq ce cq h with ⟨hcs, rfl⟩ | ⟨a, len, cap, A, L, C, Z, hcs, _, hl, hm, rfl, hr⟩
  · simp at hcs
    subst hcs
    exact ⟨none, 0, [], rfl, Kd.C_nil _ _, by simp, by simp, by simp, .inl ⟨rfl, rfl⟩⟩
  · simp at hcs
    subst hcs
    have hmm : len ≤ maxLen := Nat.le_trans hl hm
    have hlen : ((List.range len).map fun r => (Z r).take (L r)).length = len := by simp
    have htk : ∀ r, r < cap → ((Z r).take (L r)).length = L r := by
      intro r hrc
      obtain ⟨_, h2, _, h4, _, _, _⟩ := hr r hrc
      rw [List.length_take, h4]; omega
    refine ⟨some a, cap, (List.range len).map fun r => (Z r).take (L r), by rw [hlen], ?_, by rw [hlen]; exact hl, by rw [hlen]; exact hmm, ?_, .inr ⟨_, _, rfl, ?_⟩⟩
    · rw [hlen]
      refine ⟨hlen, by unfold maxLen at hmm; omega, fun _ => ⟨a, rfl, fun j p hj => ?_⟩⟩
      rw [List.getElem?_map] at hj
      obtain ⟨r, hr0, rfl⟩ := Option.map_eq_some_iff.1 hj
      obtain ⟨hjl, hrj⟩ := List.getElem?_eq_some_iff.1 hr0
      rw [List.length_range] at hjl
      rw [List.getElem_range] at hrj
      subst hrj
      obtain ⟨h1, h2, h3, h4, h5, h6, h7⟩ := hr j (by omega)
      refine ⟨[.slice (A j) (L j) (C j)], rfl, ⟨A j, C j, by rw [htk j (by omega)], by rw [htk j (by omega)]; exact h2, ?_⟩, fun i u hu => ?_⟩
      · rw [htk j (by omega)]
        refine Kd.C_of_reads (d := (0 : Int)) (h1 := fun _ => rfl) ?_
        refine ⟨htk j (by omega), by unfold maxLen at h3; omega, fun hn => ?_⟩
        cases hA : A j with
        | none => have := h6 hA; omega
        | some a' =>
          refine ⟨a', rfl, fun c hc => ?_⟩
          rw [(h7 a' hA).2 c (by omega)]
          simp [List.getD_eq_getElem?_getD, hc]
      · cases i with
        | zero =>
          simp only [List.getElem?_cons_zero, Option.some.injEq] at hu
          subst hu
          show w.cell? (a.add (j * 1 + 0)) = _
          rw [Nat.mul_one, Nat.add_zero]
          exact h1
        | succ i => simp at hu
    · intro z hz x hx
      obtain ⟨r, hr0, rfl⟩ := List.mem_map.1 hz
      have := List.mem_range.1 hr0
      exact (hr r (by omega)).2.2.2.2.1 x (List.mem_of_mem_take hx)
    · refine rowsAll_map _ _ _ fun r hr0 => ?_
      have := List.mem_range.1 hr0
      obtain ⟨h1, h2, h3, h4, h5, h6, h7⟩ := hr r (by omega)
      unfold intRow
      cases hA : A r with
      | none =>
        have := h6 hA
        exact .inl ⟨rfl, by rw [show L r = 0 from by omega, List.take_zero]⟩
      | some a' => exact .inr ⟨_, rfl⟩
theorem rowsAll_length {k : IntKind} : ∀ (ds : List (DataW H)) (l : List (List Int)), RowsAll k ds l → ds.length = l.length := by
  intro ds
  induction ds with
  | nil => intro l h; cases l with
    | nil => rfl
    | cons z l => exact h.elim
  | cons d ds ih => intro l h; cases l with
    | nil => exact h.elim
    | cons z l => simp [ih l h.2]
/-- no row is longer than its weight allows -/
theorem rowsAll_sized {k : IntKind} {e q : TypeId} (he : P.underlying e = some (.slice q)) (hb : P.bytesOf q = 1) : ∀ (ds : List (DataW H)) (l : List (List Int)), RowsAll k ds l → (∀ m ∈ DataW.weightsAll P e ds, m ≤ reachBytes) → ∀ z ∈ l, z.length ≤ reachBytes := by
  intro ds
  induction ds with
  | nil => intro l h _ z hz; cases l with
    | nil => simp at hz
    | cons _ _ => exact h.elim
  | cons d ds ih => intro l h hw z hz; cases l with
    | nil => exact h.elim
    | cons z0 l =>
      rcases List.mem_cons.1 hz with rfl | hz
      · rcases h.1 with ⟨_, rfl⟩ | ⟨sp, rfl⟩
        · simp
        · have := hw (((lits (H := H) k z).length + sp.length) * 1) (by simp [DataW.weightsAll, DataW.weights, he, hb])
          have e1 : (lits (H := H) k z).length = z.length := by simp [lits]
          rw [e1] at this
          omega
      · exact ih l h.2 (fun m hm => hw m (by simp [DataW.weightsAll, hm])) z hz
theorem lits_length {k : IntKind} (l : List Int) : (lits (H := H) k l).length = l.length := by simp [lits]
end
/-! ### what a bulk says -/
theorem one_le {H : Type} (d : DataW H) : 1 ≤ Rows.uptoBulk d := by
  cases d with
  | lit l => cases l <;> simp [Rows.uptoBulk]
  | nil => simp [Rows.uptoBulk]
  | ptr d => simp [Rows.uptoBulk]
  | slice elems spare => simp [Rows.uptoBulk]
  | agg parts => simp [Rows.uptoBulk]
  | iface t d => simp [Rows.uptoBulk]
  | map entries => simp [Rows.uptoBulk]
  | held h => simp [Rows.uptoBulk]
theorem length_le {H : Type} (l : List (DataW H)) : l.length ≤ Rows.uptoBulkAll l := by
  induction l with
  | nil => simp [Rows.uptoBulkAll]
  | cons x r ih => have := one_le x; simp only [Rows.uptoBulkAll, List.length_cons]; omega
theorem slice_le {H : Type} (elems spare : List (DataW H)) : elems.length + spare.length + 1 ≤ Rows.uptoBulk (.slice elems spare) := by
  have h1 := length_le elems
  have h2 := length_le spare
  simp only [Rows.uptoBulk]
  omega
theorem bulk_ints {H : Type} {k : IntKind} {l : List Int} {d : DataW H} (h : d = .nil ∧ l = [] ∨ ∃ sp, d = .slice (lits k l) sp) : l.length ≤ Rows.uptoBulk d := by
  rcases h with ⟨rfl, rfl⟩ | ⟨sp, rfl⟩
  · simp
  · have := slice_le (lits (H := H) k l) sp
    rw [lits_length] at this
    omega
theorem bulk_str {H : Type} (s : ByteArray) : Rows.uptoBulk (DataW.lit (H := H) (.string s.data.toList)) = s.size + 1 := by
  have e : s.data.toList.length = s.size := by rw [Array.length_toList]; rfl
  simp [Rows.uptoBulk, e]
theorem bulk_rowsAll {H : Type} {k : IntKind} : ∀ (ds : List (DataW H)) (l : List (List Int)), RowsAll k ds l → l.flatten.length + l.length ≤ Rows.uptoBulkAll ds := by
  intro ds
  induction ds with
  | nil => intro l h; cases l with
    | nil => simp
    | cons _ _ => exact h.elim
  | cons d ds ih => intro l h; cases l with
    | nil => exact h.elim
    | cons z l =>
      have h1 := ih l h.2
      have h3 : z.length + 1 ≤ Rows.uptoBulk d := by
        rcases h.1 with ⟨rfl, rfl⟩ | ⟨sp, rfl⟩
        · exact one_le _
        · have h2 := slice_le (lits (H := H) k z) sp
          rw [lits_length] at h2
          omega
      have e1 : Rows.uptoBulkAll (d :: ds) = Rows.uptoBulk d + Rows.uptoBulkAll ds := by simp [Rows.uptoBulkAll]
      rw [e1, List.flatten_cons, List.length_append, List.length_cons]
      omega
theorem bulk_rows {H : Type} {k : IntKind} {l : List (List Int)} {d : DataW H} (h : d = .nil ∧ l = [] ∨ ∃ elems sp, d = .slice elems sp ∧ RowsAll k elems l) : l.flatten.length + l.length ≤ Rows.uptoBulk d := by
  rcases h with ⟨rfl, rfl⟩ | ⟨elems, sp, rfl, hr⟩
  · simp
  · have := bulk_rowsAll elems l hr
    simp only [Rows.uptoBulk]
    omega
theorem bulk_agg2 {H : Type} (a b : DataW H) : Rows.uptoBulk (.agg [a, b]) = Rows.uptoBulk a + Rows.uptoBulk b + 1 := by
  simp [Rows.uptoBulk, Rows.uptoBulkAll]
end Go.Proofs.Ythcfjkbegadpjaa.Rd
