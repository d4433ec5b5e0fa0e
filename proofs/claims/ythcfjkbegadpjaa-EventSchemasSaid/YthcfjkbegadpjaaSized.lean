/- What a reading's weights say of the lengths: bytes, rows of bytes, a struct of rows and a number. -/
import Derived.Test.YthcfjkbegadpjaaRead
import Derived.SizedLaws
namespace Go.Proofs.Ythcfjkbegadpjaa.Rd
open Go Go.RowKit Go.ChangeShapes Go.WideShapes Go.Deep Go.Proofs.YthcfjkbegadpjaaW.PrintWords Go.Proofs.YthcfjkbegadpjaaW.PrintMore
set_option linter.unusedVariables false
section
variable {H : Type} {P : Program} {ts : List TypeId} {ds : List (DataW H)}
theorem w_bytes {k : IntKind} {t e : TypeId} {d : DataW H} {l : List Int} (h : ∀ m ∈ d.weights P t, m ≤ reachBytes) (hu : P.underlying t = some (.slice e)) (hb : P.bytesOf e = 1)
    (s : d = .nil ∧ l = [] ∨ ∃ sp, d = .slice (lits k l) sp) : l.length ≤ 140737488351232 := by
  rcases s with ⟨rfl, rfl⟩ | ⟨sp, rfl⟩
  · simp
  · have := h (((lits (H := H) k l).length + sp.length) * 1) (by simp [DataW.weights, hu, hb])
    rw [lits_length] at this
    unfold reachBytes at this
    omega
theorem w_rows {t e q : TypeId} {d : DataW H} {l : List (List Int)} (h : ∀ m ∈ d.weights P t, m ≤ reachBytes) (hu : P.underlying t = some (.slice e)) (hb : P.bytesOf e = 24) (he : P.underlying e = some (.slice q)) (hq : P.bytesOf q = 1)
    (s : d = .nil ∧ l = [] ∨ ∃ elems sp, d = .slice elems sp ∧ RowsAll .u8 elems l) : l.length ≤ 5864062014634 ∧ ∀ z ∈ l, z.length ≤ 140737488351232 := by
  rcases s with ⟨rfl, rfl⟩ | ⟨elems, sp, rfl, hr⟩
  · simp
  · have h1 := h ((elems.length + sp.length) * 24) (by simp [DataW.weights, hu, hb])
    have h2 := rowsAll_length elems l hr
    unfold reachBytes at h1
    refine ⟨by omega, fun z hz => ?_⟩
    have := rowsAll_sized he hq elems l hr (fun m hm => h m (by simp [DataW.weights, hu, hm])) z hz
    unfold reachBytes at this
    omega
theorem w_of (h : (DataW.weightsEach P ts ds).all (· ≤ reachBytes) = true) {j : Nat} {t : TypeId} {d : DataW H} (ht : ts[j]? = some t) (hd : ds[j]? = some d) : ∀ m ∈ d.weights P t, m ≤ reachBytes := by
  intro m hm
  have := List.all_eq_true.1 h _ (DataW.weights_mem_each ht hd m hm)
  simpa using this
theorem w_first {t : TypeId} {f0 f1 : Field} {d0 d1 : DataW H} (hs : P.underlying t = some (.struct #[f0, f1])) (h : ∀ m ∈ (DataW.agg [d0, d1]).weights P t, m ≤ reachBytes) : ∀ m ∈ d0.weights P f0.type, m ≤ reachBytes := by
  intro m hm
  exact h m (by simp [DataW.weights, hs, DataW.weightsEach, hm])
end
section
variable {H : Type} {enc : TypeId × Value → H} {P : Program} {w : World} {base : Nat} {spare : Nat → Bool} {held : Bool} {n : Nat}
theorem read_int {t : TypeId} {k : IntKind} {v : Value} {y : DataW H × List MemPlace} (ht : P.underlying t = some (.int k)) (h : DataW.trod enc P w base spare held n t [v] = some y) :
    ∃ x, v = .int k x ∧ y = (.lit (.int k x), []) ∧ (Lit.int k x).wf = true := by
  obtain ⟨n', h2, hx, hw⟩ := DataW.trod_int ht h
  simp at h2
  exact ⟨n', h2, hx, hw⟩
end
end Go.Proofs.Ythcfjkbegadpjaa.Rd
