/- A slice of structs of a string and a whole number that came in, read as a list. -/
import Derived.Test.YthcfjkbegadpjaaRows
import Derived.Test.YthcfjkbegadpjaaQx0
import Derived.Deep.SlicePairs
import Derived.ChangeArms
namespace Go.Proofs.Ythcfjkbegadpjaa.Rd
open Go Go.RowKit Go.ChangeShapes Go.WideShapes Go.Deep Go.Proofs.YthcfjkbegadpjaaW.PrintWords Go.Proofs.YthcfjkbegadpjaaW.PrintMore Go.Proofs.Ythcfjkbegadpjaa.Q
set_option linter.unusedVariables false
section
variable {H : Type} {enc : TypeId × Value → H} {P : Program} {w : World} {base : Nat} {spare : Nat → Bool} {held : Bool} {n : Nat}
theorem read_fields {t e : TypeId} {f0 f1 : Field} {v : Value} {y : DataW H × List MemPlace} (ht : P.underlying t = some (.slice e)) (he : P.underlying e = some (.struct #[f0, f1]))
    (ce : P.cellsOf e = 2) (o0 : f0.offset = 0) (o1 : f1.offset = 1) (c0 : P.cellsOf f0.type = 1) (c1 : P.cellsOf f1.type = 1) (hs : P.underlying f0.type = some .string) (hk : P.underlying f1.type = some (.int .i64))
    (h : DataW.trod enc P w base spare held n t [v] = some y) :
    ∃ (a : Option Addr) (cap : Nat) (l : List S48), v = .slice a l.length cap ∧ k48.C w a l.length l ∧ l.length ≤ cap := by
  rcases open_slice_pairs ht he ce o0 o1 c0 c1 h with ⟨hcs, rfl⟩ | ⟨a, len, cap, m, q, V0, V1, D0, D1, P0, P1, hcs, _, hl, hm, hmm, rfl, hx⟩
  · simp at hcs
    subst hcs
    exact ⟨none, 0, [], rfl, Kd.C_nil _ _, by simp⟩
  · simp at hcs
    subst hcs
    have hlm : len ≤ m := by rw [hmm]; split <;> omega
    have each : ∀ i : Nat, ∃ x : S48, i < m → w.cell? (a.add (i * 2)) = some (.string x.f0) ∧ w.cell? (a.add (i * 2 + 1)) = some (.int .i64 x.f1) := by
      intro i
      by_cases hi : i < m
      · obtain ⟨g0, g1, g2, g3⟩ := hx i hi
        obtain ⟨s, e0, _, _⟩ := DataW.trod_string hs g2
        obtain ⟨z, e1, _, _⟩ := DataW.trod_int hk g3
        simp at e0 e1
        exact ⟨⟨s, z⟩, fun _ => ⟨by rw [g0, e0], by rw [g1, e1]⟩⟩
      · exact ⟨z48, fun h => absurd h hi⟩
    have hch := Classical.axiomOfChoice each
    obtain ⟨X, hX⟩ := hch
    have hlen : ((List.range len).map X).length = len := by simp
    refine ⟨some a, cap, (List.range len).map X, by rw [hlen], ?_, by rw [hlen]; exact hl⟩
    rw [hlen]
    refine ⟨hlen, by unfold maxLen at hm; omega, fun _ => ⟨a, rfl, fun j p hj => ?_⟩⟩
    rw [List.getElem?_map] at hj
    obtain ⟨r, hr0, rfl⟩ := Option.map_eq_some_iff.1 hj
    obtain ⟨hjl, hrj⟩ := List.getElem?_eq_some_iff.1 hr0
    rw [List.length_range] at hjl
    rw [List.getElem_range] at hrj
    subst hrj
    obtain ⟨h1, h2⟩ := hX j (by omega)
    refine ⟨[.string (X j).f0, .int .i64 (X j).f1], rfl, k48_mk w (X j), fun i u hu => ?_⟩
    cases i with
    | zero =>
      simp only [List.getElem?_cons_zero, Option.some.injEq] at hu
      subst hu
      exact h1
    | succ i =>
      cases i with
      | zero =>
        simp only [List.getElem?_cons_succ, List.getElem?_cons_zero, Option.some.injEq] at hu
        subst hu
        exact h2
      | succ i => simp at hu
end
end Go.Proofs.Ythcfjkbegadpjaa.Rd
