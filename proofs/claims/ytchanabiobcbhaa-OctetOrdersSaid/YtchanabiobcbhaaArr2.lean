/- An array of two whole numbers that comes in: opened, and shut. -/
import Derived.Test.YtchanabiobcbhaaRead
import Derived.OpenShut
namespace Go.Proofs.Ytchanabiobcbhaa.Rd
open Go Go.RowKit Go.ChangeShapes Go.WideShapes
variable {H : Type} {enc : TypeId × Value → H} {P : Program} {w : World} {base b0 : Nat} {spare : Nat → Bool} {held : Bool}
theorem open_arr2 {r : Reach} {t e : TypeId} {k : IntKind} {v : Value} {d : DataW H} {p : List MemPlace} (hs : P.underlying t = some (.array 2 e)) (he : P.underlying e = some (.int k)) (hce : P.cellsOf e = 1) (hC : P.cellsOf t = 2)
    (hv : Value.okWide P w r b0 t v) (h : DataW.Trod enc P w base spare held t v d p) :
    ∃ x y, v = .agg #[.int k x, .int k y] ∧ d = .agg [.lit (.int k x), .lit (.int k y)] ∧ p = [] ∧ (Lit.int k x).wf = true ∧ (Lit.int k y).wf = true := by
  have hv' := hv
  simp only [Value.okWide, hs] at hv'
  obtain ⟨cs, rfl, hsz, _⟩ := hv'
  obtain ⟨c0, c1, rfl⟩ : ∃ c0 c1, cs = #[c0, c1] := by
    rw [hC] at hsz
    match cs, hsz with
    | ⟨[x, y]⟩, _ => exact ⟨x, y, rfl⟩
  obtain ⟨fuel, hf⟩ := h
  obtain ⟨xs, m, _, hx, _, hl, hg⟩ := DataW.trod_array hs hf
  have h0 := hg 0 (by omega)
  have h1 := hg 1 (by omega)
  rw [hce] at h0 h1
  match xs, hl with
  | [y0, y1], _ =>
    simp [Value.cells] at h0 h1
    obtain ⟨n0, e0, x0, w0⟩ := DataW.trod_int he h0
    obtain ⟨n1, e1, x1, w1⟩ := DataW.trod_int he h1
    simp at e0 e1
    subst e0
    subst e1
    subst x0
    subst x1
    simp only [Prod.mk.injEq] at hx
    exact ⟨n0, n1, rfl, hx.1, hx.2, w0, w1⟩
theorem shut_arr2 {t e : TypeId} {k : IntKind} {x y : Int} (hs : P.underlying t = some (.array 2 e)) (he : P.underlying e = some (.int k)) (hce : P.cellsOf e = 1) (hC : P.cellsOf t = 2)
    (h0 : (Lit.int k x).wf = true) (h1 : (Lit.int k y).wf = true) : DataW.Trod enc P w base spare held t (.agg #[.int k x, .int k y]) (.agg [.lit (.int k x), .lit (.int k y)]) [] := by
  refine ⟨2, ?_⟩
  have r2 : List.range 2 = [0, 1] := rfl
  have a0 : DataW.trod enc P w base spare held 1 e [.int k x] = some (.lit (.int k x), []) := by simp [DataW.trod, he, h0]
  have a1 : DataW.trod enc P w base spare held 1 e [.int k y] = some (.lit (.int k y), []) := by simp [DataW.trod, he, h1]
  unfold DataW.trod
  rw [hs]
  simp [Value.cells, r2, hce, hC, a0, a1]
end Go.Proofs.Ytchanabiobcbhaa.Rd
