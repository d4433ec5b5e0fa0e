/- octet.Int, TakeInt and their references, as the plain laws. -/
import Derived.Test.YtchanabiobcbhaaNb
import Derived.Test.YtchanabiobcbhaaNc
import Derived.Test.YtchanabiobcbhaaQx17
import Derived.Test.YtchanabiobcbhaaQx16
import Derived.Test.YtchanabiobcbhaaQx21
import Derived.Test.YtchanabiobcbhaaQx19
namespace Go.Proofs.Ytchanabiobcbhaa.Oct
open Go Go.RowKit Go.Proofs.YtchanabiobcbhaaW.PrintWords Go.Proofs.YtchanabiobcbhaaW.PrintMore Go.Proofs.Ytchanabiobcbhaa.Q
set_option linter.unusedVariables false

/-- the number that may be below 0 at a place -/
def TI (b : List Int) (p : Int) : Int × Int × Int := (unfold' (TU b p).1, (TU b p).2.1, (TU b p).2.2)

theorem Int_f (n : Int) (k : Nat) (h0 : -9223372036854775808 ≤ n) (h1 : n ≤ 9223372036854775807) (hk : 20 ≤ k) : octet_Int.f k n = some (uB 9 (fold n)) := by
  unfold octet_Int.f
  have := fold_range h0 h1
  rw [xor_fold n h0 h1, Uint_f _ k this.1 this.2 hk]
  rfl
theorem refFold_f (n : Int) (h0 : -9223372036854775808 ≤ n) (h1 : n ≤ 9223372036854775807) : grapevineref02_Fold.f n = some (fold n) := by
  unfold grapevineref02_Fold.f fold
  by_cases h : n ≥ 0
  · rw [if_pos h, if_pos h, u64w_id (x := n) (by omega) (by omega), u64w_id (x := 2 * n) (by omega) (by omega)]
  · rw [if_neg h, if_neg h, w64_id (x := n + 1) (by omega) (by omega), w64_id (x := -(n + 1)) (by omega) (by omega), u64w_id (x := -(n + 1)) (by omega) (by omega), u64w_id (x := 2 * -(n + 1)) (by omega) (by omega), u64w_id (x := 2 * -(n + 1) + 1) (by omega) (by omega)]
    congr 1; omega
theorem refInt_f (n : Int) (k : Nat) (h0 : -9223372036854775808 ≤ n) (h1 : n ≤ 9223372036854775807) (hk : 20 ≤ k) : grapevineref02_Int.f k n = some (uB 9 (fold n)) := by
  unfold grapevineref02_Int.f
  have := fold_range h0 h1
  rw [refFold_f n h0 h1]
  simp only [Option.bind_some]
  rw [refUint_f _ k this.1 this.2 hk]
  rfl
theorem TakeInt_f (b : List Int) (hb : Bs b) (hl : b.length ≤ 140737488355328) (p : Int) (k : Nat) (hk : 30 ≤ k) : octet_TakeInt.f k b p = some (TI b p) := by
  unfold octet_TakeInt.f TI
  rw [TakeUint_f b hb hl p k hk]
  simp only [Option.bind_some]
  have := TU_range b hb p
  rw [xor_unfold _ this.1 this.2.1]
theorem refTakeInt_f (b : List Int) (hb : Bs b) (hl : b.length ≤ 140737488355328) (p : Int) (k : Nat) (hk : 30 ≤ k) : grapevineref02_TakeInt.f k b p = some (TI b p) := by
  unfold grapevineref02_TakeInt.f TI
  rw [refTakeUint_f b hb hl p k hk]
  simp only [Option.bind_some]
  obtain ⟨r1, r2, r3, r4, r5, r6⟩ := TU_range b hb p
  generalize TU b p = t at *
  have e1 : Int.tdiv t.1 2 = t.1 / 2 := Int.tdiv_eq_ediv_of_nonneg r1
  have e2 : Int.tmod t.1 2 = t.1 % 2 := Int.tmod_eq_emod_of_nonneg r1
  by_cases h : t.2.2 = 0
  · rw [if_pos h, e1, e2, h]
    unfold unfold'
    rw [u64w_id (x := t.1 / 2) (by omega) (by omega), w64_id (x := t.1 / 2) (by omega) (by omega), w64_id (x := -(t.1 / 2)) (by omega) (by omega), w64_id (x := -(t.1 / 2) - 1) (by omega) (by omega)]
    by_cases h2 : t.1 % 2 = 0
    · rw [if_pos h2, if_pos h2]
    · rw [if_neg h2, if_neg h2]
  · rw [if_neg h]
    obtain ⟨z1, z2⟩ := r5 h
    rw [z1, z2]; rfl
end Go.Proofs.Ytchanabiobcbhaa.Oct
