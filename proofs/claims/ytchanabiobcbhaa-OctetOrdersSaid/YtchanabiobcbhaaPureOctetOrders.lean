/- Of two numbers the lesser one has the lesser key, and a greater number has not fewer bytes: for every four numbers. -/
import Derived.Test.YtchanabiobcbhaaQx40
import Derived.Test.YtchanabiobcbhaaNk
import Derived.Test.YtchanabiobcbhaaNb
namespace Go.Proofs.Ytchanabiobcbhaa.Pure
open Go Go.RowKit Go.Proofs.Ytchanabiobcbhaa.Q Go.Proofs.Ytchanabiobcbhaa.Oct Go.Proofs.YtchanabiobcbhaaW.PrintWords
theorem OctetOrders (a b u v : Int) (ha : (Lit.int .i64 a).wf = true) (hb : (Lit.int .i64 b).wf = true) (hu : (Lit.int .u64 u).wf = true) (hv : (Lit.int .u64 v).wf = true) :
    ∃ k, grapevinelaw02_OctetOrders.f k a b u v = some true := by
  obtain ⟨k, hk⟩ : ∃ k : Nat, 100 ≤ k := ⟨_, Nat.le_refl _⟩
  refine ⟨k, ?_⟩
  have ha' := wf_i64 ha
  have hb' := wf_i64 hb
  have hu' := wf_u64 hu
  have hv' := wf_u64 hv
  unfold grapevinelaw02_OctetOrders.f
  rw [Key_f a k ha'.1 ha'.2 (by omega), Key_f b k hb'.1 hb'.2 (by omega), Uint_f u k hu'.1 hu'.2 (by omega), Uint_f v k hv'.1 hv'.2 (by omega)]
  simp only [Option.bind_some]
  obtain ⟨e1, e2⟩ := kB_less (a + 9223372036854775808) (b + 9223372036854775808) (by omega) (by omega) (by omega) (by omega)
  rw [e1, e2, strOfNums_size, kB_len]
  have c1 : decide (a < b) = decide (a + 9223372036854775808 < b + 9223372036854775808) := by
    congr 1
    exact propext ⟨fun h => by omega, fun h => by omega⟩
  have c2 : (a == b) = decide (a + 9223372036854775808 = b + 9223372036854775808) := by
    by_cases h : a = b
    · subst h; simp
    · have : ¬ (a + 9223372036854775808 = b + 9223372036854775808) := by omega
      simp [h, this]
  rw [← c1, ← c2]
  simp only [beq_self_eq_true, if_true]
  by_cases h : u > v
  · rw [if_pos h]; rfl
  · rw [if_neg h, if_pos (by have := uB_mono 9 u v hu'.1 (by omega) (by rw [pow128]; omega); omega)]; rfl
end Go.Proofs.Ytchanabiobcbhaa.Pure
