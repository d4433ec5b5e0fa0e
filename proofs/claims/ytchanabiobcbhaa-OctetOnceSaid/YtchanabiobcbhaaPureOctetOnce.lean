/- Bytes that are taken for a number are just its bytes: for every bytes and place. -/
import Derived.Test.YtchanabiobcbhaaQx18
import Derived.Test.YtchanabiobcbhaaNd
namespace Go.Proofs.Ytchanabiobcbhaa.Pure
open Go Go.RowKit Go.Proofs.Ytchanabiobcbhaa.Q Go.Proofs.Ytchanabiobcbhaa.Oct Go.Proofs.YtchanabiobcbhaaW.PrintWords Go.Proofs.YtchanabiobcbhaaW.PrintMore
theorem TU_once (b : List Int) (hb : Bs b) (p : Int) (h : (TU b p).2.2 = 0) : uB 9 (TU b p).1 = (b.take (TU b p).2.1.toNat).drop p.toNat := by
  unfold TU at *
  by_cases h1 : p < 0 ∨ p > (b.length : Int)
  · rw [if_pos h1] at h; simp at h
  · rw [if_neg h1] at h ⊢
    obtain ⟨v, c, e, hr⟩ : ∃ v c e, tk (b.drop p.toNat) 0 0 = (v, c, e) := ⟨_, _, _, rfl⟩
    rw [hr] at h ⊢
    simp only [fin] at h ⊢
    subst h
    obtain ⟨m, rest, e1, e2, e3, _, _, _⟩ := tk_once _ 0 0 v c (hb.drop _) (by omega) hr
    simp only [if_true]
    have e4 : v = m := by rw [e2]; simp
    rw [e4, List.drop_take, e1, show (p + c).toNat - p.toNat = (uB 9 m).length from by rw [e3]; simp; omega]
    simp
theorem OctetOnce : grapevinelaw02_OctetOnce.Pure := by
  intro b p hm hs hbb hp
  obtain ⟨k, hk⟩ : ∃ k : Nat, 100 ≤ k := ⟨_, Nat.le_refl _⟩
  refine ⟨k, ?_⟩
  have hB := Bs.of_wf hbb
  have hl : b.length ≤ 140737488351232 := by omega
  have r := TU_range b hB p
  have o := TU_once b hB p
  have fin300 : ∀ k, 30 ≤ k → ((octet_Uint.f k 300).bind fun t209 => (some ((t209.length : Int) == 2))) = some true := by
    intro k hk
    rw [Uint_f 300 k (by omega) (by omega) (by omega)]
    simp [uB]
  have j0 : ∀ k, 50 ≤ k → grapevinelaw02_OctetOnce.j0 k b p (TU b p).2.2 false = some true := by
    intro k hk
    obtain ⟨k, rfl⟩ : ∃ m, k = m + 1 := ⟨k - 1, by omega⟩
    simp only [grapevinelaw02_OctetOnce.j0]
    rw [if_neg (by decide), TakeInt_f b hB (by omega) p k (by omega)]
    simp only [Option.bind_some, TI]
    by_cases h : (TU b p).2.2 = 0
    · obtain ⟨r1, r2, r3, r4, _, r6⟩ := r
      have r6' := r6 h
      have hf := unfold_range r1 r2
      rw [if_pos h, if_neg (by omega), if_neg (by omega), if_neg (by omega), Int_f _ k hf.1 hf.2 (by omega), fold_unfold _ r1]
      simp only [Option.bind_some]
      rw [if_pos (by omega), if_pos (by omega), if_pos (by omega), if_pos (by rw [o h]), if_pos trivial]
      exact fin300 k (by omega)
    · rw [if_neg h, if_pos trivial]
      exact fin300 k (by omega)
  unfold grapevinelaw02_OctetOnce.f
  rw [TakeUint_f b hB (by omega) p k (by omega)]
  simp only [Option.bind_some]
  by_cases h : (TU b p).2.2 = 0
  · obtain ⟨r1, r2, r3, r4, _, r6⟩ := r
    have r6' := r6 h
    rw [if_pos h, if_neg (by omega), if_neg (by omega), if_neg (by omega), Uint_f _ k r1 r2 (by omega)]
    simp only [Option.bind_some]
    rw [if_pos (by omega), if_pos (by omega), if_pos (by omega), o h]
    simp only [bne_self_eq_false]
    exact j0 k (by omega)
  · rw [if_neg h]
    exact j0 k (by omega)
end Go.Proofs.Ytchanabiobcbhaa.Pure
