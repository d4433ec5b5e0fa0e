/- The reader stays within its text. -/
import Derived.Test.YtmgljgmieomngaaPy
namespace Go.Proofs.Ytmgljgmieomngaa.Pz
open Go Go.RowKit Go.Proofs.YtmgljgmieomngaaW.PrintWords Go.Proofs.YtmgljgmieomngaaW.PrintLast Go.Proofs.YtmgljgmieomngaaW.PrintMore Go.Proofs.Ytmgljgmieomngaa.Q
set_option linter.unusedVariables false
theorem Out.bind_ok {α β : Type} {o : Out α} {f : α → Out β} {b : β} (h : o.bind f = .ok b) : ∃ a, o = .ok a ∧ f a = .ok b := by
  cases o with
  | ok a => exact ⟨a, rfl, h⟩
  | bad p e => simp [Out.bind] at h
def In (s : ByteArray) (t : St) : Prop := 0 ≤ t.p ∧ t.p ≤ (s.size : Int)
theorem scan_bnd (f : Int → Bool) (s : ByteArray) : ∀ (d : Nat) (p : Int), p ≤ (s.size : Int) → p ≤ scan f s d p ∧ scan f s d p ≤ (s.size : Int)
  | 0, p, h => by rw [scan]; omega
  | d + 1, p, h => by
    rw [scan]
    by_cases c : p < (s.size : Int)
    · rw [if_pos c]
      by_cases e : f (bt s p) = true
      · rw [if_pos e]; have := scan_bnd f s d (p + 1) (by omega); omega
      · rw [if_neg e]; omega
    · rw [if_neg c]; omega
theorem digs_in (s : ByteArray) : ∀ (d : Nat) (p u : Int) (b : Bool), p ≤ (s.size : Int) → p ≤ (digs s d p u b).1 ∧ (digs s d p u b).1 ≤ (s.size : Int)
  | 0, p, u, b, h => by rw [digs]; exact ⟨Int.le_refl _, h⟩
  | d + 1, p, u, b, h => by
    rw [digs]
    by_cases c : p < (s.size : Int) ∧ 48 ≤ bt s p ∧ bt s p ≤ 57
    · rw [if_pos c]
      have := digs_in s d (p + 1) (IntKind.u64.wrap (u * 10 + (bt s p - 48))) (b || decide (u > (9223372036854775808 - (bt s p - 48)) / 10)) (by omega)
      omega
    · rw [if_neg c]; exact ⟨Int.le_refl _, h⟩
theorem nameF_in {s : ByteArray} {p : Int} {r : Int × Wd} (h1 : p ≤ (s.size : Int)) (h : nameF s p = .ok r) : p ≤ r.1 ∧ r.1 ≤ (s.size : Int) := by
  unfold nameF at h
  have := scan_bnd isNm s s.size p h1
  simp only at h
  split at h
  · simp at h
  · injection h with h; rw [← h]; exact this
theorem numF_in {s : ByteArray} {p : Int} {r : Int × Wd} (h1 : p < (s.size : Int)) (h : numF s p = .ok r) : p ≤ r.1 ∧ r.1 ≤ (s.size : Int) := by
  unfold numF at h
  simp only at h
  have hf : p ≤ (if (bt s p == 45) = true then p + 1 else p) ∧ (if (bt s p == 45) = true then p + 1 else p) ≤ (s.size : Int) := by split <;> omega
  generalize (if (bt s p == 45) = true then p + 1 else p) = f at h hf
  have := digs_in s s.size f 0 false hf.2
  generalize digs s s.size f 0 false = R at *
  by_cases c1 : R.1 = f ∨ bt s f = 48 ∧ ((bt s p == 45) = true ∨ R.1 > f + 1)
  · rw [if_pos c1] at h; simp at h
  · rw [if_neg c1] at h
    by_cases c2 : R.2.2 = true ∨ (bt s p == 45) = false ∧ R.2.1 = 9223372036854775808
    · rw [if_pos c2] at h; simp at h
    · rw [if_neg c2] at h
      injection h with h
      rw [← h]
      simp only
      omega
theorem strB_in (s : ByteArray) (pl : Int) : ∀ (d : Nat) (p : Int) (out : List Int) (r : Int × List Int), strB s pl d p out = .ok r → p ≤ r.1 ∧ r.1 ≤ (s.size : Int)
  | 0, p, out, r, h => by simp [strB] at h
  | d + 1, p, out, r, h => by
    rw [strB] at h
    split at h
    · simp at h
    · split at h
      · injection h with h; rw [← h]; simp only; omega
      · split at h
        · split at h
          · have := strB_in s pl d _ _ r h; omega
          · split at h
            · have := strB_in s pl d _ _ r h; omega
            · simp at h
        · have := strB_in s pl d _ _ r h; omega
theorem strF_in {s : ByteArray} {p : Int} {r : Int × Wd} (h : strF s p = .ok r) : p ≤ r.1 ∧ r.1 ≤ (s.size : Int) := by
  unfold strF at h
  obtain ⟨a, e1, e2⟩ := Out.bind_ok h
  have := strB_in s p _ _ _ a e1
  split at e2
  · simp at e2
  · injection e2 with e2; rw [← e2]; simp only; omega
theorem markF_in {s : ByteArray} {p c : Int} {r : Int × Wd} (h1 : p < (s.size : Int)) (h : markF s p c = .ok r) : p ≤ r.1 ∧ r.1 ≤ (s.size : Int) := by
  unfold markF at h
  split at h
  · split at h
    · injection h with h; rw [← h]; simp only; omega
    · injection h with h; rw [← h]; simp only; omega
  · split at h
    · injection h with h; rw [← h]; simp only; omega
    · simp at h
theorem nextF_in {s : ByteArray} {p : Int} {t : St} (h0 : 0 ≤ p) (h1 : p ≤ (s.size : Int)) (h : nextF s p = .ok t) : In s t ∧ p ≤ t.p := by
  unfold nextF at h
  have hs := scan_bnd (fun c => c == 32) s s.size p h1
  simp only at h
  generalize scan (fun c => c == 32) s s.size p = q at *
  unfold In
  split at h
  · rename_i hq
    obtain ⟨a, e1, e2⟩ := Out.bind_ok h
    injection e2 with e2
    rw [← e2]
    simp only
    split at e1
    · have := nameF_in (by omega) e1; omega
    · split at e1
      · have := numF_in hq e1; omega
      · split at e1
        · have := strF_in e1; omega
        · have := markF_in hq e1; omega
  · injection h with h
    rw [← h]
    simp only
    omega
theorem isF_in {s : ByteArray} {c : Int} {t t' : St} {b : Bool} (hi : In s t) (h : isF s c t = .ok (b, t')) : In s t' ∧ t.p ≤ t'.p := by
  unfold isF at h
  split at h
  · obtain ⟨a, e1, e2⟩ := Out.bind_ok h
    injection e2 with e2; injection e2 with _ e2; rw [← e2]; exact nextF_in hi.1 hi.2 e1
  · injection h with h; injection h with _ h; rw [← h]; exact ⟨hi, Int.le_refl _⟩
theorem wantF_in {s : ByteArray} {c : Int} {t t' : St} {u : Wd} (hi : In s t) (h : wantF s c t = .ok (u, t')) : In s t' ∧ t.p ≤ t'.p := by
  unfold wantF at h
  split at h
  · obtain ⟨a, e1, e2⟩ := Out.bind_ok h
    injection e2 with e2; injection e2 with _ e2; rw [← e2]; exact nextF_in hi.1 hi.2 e1
  · simp at h
theorem partF_in {s : ByteArray} {t t' : St} {n : Int} (hi : In s t) (h : partF s t = .ok (n, t')) : In s t' ∧ t.p ≤ t'.p := by
  unfold partF at h
  split at h
  · split at h
    · simp at h
    · obtain ⟨a, e1, e2⟩ := Out.bind_ok h
      injection e2 with e2; injection e2 with _ e2; rw [← e2]; exact nextF_in hi.1 hi.2 e1
  · simp at h
theorem pointF_in {s : ByteArray} {t t' : St} {x : S43} (hi : In s t) (h : pointF s t = .ok (x, t')) : In s t' ∧ t.p ≤ t'.p := by
  unfold pointF at h
  obtain ⟨⟨a1, t1⟩, e1, h⟩ := Out.bind_ok h
  obtain ⟨⟨a2, t2⟩, e2, h⟩ := Out.bind_ok h
  obtain ⟨⟨a3, t3⟩, e3, h⟩ := Out.bind_ok h
  obtain ⟨⟨a4, t4⟩, e4, h⟩ := Out.bind_ok h
  obtain ⟨⟨a5, t5⟩, e5, h⟩ := Out.bind_ok h
  injection h with h; injection h with _ h; subst h
  have i1 := wantF_in hi e1
  have i2 := partF_in i1.1 e2
  have i3 := wantF_in i2.1 e3
  have i4 := partF_in i3.1 e4
  have i5 := wantF_in i4.1 e5
  simp only at *
  exact ⟨i5.1, by omega⟩
theorem plainF_in {s : ByteArray} {b : Bool} {t t' : St} {x : S43} (hi : In s t) (h : plainF s b t = .ok (x, t')) : In s t' ∧ t.p ≤ t'.p := by
  unfold plainF at h
  split at h
  · obtain ⟨a, e1, e2⟩ := Out.bind_ok h
    injection e2 with e2; injection e2 with _ e2; rw [← e2]; exact nextF_in hi.1 hi.2 e1
  · obtain ⟨⟨a1, t1⟩, e1, h⟩ := Out.bind_ok h
    injection h with h; injection h with _ h; subst h
    exact wantF_in hi e1
theorem anyF_in {s : ByteArray} {t t' : St} {x : S43} (hi : In s t) (h : anyF s t = .ok (x, t')) : In s t' ∧ t.p ≤ t'.p := by
  unfold anyF at h
  split at h
  · exact pointF_in hi h
  · split at h
    · obtain ⟨a, e1, e2⟩ := Out.bind_ok h
      injection e2 with e2; injection e2 with _ e2; rw [← e2]; exact nextF_in hi.1 hi.2 e1
    · exact plainF_in hi h
theorem atomF_in {s nm : ByteArray} {t t' : St} {x : S54} (hi : In s t) (h : atomF s nm t = .ok (x, t')) : In s t' ∧ t.p ≤ t'.p := by
  unfold atomF at h
  simp only at h
  split at h
  · injection h with h; injection h with _ h; rw [← h]; exact ⟨hi, Int.le_refl _⟩
  · obtain ⟨t1, e1, h⟩ := Out.bind_ok h
    have i1 := nextF_in hi.1 hi.2 e1
    split at h
    · obtain ⟨⟨a, t2⟩, e2, h⟩ := Out.bind_ok h
      injection h with h; injection h with _ h; subst h
      have i2 := anyF_in i1.1 e2
      exact ⟨i2.1, by have := i1.2; have := i2.2; simp only at *; omega⟩
    · split at h
      · obtain ⟨⟨a, t2⟩, e2, h⟩ := Out.bind_ok h
        injection h with h; injection h with _ h; subst h
        have i2 := plainF_in i1.1 e2
        exact ⟨i2.1, by have := i1.2; have := i2.2; simp only at *; omega⟩
      · split at h
        · obtain ⟨⟨a, t2⟩, e2, h⟩ := Out.bind_ok h
          obtain ⟨⟨b, t3⟩, e3, h⟩ := Out.bind_ok h
          split at h
          · simp at h
          · obtain ⟨⟨d, t4⟩, e4, h⟩ := Out.bind_ok h
            injection h with h; injection h with _ h; subst h
            have i2 := pointF_in i1.1 e2
            have i3 := wantF_in i2.1 e3
            have i4 := wantF_in i3.1 e4
            exact ⟨i4.1, by have := i1.2; have := i2.2; have := i3.2; have := i4.2; simp only at *; omega⟩
        · obtain ⟨⟨a, t2⟩, e2, h⟩ := Out.bind_ok h
          injection h with h; injection h with _ h; subst h
          have i2 := plainF_in i1.1 e2
          exact ⟨i2.1, by have := i1.2; have := i2.2; simp only at *; omega⟩
end Go.Proofs.Ytmgljgmieomngaa.Pz
