/- Words stand one behind the other: so many terms as words at most. -/
import Derived.Test.YtmgljgmieomngaaPy2
namespace Go.Proofs.Ytmgljgmieomngaa.Pz
open Go Go.RowKit Go.Proofs.YtmgljgmieomngaaW.PrintWords Go.Proofs.YtmgljgmieomngaaW.PrintLast Go.Proofs.YtmgljgmieomngaaW.PrintMore Go.Proofs.Ytmgljgmieomngaa.Q
set_option linter.unusedVariables false
/-- the reader's word lies ahead of its place -/
def Iw (s : ByteArray) (t : St) : Prop := In s t ∧ 0 ≤ t.w.pl ∧ t.w.pl ≤ t.p ∧ (t.w.kd ≠ 101 → t.w.pl < t.p)
theorem strB_gt (s : ByteArray) (pl : Int) : ∀ (d : Nat) (p : Int) (out : List Int) (r : Int × List Int), strB s pl d p out = .ok r → p < r.1
  | 0, p, out, r, h => by simp [strB] at h
  | d + 1, p, out, r, h => by
    rw [strB] at h
    split at h
    · simp at h
    · split at h
      · injection h with h; rw [← h]; simp only; omega
      · split at h
        · split at h
          · have := strB_gt s pl d _ _ r h; omega
          · split at h
            · have := strB_gt s pl d _ _ r h; omega
            · simp at h
        · have := strB_gt s pl d _ _ r h; omega
theorem nextF_iw {s : ByteArray} {p : Int} {t : St} (h0 : 0 ≤ p) (h1 : p ≤ (s.size : Int)) (h : nextF s p = .ok t) : Iw s t ∧ p ≤ t.w.pl := by
  have hin := (nextF_in h0 h1 h).1
  unfold nextF at h
  have hs := scan_bnd (fun c => c == 32) s s.size p h1
  simp only at h
  generalize scan (fun c => c == 32) s s.size p = q at *
  unfold Iw
  refine ⟨⟨hin, ?_⟩, ?_⟩ <;> clear hin
  all_goals
    split at h
    · rename_i hq
      obtain ⟨a, e1, e2⟩ := Out.bind_ok h
      injection e2 with e2
      rw [← e2]
      simp only
      split at e1
      · rename_i hc
        unfold nameF at e1
        simp only at e1
        have hx : q + 1 ≤ scan isNm s s.size q := by
          obtain ⟨d, hd⟩ : ∃ d, s.size = d + 1 := ⟨s.size - 1, by omega⟩
          have hi : isNm (bt s q) = true := by unfold isNm; simp; omega
          have e : scan isNm s s.size q = scan isNm s d (q + 1) := by
            conv => lhs; rw [hd]
            rw [scan, if_pos hq, if_pos hi]
          rw [e]
          exact (scan_bnd isNm s d (q + 1) (by omega)).1
        split at e1
        · simp at e1
        · injection e1 with e1; rw [← e1]; simp only; omega
      · split at e1
        · unfold numF at e1
          simp only at e1
          have hf : q ≤ (if (bt s q == 45) = true then q + 1 else q) ∧ (if (bt s q == 45) = true then q + 1 else q) ≤ (s.size : Int) := by split <;> omega
          generalize (if (bt s q == 45) = true then q + 1 else q) = f at e1 hf
          have := digs_in s s.size f 0 false hf.2
          generalize digs s s.size f 0 false = R at *
          split at e1
          · simp at e1
          · rename_i hn
            have hne : R.1 ≠ f := fun e => hn (.inl e)
            split at e1
            · simp at e1
            · injection e1 with e1; rw [← e1]; simp only; omega
        · split at e1
          · unfold strF at e1
            obtain ⟨b, e3, e4⟩ := Out.bind_ok e1
            have := strB_gt s q _ _ _ b e3
            split at e4
            · simp at e4
            · injection e4 with e4; rw [← e4]; simp only; omega
          · unfold markF at e1
            split at e1
            · split at e1
              · injection e1 with e1; rw [← e1]; simp only; omega
              · injection e1 with e1; rw [← e1]; simp only; omega
            · split at e1
              · injection e1 with e1; rw [← e1]; simp only; omega
              · simp at e1
    · injection h with h
      rw [← h]
      simp only
      omega
/-- a word that is read on, another one than the end -/
theorem next_up {s : ByteArray} {t t' : St} (hi : Iw s t) (hk : t.w.kd ≠ 101) (h : nextF s t.p = .ok t') : Iw s t' ∧ t.w.pl + 1 ≤ t'.w.pl := by
  obtain ⟨h1, h2⟩ := nextF_iw hi.1.1 hi.1.2 h
  have := hi.2.2.2 hk
  exact ⟨h1, by omega⟩
theorem isF_up {s : ByteArray} {c : Int} {t t' : St} (hi : Iw s t) (hc : c ≠ 101) (h : isF s c t = .ok (true, t')) : Iw s t' ∧ t.w.pl + 1 ≤ t'.w.pl := by
  unfold isF at h
  split at h
  · rename_i hk
    obtain ⟨a, e1, e2⟩ := Out.bind_ok h
    injection e2 with e2; injection e2 with _ e2; rw [← e2]; exact next_up hi (by rw [hk.1]; exact hc) e1
  · simp at h
theorem isF_no {s : ByteArray} {c : Int} {t t' : St} (h : isF s c t = .ok (false, t')) : t' = t := by
  unfold isF at h
  split at h
  · obtain ⟨a, e1, e2⟩ := Out.bind_ok h
    simp at e2
  · injection h with h; injection h with _ h; exact h.symm
theorem wantF_up {s : ByteArray} {c : Int} {t t' : St} {u : Wd} (hi : Iw s t) (hc : c ≠ 101) (h : wantF s c t = .ok (u, t')) : Iw s t' ∧ t.w.pl + 1 ≤ t'.w.pl := by
  unfold wantF at h
  split at h
  · rename_i hk
    obtain ⟨a, e1, e2⟩ := Out.bind_ok h
    injection e2 with e2; injection e2 with _ e2; rw [← e2]; exact next_up hi (by rw [hk.1]; exact hc) e1
  · simp at h
theorem partF_up {s : ByteArray} {t t' : St} {n : Int} (hi : Iw s t) (h : partF s t = .ok (n, t')) : Iw s t' ∧ t.w.pl + 1 ≤ t'.w.pl := by
  unfold partF at h
  split at h
  · rename_i hk
    split at h
    · simp at h
    · obtain ⟨a, e1, e2⟩ := Out.bind_ok h
      injection e2 with e2; injection e2 with _ e2; rw [← e2]; exact next_up hi (by rw [hk]; decide) e1
  · simp at h
theorem pointF_up {s : ByteArray} {t t' : St} {x : S43} (hi : Iw s t) (h : pointF s t = .ok (x, t')) : Iw s t' ∧ t.w.pl + 1 ≤ t'.w.pl := by
  unfold pointF at h
  obtain ⟨⟨a1, t1⟩, e1, h⟩ := Out.bind_ok h
  obtain ⟨⟨a2, t2⟩, e2, h⟩ := Out.bind_ok h
  obtain ⟨⟨a3, t3⟩, e3, h⟩ := Out.bind_ok h
  obtain ⟨⟨a4, t4⟩, e4, h⟩ := Out.bind_ok h
  obtain ⟨⟨a5, t5⟩, e5, h⟩ := Out.bind_ok h
  injection h with h; injection h with _ h; subst h
  have i1 := wantF_up hi (by decide) e1
  have i2 := partF_up i1.1 e2
  have i3 := wantF_up i2.1 (by decide) e3
  have i4 := partF_up i3.1 e4
  have i5 := wantF_up i4.1 (by decide) e5
  simp only at *
  exact ⟨i5.1, by omega⟩
theorem plainF_up {s : ByteArray} {b : Bool} {t t' : St} {x : S43} (hi : Iw s t) (h : plainF s b t = .ok (x, t')) : Iw s t' ∧ t.w.pl + 1 ≤ t'.w.pl := by
  unfold plainF at h
  split at h
  · rename_i hk
    obtain ⟨a, e1, e2⟩ := Out.bind_ok h
    injection e2 with e2; injection e2 with _ e2; rw [← e2]; exact next_up hi (by rw [hk.1]; decide) e1
  · obtain ⟨⟨a1, t1⟩, e1, h⟩ := Out.bind_ok h
    injection h with h; injection h with _ h; subst h
    exact wantF_up hi (by decide) e1
theorem anyF_up {s : ByteArray} {t t' : St} {x : S43} (hi : Iw s t) (h : anyF s t = .ok (x, t')) : Iw s t' ∧ t.w.pl + 1 ≤ t'.w.pl := by
  unfold anyF at h
  split at h
  · exact pointF_up hi h
  · split at h
    · rename_i hk
      obtain ⟨a, e1, e2⟩ := Out.bind_ok h
      injection e2 with e2; injection e2 with _ e2; rw [← e2]; exact next_up hi (by rw [hk.1]; decide) e1
    · exact plainF_up hi h
theorem cmp_kd {u : Wd} (h : cmpF u ≠ 2) : u.kd ≠ 101 := by
  intro e
  apply h
  unfold cmpF
  simp [e]
theorem atomF_up {s nm : ByteArray} {t t' : St} {x : S54} (hi : Iw s t) (h : atomF s nm t = .ok (x, t')) : Iw s t' ∧ t.w.pl ≤ t'.w.pl := by
  unfold atomF at h
  simp only at h
  split at h
  · injection h with h; injection h with _ h; rw [← h]; exact ⟨hi, Int.le_refl _⟩
  · rename_i hc
    obtain ⟨t1, e1, h⟩ := Out.bind_ok h
    have i1 := next_up hi (cmp_kd hc) e1
    split at h
    · obtain ⟨⟨a, t2⟩, e2, h⟩ := Out.bind_ok h
      injection h with h; injection h with _ h; subst h
      have i2 := anyF_up i1.1 e2
      exact ⟨i2.1, by have := i1.2; have := i2.2; simp only at *; omega⟩
    · split at h
      · obtain ⟨⟨a, t2⟩, e2, h⟩ := Out.bind_ok h
        injection h with h; injection h with _ h; subst h
        have i2 := plainF_up i1.1 e2
        exact ⟨i2.1, by have := i1.2; have := i2.2; simp only at *; omega⟩
      · split at h
        · obtain ⟨⟨a, t2⟩, e2, h⟩ := Out.bind_ok h
          obtain ⟨⟨b, t3⟩, e3, h⟩ := Out.bind_ok h
          split at h
          · simp at h
          · obtain ⟨⟨d, t4⟩, e4, h⟩ := Out.bind_ok h
            injection h with h; injection h with _ h; subst h
            have i2 := pointF_up i1.1 e2
            have i3 := wantF_up i2.1 (by decide) e3
            have i4 := wantF_up i3.1 (by decide) e4
            exact ⟨i4.1, by have := i1.2; have := i2.2; have := i3.2; have := i4.2; simp only at *; omega⟩
        · obtain ⟨⟨a, t2⟩, e2, h⟩ := Out.bind_ok h
          injection h with h; injection h with _ h; subst h
          have i2 := plainF_up i1.1 e2
          exact ⟨i2.1, by have := i1.2; have := i2.2; simp only at *; omega⟩
end Go.Proofs.Ytmgljgmieomngaa.Pz
