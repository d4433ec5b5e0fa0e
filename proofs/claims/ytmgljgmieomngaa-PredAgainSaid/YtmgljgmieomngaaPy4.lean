/- So many terms as words at most: units and what goes on behind them. -/
import Derived.Test.YtmgljgmieomngaaPy3
namespace Go.Proofs.Ytmgljgmieomngaa.Pz
open Go Go.RowKit Go.Proofs.YtmgljgmieomngaaW.PrintWords Go.Proofs.YtmgljgmieomngaaW.PrintLast Go.Proofs.YtmgljgmieomngaaW.PrintMore Go.Proofs.Ytmgljgmieomngaa.Q
set_option linter.unusedVariables false
/-- a step up in the words, with so many terms -/
def Up (s : ByteArray) (t : St) (d : Int) (l : List S54) (t' : St) : Prop := Iw s t' ∧ (l.length : Int) ≤ t'.w.pl - t.w.pl ∧ t.w.pl + d ≤ t'.w.pl
theorem bind_some' {α β : Type} {o : Option α} {f : α → Option β} {b : β} (h : o.bind f = some b) : ∃ a, o = some a ∧ f a = some b := by
  cases o with
  | none => simp at h
  | some a => exact ⟨a, rfl, h⟩
/-- the steps of a unit, told one by one -/
theorem pr_unit {s : ByteArray} {k : Nat} {t : St} {o : Out (List S54 × St)} (h : pr s (k + 1) .unit t = some o) :
    (∃ p e, isF s 33 t = .bad p e ∧ o = .bad p e) ∨ (∃ t1 o1, isF s 33 t = .ok (true, t1) ∧ pr s k .unit t1 = some o1 ∧ o = o1.bind fun r => .ok (r.1 ++ [op54 4], r.2)) ∨ (isF s 33 t = .ok (false, t) ∧ (
    (∃ p e, isF s 40 t = .bad p e ∧ o = .bad p e) ∨ (∃ t1 o1, isF s 40 t = .ok (true, t1) ∧ pr s k .sum t1 = some o1 ∧ o = o1.bind fun r => (wantF s 41 r.2).bind fun a => .ok (r.1, a.2)) ∨ (isF s 40 t = .ok (false, t) ∧ (
    (∃ p e, isF s 42 t = .bad p e ∧ o = .bad p e) ∨ (∃ t1, isF s 42 t = .ok (true, t1) ∧ o = .ok ([op54 1], t1)) ∨ (isF s 42 t = .ok (false, t) ∧ (
    (∃ p e, isF s 35 t = .bad p e ∧ o = .bad p e) ∨ (∃ t1, isF s 35 t = .ok (true, t1) ∧ o = .ok ([op54 2], t1)) ∨ (isF s 35 t = .ok (false, t) ∧ (
    (∃ p e, isF s 63 t = .bad p e ∧ o = .bad p e) ∨ (∃ t1, isF s 63 t = .ok (true, t1) ∧ o = (wantF s 110 t1).bind fun a => .ok ([⟨3, a.1.tx, 1, z43, 0⟩], a.2)) ∨ (isF s 63 t = .ok (false, t) ∧
      o = (wantF s 110 t).bind fun a => (atomF s a.1.tx a.2).bind fun r => .ok ([r.1], r.2)))))))))) := by
  rw [pr] at h
  cases h1 : isF s 33 t with
  | bad p e => rw [h1] at h; injection h with h; exact .inl ⟨p, e, rfl, h.symm⟩
  | ok r =>
    obtain ⟨b, t1⟩ := r
    cases b with
    | true => rw [h1] at h; obtain ⟨o1, e1, e2⟩ := bind_some' h; injection e2 with e2; exact .inr (.inl ⟨t1, o1, rfl, e1, e2.symm⟩)
    | false =>
      rw [h1] at h
      have := isF_no h1; subst this
      refine .inr (.inr ⟨rfl, ?_⟩)
      cases h2 : isF s 40 t1 with
      | bad p e => simp only [h2] at h; injection h with h; exact .inl ⟨p, e, rfl, h.symm⟩
      | ok r =>
        obtain ⟨b, t2⟩ := r
        cases b with
        | true => simp only [h2] at h; obtain ⟨o1, e1, e2⟩ := bind_some' h; injection e2 with e2; exact .inr (.inl ⟨t2, o1, rfl, e1, e2.symm⟩)
        | false =>
          simp only [h2] at h
          have := isF_no h2; subst this
          refine .inr (.inr ⟨rfl, ?_⟩)
          cases h3 : isF s 42 t2 with
          | bad p e => simp only [h3] at h; injection h with h; exact .inl ⟨p, e, rfl, h.symm⟩
          | ok r =>
            obtain ⟨b, t3⟩ := r
            cases b with
            | true => simp only [h3] at h; injection h with h; exact .inr (.inl ⟨t3, rfl, h.symm⟩)
            | false =>
              simp only [h3] at h
              have := isF_no h3; subst this
              refine .inr (.inr ⟨rfl, ?_⟩)
              cases h4 : isF s 35 t3 with
              | bad p e => simp only [h4] at h; injection h with h; exact .inl ⟨p, e, rfl, h.symm⟩
              | ok r =>
                obtain ⟨b, t4⟩ := r
                cases b with
                | true => simp only [h4] at h; injection h with h; exact .inr (.inl ⟨t4, rfl, h.symm⟩)
                | false =>
                  simp only [h4] at h
                  have := isF_no h4; subst this
                  refine .inr (.inr ⟨rfl, ?_⟩)
                  cases h5 : isF s 63 t4 with
                  | bad p e => simp only [h5] at h; injection h with h; exact .inl ⟨p, e, rfl, h.symm⟩
                  | ok r =>
                    obtain ⟨b, t5⟩ := r
                    cases b with
                    | true => simp only [h5] at h; injection h with h; exact .inr (.inl ⟨t5, rfl, h.symm⟩)
                    | false =>
                      simp only [h5] at h
                      have := isF_no h5; subst this
                      injection h with h
                      exact .inr (.inr ⟨rfl, h.symm⟩)
/-- what goes on behind an ALL -/
def KS (s : ByteArray) (j : Nat) (pre acc : List S54) (o : Out (List S54 × St)) (t : St) : Prop := ∃ o3, pr s j .sums t = some o3 ∧ o = o3.bind fun r => .ok (acc ++ pre ++ r.1, r.2)
/-- what goes on behind a UNIT -/
def KA (s : ByteArray) (i j : Nat) (pre acc : List S54) (o : Out (List S54 × St)) (t : St) : Prop :=
  ∃ o2, pr s i .alls t = some o2 ∧ (∀ p e, o2 = .bad p e → o = .bad p e) ∧ (∀ l t', o2 = .ok (l, t') → KS s j pre (acc ++ l) o t')
/-- what goes on at a UNIT -/
def KU (s : ByteArray) (i i' j : Nat) (pre acc : List S54) (o : Out (List S54 × St)) (t : St) : Prop :=
  ∃ o1, pr s i .unit t = some o1 ∧ (∀ p e, o1 = .bad p e → o = .bad p e) ∧ (∀ l t', o1 = .ok (l, t') → KA s i' j pre (acc ++ l) o t')
theorem pr_sum {s : ByteArray} {k : Nat} {t : St} {o : Out (List S54 × St)} (h : pr s (k + 1) .sum t = some o) : KU s k k k [] [] o t := by
  rw [pr] at h
  obtain ⟨o1, e1, h⟩ := bind_some' h
  refine ⟨o1, e1, ?_, ?_⟩
  · intro p e he
    subst he
    injection h with h; exact h.symm
  · intro l t' he
    subst he
    simp only at h
    obtain ⟨o2, e2, h⟩ := bind_some' h
    refine ⟨o2, e2, ?_, ?_⟩
    · intro p e he
      subst he
      injection h with h; exact h.symm
    · intro l2 t2 he
      subst he
      simp only at h
      obtain ⟨o3, e3, h⟩ := bind_some' h
      injection h with h
      exact ⟨o3, e3, by rw [← h]; simp⟩
theorem KS_pre {s : ByteArray} {j : Nat} {pre acc : List S54} {o : Out (List S54 × St)} {t : St} (h : KS s j pre acc o t) : KS s j [] (acc ++ pre) o t := by
  obtain ⟨o3, e1, e2⟩ := h
  exact ⟨o3, e1, by rw [e2]; simp⟩
theorem KS_zero {s : ByteArray} {pre acc : List S54} {o : Out (List S54 × St)} {t : St} (h : KS s 0 pre acc o t) : False := by
  obtain ⟨o3, e1, e2⟩ := h
  simp [pr] at e1
theorem KA_zero {s : ByteArray} {j : Nat} {pre acc : List S54} {o : Out (List S54 × St)} {t : St} (h : KA s 0 j pre acc o t) : False := by
  obtain ⟨o3, e1, e2⟩ := h
  simp [pr] at e1
theorem KS_step {s : ByteArray} {j : Nat} {acc : List S54} {o : Out (List S54 × St)} {t : St} (h : KS s (j + 1) [] acc o t) :
    (∃ p e, isF s 124 t = .bad p e ∧ o = .bad p e) ∨ (∃ t1, isF s 124 t = .ok (true, t1) ∧ KU s j j j [op54 6] acc o t1) ∨ (isF s 124 t = .ok (false, t) ∧ o = .ok (acc, t)) := by
  obtain ⟨o3, e1, e2⟩ := h
  rw [pr] at e1
  cases h1 : isF s 124 t with
  | bad p e => rw [h1] at e1; injection e1 with e1; subst e1; exact .inl ⟨p, e, rfl, e2⟩
  | ok r =>
    obtain ⟨b, t1⟩ := r
    cases b with
    | false =>
      rw [h1] at e1
      have := isF_no h1; subst this
      injection e1 with e1; subst e1
      exact .inr (.inr ⟨rfl, by rw [e2]; simp [Out.bind]⟩)
    | true =>
      rw [h1] at e1
      refine .inr (.inl ⟨t1, rfl, ?_⟩)
      simp only at e1
      obtain ⟨o1, f1, e1⟩ := bind_some' e1
      refine ⟨o1, f1, ?_, ?_⟩
      · intro p e he
        subst he
        injection e1 with e1; subst e1; exact e2
      · intro l t' he
        subst he
        simp only at e1
        obtain ⟨o2, f2, e1⟩ := bind_some' e1
        refine ⟨o2, f2, ?_, ?_⟩
        · intro p e he
          subst he
          injection e1 with e1; subst e1; exact e2
        · intro l2 t2 he
          subst he
          simp only at e1
          obtain ⟨o4, f3, e1⟩ := bind_some' e1
          injection e1 with e1
          refine ⟨o4, f3, ?_⟩
          rw [e2, ← e1]
          cases o4 with
          | bad p e => rfl
          | ok r => simp [Out.bind]
theorem KA_step {s : ByteArray} {i j : Nat} {pre acc : List S54} {o : Out (List S54 × St)} {t : St} (h : KA s (i + 1) j pre acc o t) :
    (∃ p e, isF s 38 t = .bad p e ∧ o = .bad p e) ∨
      (∃ t1, isF s 38 t = .ok (true, t1) ∧ ∃ o1, pr s i .unit t1 = some o1 ∧ (∀ p e, o1 = .bad p e → o = .bad p e) ∧ (∀ l t', o1 = .ok (l, t') → KA s i j pre (acc ++ l ++ [op54 5]) o t')) ∨
      (isF s 38 t = .ok (false, t) ∧ KS s j pre acc o t) := by
  obtain ⟨o2, e1, e2, e3⟩ := h
  rw [pr] at e1
  cases h1 : isF s 38 t with
  | bad p e => rw [h1] at e1; injection e1 with e1; exact .inl ⟨p, e, rfl, e2 p e e1.symm⟩
  | ok r =>
    obtain ⟨b, t1⟩ := r
    cases b with
    | false =>
      rw [h1] at e1
      have := isF_no h1; subst this
      injection e1 with e1
      have := e3 [] t1 e1.symm
      rw [List.append_nil] at this
      exact .inr (.inr ⟨rfl, this⟩)
    | true =>
      rw [h1] at e1
      refine .inr (.inl ⟨t1, rfl, ?_⟩)
      simp only at e1
      obtain ⟨o1, f1, e1⟩ := bind_some' e1
      refine ⟨o1, f1, ?_, ?_⟩
      · intro p e he
        subst he
        injection e1 with e1; exact e2 p e e1.symm
      · intro l t' he
        subst he
        simp only at e1
        obtain ⟨o4, f2, e1⟩ := bind_some' e1
        injection e1 with e1
        refine ⟨o4, f2, ?_, ?_⟩
        · intro p e he
          subst he
          exact e2 p e e1.symm
        · intro l2 t2 he
          subst he
          have := e3 (l ++ [op54 5] ++ l2) t2 e1.symm
          rw [← List.append_assoc, ← List.append_assoc] at this
          exact this
theorem up_trans {s : ByteArray} {t t1 t2 : St} {d d' : Int} {l l' : List S54} (h : Up s t d l t1) (h' : Up s t1 d' l' t2) : Up s t (d + d') (l ++ l') t2 := by
  obtain ⟨a1, a2, a3⟩ := h
  obtain ⟨b1, b2, b3⟩ := h'
  exact ⟨b1, by rw [List.length_append]; omega, by omega⟩
def UpM (s : ByteArray) (m : Md) (t : St) (o : Out (List S54 × St)) : Prop := ∀ l t', o = .ok (l, t') → Up s t (match m with | .unit => 1 | .sum => 1 | _ => 0) l t'
theorem pr_up (s : ByteArray) : ∀ (k : Nat) (m : Md) (t : St) (o : Out (List S54 × St)), Iw s t → pr s k m t = some o → UpM s m t o
  | 0, m, t, o, hi, h => by simp [pr] at h
  | k + 1, .unit, t, o, hi, h => by
    intro l t' ho
    subst ho
    rcases pr_unit h with ⟨p, e, _, h⟩ | ⟨t1, o1, a1, a2, a3⟩ | ⟨-, h⟩
    · simp at h
    · obtain ⟨⟨l1, t2⟩, b1, b2⟩ := Out.bind_ok a3.symm
      injection b2 with b2; injection b2 with b2 b3; subst b2 b3
      have u1 := isF_up hi (by decide) a1
      have u2 := pr_up s k .unit t1 o1 u1.1 a2 l1 t2 b1
      obtain ⟨c1, c2, c3⟩ := u2
      exact ⟨c1, by have := u1.2; simp only [List.length_append, List.length_cons, List.length_nil] at *; omega, by have := u1.2; simp only at *; omega⟩
    rcases h with ⟨p, e, _, h⟩ | ⟨t1, o1, a1, a2, a3⟩ | ⟨-, h⟩
    · simp at h
    · obtain ⟨⟨l1, t2⟩, b1, b2⟩ := Out.bind_ok a3.symm
      obtain ⟨⟨a, t3⟩, b3, b4⟩ := Out.bind_ok b2
      injection b4 with b4; injection b4 with b4 b5; subst b4 b5
      have u1 := isF_up hi (by decide) a1
      have u2 := pr_up s k .sum t1 o1 u1.1 a2 l1 t2 b1
      obtain ⟨c1, c2, c3⟩ := u2
      have u3 := wantF_up c1 (by decide) b3
      exact ⟨u3.1, by have := u1.2; have := u3.2; simp only at *; omega, by have := u1.2; have := u3.2; simp only at *; omega⟩
    rcases h with ⟨p, e, _, h⟩ | ⟨t1, a1, a3⟩ | ⟨-, h⟩
    · simp at h
    · injection a3 with a3; injection a3 with a3 a4; subst a3 a4
      have u1 := isF_up hi (by decide) a1
      exact ⟨u1.1, by have := u1.2; simp only [List.length_cons, List.length_nil]; omega, by have := u1.2; simp only; omega⟩
    rcases h with ⟨p, e, _, h⟩ | ⟨t1, a1, a3⟩ | ⟨-, h⟩
    · simp at h
    · injection a3 with a3; injection a3 with a3 a4; subst a3 a4
      have u1 := isF_up hi (by decide) a1
      exact ⟨u1.1, by have := u1.2; simp only [List.length_cons, List.length_nil]; omega, by have := u1.2; simp only; omega⟩
    rcases h with ⟨p, e, _, h⟩ | ⟨t1, a1, a3⟩ | ⟨-, h⟩
    · simp at h
    · obtain ⟨⟨a, t2⟩, b1, b2⟩ := Out.bind_ok a3.symm
      injection b2 with b2; injection b2 with b2 b3; subst b2 b3
      have u1 := isF_up hi (by decide) a1
      have u2 := wantF_up u1.1 (by decide) b1
      exact ⟨u2.1, by have := u1.2; have := u2.2; simp only [List.length_cons, List.length_nil] at *; omega, by have := u1.2; have := u2.2; simp only at *; omega⟩
    · obtain ⟨⟨a, t2⟩, b1, b2⟩ := Out.bind_ok h.symm
      obtain ⟨⟨x, t3⟩, b3, b4⟩ := Out.bind_ok b2
      injection b4 with b4; injection b4 with b4 b5; subst b4 b5
      have u1 := wantF_up hi (by decide) b1
      have u2 := atomF_up u1.1 b3
      exact ⟨u2.1, by have := u1.2; have := u2.2; simp only [List.length_cons, List.length_nil] at *; omega, by have := u1.2; have := u2.2; simp only at *; omega⟩
  | k + 1, .sum, t, o, hi, h => by
    intro l t' ho
    obtain ⟨o1, a1, a2, a3⟩ := pr_sum h
    cases o1 with
    | bad p e => have := a2 p e rfl; rw [ho] at this; simp at this
    | ok r =>
      obtain ⟨l1, t1⟩ := r
      obtain ⟨o2, b1, b2, b3⟩ := a3 l1 t1 rfl
      have u1 := pr_up s k .unit t _ hi a1 l1 t1 rfl
      cases o2 with
      | bad p e => have := b2 p e rfl; rw [ho] at this; simp at this
      | ok r =>
        obtain ⟨l2, t2⟩ := r
        obtain ⟨o3, c1, c2⟩ := b3 l2 t2 rfl
        have u2 := pr_up s k .alls t1 _ u1.1 b1 l2 t2 rfl
        rw [ho] at c2
        obtain ⟨⟨l3, t3⟩, d1, d2⟩ := Out.bind_ok c2.symm
        injection d2 with d2; injection d2 with d2 d3; subst d3
        have u3 := pr_up s k .sums t2 _ u2.1 c1 l3 t3 d1
        have := up_trans (up_trans u1 u2) u3
        rw [← d2]
        simpa using this
  | k + 1, .alls, t, o, hi, h => by
    intro l t' ho
    have hk : KA s (k + 1) 0 [] [] o t → True := fun _ => trivial
    rw [pr] at h
    cases h1 : isF s 38 t with
    | bad p e => rw [h1] at h; injection h with h; rw [ho] at h; simp at h
    | ok r =>
      obtain ⟨b, t1⟩ := r
      cases b with
      | false =>
        rw [h1] at h; injection h with h; rw [ho] at h; injection h with h; injection h with h h'; subst h h'
        exact ⟨hi, by simp, by simp only; omega⟩
      | true =>
        rw [h1] at h
        simp only at h
        obtain ⟨o1, f1, h⟩ := bind_some' h
        have u1 := isF_up hi (by decide) h1
        cases o1 with
        | bad p e => injection h with h; rw [ho] at h; simp at h
        | ok r =>
          obtain ⟨l1, t2⟩ := r
          simp only at h
          obtain ⟨o2, f2, h⟩ := bind_some' h
          injection h with h; rw [ho] at h
          obtain ⟨⟨l2, t3⟩, d1, d2⟩ := Out.bind_ok h
          injection d2 with d2; injection d2 with d2 d3; subst d2 d3
          have u2 := pr_up s k .unit t1 _ u1.1 f1 l1 t2 rfl
          have u3 := pr_up s k .alls t2 _ u2.1 f2 l2 t3 d1
          obtain ⟨a1, a2, a3⟩ := u2
          obtain ⟨b1, b2, b3⟩ := u3
          exact ⟨b1, by have := u1.2; simp only [List.length_append, List.length_cons, List.length_nil] at *; omega, by have := u1.2; simp only at *; omega⟩
  | k + 1, .sums, t, o, hi, h => by
    intro l t' ho
    rw [pr] at h
    cases h1 : isF s 124 t with
    | bad p e => rw [h1] at h; injection h with h; rw [ho] at h; simp at h
    | ok r =>
      obtain ⟨b, t1⟩ := r
      cases b with
      | false =>
        rw [h1] at h; injection h with h; rw [ho] at h; injection h with h; injection h with h h'; subst h h'
        exact ⟨hi, by simp, by simp only; omega⟩
      | true =>
        rw [h1] at h
        simp only at h
        obtain ⟨o1, f1, h⟩ := bind_some' h
        have u1 := isF_up hi (by decide) h1
        cases o1 with
        | bad p e => injection h with h; rw [ho] at h; simp at h
        | ok r =>
          obtain ⟨l1, t2⟩ := r
          simp only at h
          obtain ⟨o2, f2, h⟩ := bind_some' h
          have u2 := pr_up s k .unit t1 _ u1.1 f1 l1 t2 rfl
          cases o2 with
          | bad p e => injection h with h; rw [ho] at h; simp at h
          | ok r =>
            obtain ⟨l2, t3⟩ := r
            simp only at h
            obtain ⟨o3, f3, h⟩ := bind_some' h
            injection h with h; rw [ho] at h
            obtain ⟨⟨l3, t4⟩, d1, d2⟩ := Out.bind_ok h
            injection d2 with d2; injection d2 with d2 d3; subst d2 d3
            have u3 := pr_up s k .alls t2 _ u2.1 f2 l2 t3 rfl
            have u4 := pr_up s k .sums t3 _ u3.1 f3 l3 t4 d1
            obtain ⟨a1, a2, a3⟩ := u2
            obtain ⟨b1, b2, b3⟩ := u3
            obtain ⟨c1, c2, c3⟩ := u4
            exact ⟨c1, by have := u1.2; simp only [List.length_append, List.length_cons, List.length_nil] at *; omega, by have := u1.2; simp only at *; omega⟩
end Go.Proofs.Ytmgljgmieomngaa.Pz
