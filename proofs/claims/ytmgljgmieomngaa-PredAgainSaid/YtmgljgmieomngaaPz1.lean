/- Signs and names. -/
import Derived.Test.YtmgljgmieomngaaPz0
namespace Go.Proofs.Ytmgljgmieomngaa.Pz
open Go Go.RowKit Go.Proofs.YtmgljgmieomngaaW.PrintWords Go.Proofs.YtmgljgmieomngaaW.PrintLast Go.Proofs.YtmgljgmieomngaaW.PrintMore
attribute [local go_sem] run_store_complex run_store_float isSome_setCell
set_option linter.unusedVariables false
set_option linter.unusedSimpArgs false
set_option maxHeartbeats 8000000 in
set_option maxRecDepth 100000 in
theorem mark_ (w : World) (g b : Nat) (s : ByteArray) (v : Value) (u0 : Wd) (p c : Int) (hg : At w g (RC s ⟨p, u0⟩ v) 61) (hb : At w b (WC ⟨c, false, p, ⟨#[]⟩, 0⟩) 59) (hgb : g < b) (h0 : 0 ≤ p) (h1 : p < (s.size : Int)) (hs : s.size ≤ 400) :
    Calls Try.prog 38 #[.pointer (some ⟨g, 0, none⟩), .pointer (some ⟨b, 0, none⟩)] w (Lex w g b s v u0 (markF s p c)) := by
  have hu61 := Try.underlying61
  have hu59 := Try.underlying59
  have HG := Aside0.mk hg
  have HB := Aside0.mk hb
  have hne : g ≠ b := by omega
  have hne' : b ≠ g := by omega
  have q0 : w.cell? ⟨g, 0, none⟩ = some (.string s) := (blk_cell hg 0).trans rfl
  have q1 : w.cell? ⟨g, 1, none⟩ = some (.int .i64 p) := (blk_cell hg 1).trans rfl
  have f1 := blk_frozen hg 1
  have c0 : w.cell? ⟨b, 0, none⟩ = some (.int .u8 c) := (blk_cell hb 0).trans rfl
  have c1 : w.cell? ⟨b, 1, none⟩ = some (.bool false) := (blk_cell hb 1).trans rfl
  have d1 := blk_frozen hb 1
  clear hg hb
  unfold markF
  by_cases l3 : long3 c = true
  · rw [if_pos l3]
    simp only [long3, Bool.or_eq_true, beq_iff_eq] at l3
    by_cases k1 : p + 1 < (s.size : Int)
    · have hx := bt_at s (p + 1)
      have k0 : 0 ≤ p + 1 := by omega
      have k0' := eq_true k0
      have k1' := eq_true k1
      have k1b : decide (p + 1 < (s.size : Int)) = true := decide_eq_true k1
      by_cases k2 : bt s (p + 1) = 61
      · have e : (bt s (p + 1) == 61) = true := by simpa using k2
        rw [if_pos ⟨k1, k2⟩]
        clear k2
        rcases l3 with (rfl | rfl) | rfl
        all_goals (go_enter Try.func38, Try.ntmps38; go_wp2; go_region; go_wp2; (try simp only [Exit.then, Exit.jump]); go_end0; exact ⟨rfl, by (apply At.fin; (focus (with_reducible repeat (first | exact HG.out | exact HB.out | apply At.drew | apply At.drewN | apply At.alloc | (refine At.set (cs := ?_) ?_ _ _; rotate_left) | apply At.other (hne := hne') | apply At.other (hne := hne)))); (focus rfl)), by (apply At.fin; (focus (with_reducible repeat (first | exact HG.out | exact HB.out | apply At.drew | apply At.drewN | apply At.alloc | (refine At.set (cs := ?_) ?_ _ _; rotate_left) | apply At.other (hne := hne') | apply At.other (hne := hne)))); (focus rfl)), by (with_reducible repeat (first | exact KeepBut.refl _ _ _ | apply KeepBut.set_ | apply kb_row | apply kb_drewN | apply kb_drew | apply kb_alloc)), by (with_reducible repeat (first | exact Below.refl _ _ | apply pw_below_drewN | apply below_drew1 | refine bl_set ?_ (Nat.le_refl _) | refine bl_set ?_ (Nat.le_of_lt hgb)))⟩)
      · have e : (bt s (p + 1) == 61) = false := by simpa using k2
        rw [if_neg (fun h => k2 h.2)]
        clear k2
        rcases l3 with (rfl | rfl) | rfl
        all_goals (go_enter Try.func38, Try.ntmps38; go_wp2; go_region; go_wp2; (try simp only [Exit.then, Exit.jump]); go_end0; exact ⟨rfl, by (apply At.fin; (focus (with_reducible repeat (first | exact HG.out | exact HB.out | apply At.drew | apply At.drewN | apply At.alloc | (refine At.set (cs := ?_) ?_ _ _; rotate_left) | apply At.other (hne := hne') | apply At.other (hne := hne)))); (focus rfl)), by (apply At.fin; (focus (with_reducible repeat (first | exact HG.out | exact HB.out | apply At.drew | apply At.drewN | apply At.alloc | (refine At.set (cs := ?_) ?_ _ _; rotate_left) | apply At.other (hne := hne') | apply At.other (hne := hne)))); (focus rfl)), by (with_reducible repeat (first | exact KeepBut.refl _ _ _ | apply KeepBut.set_ | apply kb_row | apply kb_drewN | apply kb_drew | apply kb_alloc)), by (with_reducible repeat (first | exact Below.refl _ _ | apply pw_below_drewN | apply below_drew1 | refine bl_set ?_ (Nat.le_refl _) | refine bl_set ?_ (Nat.le_of_lt hgb)))⟩)
    · rw [if_neg (fun h => k1 h.1)]
      have k1b : decide (p + 1 < (s.size : Int)) = false := decide_eq_false k1
      rcases l3 with (rfl | rfl) | rfl
      all_goals (go_enter Try.func38, Try.ntmps38; go_wp2; go_region; go_wp2; (try simp only [Exit.then, Exit.jump]); go_end0; exact ⟨rfl, by (apply At.fin; (focus (with_reducible repeat (first | exact HG.out | exact HB.out | apply At.drew | apply At.drewN | apply At.alloc | (refine At.set (cs := ?_) ?_ _ _; rotate_left) | apply At.other (hne := hne') | apply At.other (hne := hne)))); (focus rfl)), by (apply At.fin; (focus (with_reducible repeat (first | exact HG.out | exact HB.out | apply At.drew | apply At.drewN | apply At.alloc | (refine At.set (cs := ?_) ?_ _ _; rotate_left) | apply At.other (hne := hne') | apply At.other (hne := hne)))); (focus rfl)), by (with_reducible repeat (first | exact KeepBut.refl _ _ _ | apply KeepBut.set_ | apply kb_row | apply kb_drewN | apply kb_drew | apply kb_alloc)), by (with_reducible repeat (first | exact Below.refl _ _ | apply pw_below_drewN | apply below_drew1 | refine bl_set ?_ (Nat.le_refl _) | refine bl_set ?_ (Nat.le_of_lt hgb)))⟩)
  · rw [if_neg l3]
    by_cases l12 : sign12 c = true
    · rw [if_pos l12]
      clear l3
      simp only [sign12, Bool.or_eq_true, beq_iff_eq] at l12
      rcases l12 with ((((((((((rfl | rfl) | rfl) | rfl) | rfl) | rfl) | rfl) | rfl) | rfl) | rfl) | rfl) | rfl
      all_goals (go_enter Try.func38, Try.ntmps38; go_wp2; (try simp only [Exit.then, Exit.jump]); go_end0; exact ⟨rfl, by (apply At.fin; (focus (with_reducible repeat (first | exact HG.out | exact HB.out | apply At.drew | apply At.drewN | apply At.alloc | (refine At.set (cs := ?_) ?_ _ _; rotate_left) | apply At.other (hne := hne') | apply At.other (hne := hne)))); (focus rfl)), by (apply At.fin; (focus (with_reducible repeat (first | exact HG.out | exact HB.out | apply At.drew | apply At.drewN | apply At.alloc | (refine At.set (cs := ?_) ?_ _ _; rotate_left) | apply At.other (hne := hne') | apply At.other (hne := hne)))); (focus rfl)), by (with_reducible repeat (first | exact KeepBut.refl _ _ _ | apply KeepBut.set_ | apply kb_row | apply kb_drewN | apply kb_drew | apply kb_alloc)), by (with_reducible repeat (first | exact Below.refl _ _ | apply pw_below_drewN | apply below_drew1 | refine bl_set ?_ (Nat.le_refl _) | refine bl_set ?_ (Nat.le_of_lt hgb)))⟩)
    · rw [if_neg l12]
      simp only [long3, sign12, Bool.or_eq_true, not_or, Bool.not_eq_true] at l3 l12
      obtain ⟨⟨n1, n2⟩, n3⟩ := l3
      obtain ⟨⟨⟨⟨⟨⟨⟨⟨⟨⟨⟨m1, m2⟩, m3⟩, m4⟩, m5⟩, m6⟩, m7⟩, m8⟩, m9⟩, m10⟩, m11⟩, m12⟩ := l12
      go_enter Try.func38, Try.ntmps38
      go_wp2_with (first | (go_at_call 20; refine (stop_ _ _ _).mono ?_; rintro e w2 ⟨rfl, hw⟩; subst hw; unfold flt))
      exact ⟨rfl, rfl, KeepBut.refl _ _ _, Below.refl _ _⟩
set_option maxHeartbeats 8000000 in
set_option maxRecDepth 100000 in
theorem name_ (w : World) (g b : Nat) (s : ByteArray) (v : Value) (u0 : Wd) (p c : Int) (hg : At w g (RC s ⟨p, u0⟩ v) 61) (hb : At w b (WC ⟨c, false, p, ⟨#[]⟩, 0⟩) 59) (hgb : g < b) (h0 : 0 ≤ p) (h1 : p ≤ (s.size : Int)) (hs : s.size ≤ 400) :
    Calls Try.prog 35 #[.pointer (some ⟨g, 0, none⟩), .pointer (some ⟨b, 0, none⟩)] w (Lex w g b s v u0 (nameF s p)) := by
  have hu61 := Try.underlying61
  have hu59 := Try.underlying59
  have HG := Aside0.mk hg
  have HB := Aside0.mk hb
  have hne : g ≠ b := by omega
  have hne' : b ≠ g := by omega
  have c0 : w.cell? ⟨b, 0, none⟩ = some (.int .u8 c) := (blk_cell hb 0).trans rfl
  have d0 := blk_frozen hb 0
  clear hg hb
  go_enter Try.func35, Try.ntmps35
  go_wp2
  refine Go.Proofs.YtmgljgmieomngaaW.wp_scope_lab 0 (by exact rfl) ?_
  intro G_ hG_
  have HG_ := Aside0.mk hG_
  clear hG_
  go_wp2
  go_step3
  go_step
  go_step
  refine Go.Proofs.YtmgljgmieomngaaW.wp_lab_loop HG_.out (fun d a_ w' => ∃ (u2 u3 u4 u5 u6 u7 u8 u9 u10 u11 u12 u13 u14 u15 u16 u17 u18 u19 u20 u21 u22 u23 u24 u25 u26 u27 u28 u29 u30 u31 u32 u33 u34 u35 u36 u37 u38 u39 u40 u41 u42 u43 u44 u45 u46 u47 u48 u49 u50 u51 u52 u53 u54 u55 u56 u57 u58 u59 u60 u61 u62 u63 u64 u65 u66 u67 u68 u69 u70 u71 u72 u73 u74 u75 u76 u77 u78 : Value), (∃ q : Int, Aside0 (p ≤ q ∧ q ≤ (s.size : Int) ∧ (s.size : Int) ≤ q + d) ∧ Aside0 (scan isNm s d q = scan isNm s s.size p) ∧ Aside0 (At w' g (RC s ⟨q, u0⟩ v) 61) ∧ Aside0 (At w' b (WC ⟨110, false, p, ⟨#[]⟩, 0⟩) 59) ∧ Aside0 (KeepBut w w' g (some b)) ∧ Aside0 (Below g w w')) ∧ a_ = { tmps := #[.pointer (some ⟨g, 0, none⟩), .pointer (some ⟨b, 0, none⟩), u2, u3, u4, u5, u6, u7, u8, u9, u10, u11, u12, u13, u14, u15, u16, u17, u18, u19, u20, u21, u22, u23, u24, u25, u26, u27, u28, u29, u30, u31, u32, u33, u34, u35, u36, u37, u38, u39, u40, u41, u42, u43, u44, u45, u46, u47, u48, u49, u50, u51, u52, u53, u54, u55, u56, u57, u58, u59, u60, u61, u62, u63, u64, u65, u66, u67, u68, u69, u70, u71, u72, u73, u74, u75, u76, u77, u78], defers := [] }) s.size ?_ ?_
  · (repeat apply Exists.intro)
    refine ⟨?_, rfl⟩
    exact ⟨p, ⟨Int.le_refl _, h1, by omega⟩, ⟨rfl⟩, ⟨by (apply At.fin; (focus (with_reducible repeat (first | exact HG.out | exact HB.out | apply At.drew | apply At.drewN | apply At.alloc | (refine At.set (cs := ?_) ?_ _ _; rotate_left) | apply At.other (hne := hne') | apply At.other (hne := hne)))); (focus rfl))⟩, ⟨by (apply At.fin; (focus (with_reducible repeat (first | exact HG.out | exact HB.out | apply At.drew | apply At.drewN | apply At.alloc | (refine At.set (cs := ?_) ?_ _ _; rotate_left) | apply At.other (hne := hne') | apply At.other (hne := hne)))); (focus rfl))⟩, ⟨by (with_reducible repeat (first | exact KeepBut.refl _ _ _ | apply KeepBut.set_ | apply kb_row | apply kb_drewN | apply kb_drew | apply kb_alloc))⟩, ⟨by (with_reducible repeat (first | exact Below.refl _ _ | apply pw_below_drewN | apply below_drew1 | refine bl_set ?_ (Nat.le_refl _) | refine bl_set ?_ (Nat.le_of_lt hgb)))⟩⟩
  intro gk a_ wr h
  refine h.elim fun u2 h => h.elim fun u3 h => h.elim fun u4 h => h.elim fun u5 h => h.elim fun u6 h => h.elim fun u7 h => h.elim fun u8 h => h.elim fun u9 h => h.elim fun u10 h => h.elim fun u11 h => h.elim fun u12 h => h.elim fun u13 h => h.elim fun u14 h => h.elim fun u15 h => h.elim fun u16 h => h.elim fun u17 h => h.elim fun u18 h => h.elim fun u19 h => h.elim fun u20 h => h.elim fun u21 h => h.elim fun u22 h => h.elim fun u23 h => h.elim fun u24 h => h.elim fun u25 h => h.elim fun u26 h => h.elim fun u27 h => h.elim fun u28 h => h.elim fun u29 h => h.elim fun u30 h => h.elim fun u31 h => h.elim fun u32 h => h.elim fun u33 h => h.elim fun u34 h => h.elim fun u35 h => h.elim fun u36 h => h.elim fun u37 h => h.elim fun u38 h => h.elim fun u39 h => h.elim fun u40 h => h.elim fun u41 h => h.elim fun u42 h => h.elim fun u43 h => h.elim fun u44 h => h.elim fun u45 h => h.elim fun u46 h => h.elim fun u47 h => h.elim fun u48 h => h.elim fun u49 h => h.elim fun u50 h => h.elim fun u51 h => h.elim fun u52 h => h.elim fun u53 h => h.elim fun u54 h => h.elim fun u55 h => h.elim fun u56 h => h.elim fun u57 h => h.elim fun u58 h => h.elim fun u59 h => h.elim fun u60 h => h.elim fun u61 h => h.elim fun u62 h => h.elim fun u63 h => h.elim fun u64 h => h.elim fun u65 h => h.elim fun u66 h => h.elim fun u67 h => h.elim fun u68 h => h.elim fun u69 h => h.elim fun u70 h => h.elim fun u71 h => h.elim fun u72 h => h.elim fun u73 h => h.elim fun u74 h => h.elim fun u75 h => h.elim fun u76 h => h.elim fun u77 h => h.elim fun u78 h => ?_
  obtain ⟨⟨q, hq, hS, HG, HB, HK, HL⟩, ha⟩ := h
  subst ha
  try dsimp only
  intro _ _ _ _
  obtain ⟨hq0, hq1, hq2⟩ := hq.out
  clear hq c0 d0
  have q0 : wr.cell? ⟨g, 0, none⟩ = some (.string s) := (blk_cell HG.out 0).trans rfl
  have q1 : wr.cell? ⟨g, 1, none⟩ = some (.int .i64 q) := (blk_cell HG.out 1).trans rfl
  have f1 := blk_frozen HG.out 1
  have c2 : wr.cell? ⟨b, 2, none⟩ = some (.int .i64 p) := (blk_cell HB.out 2).trans rfl
  have c3 : wr.cell? ⟨b, 3, none⟩ = some (.string ⟨#[]⟩) := (blk_cell HB.out 3).trans rfl
  have d3 := blk_frozen HB.out 3
  have more : q < (s.size : Int) ∧ isNm (bt s q) = true ∨ ¬ (q < (s.size : Int) ∧ isNm (bt s q) = true) := by by_cases h : q < (s.size : Int) ∧ isNm (bt s q) = true <;> simp [h]
  rcases more with ⟨h1q, h2q⟩ | hno
  · cases gk with
    | zero => omega
    | succ d =>
      have HS2 : Aside0 (scan isNm s d (q + 1) = scan isNm s s.size p) := ⟨by have := hS.out; rwa [scan, if_pos h1q, if_pos h2q] at this⟩
      clear hS
      have b1 : decide (q < (s.size : Int)) = true := decide_eq_true h1q
      have hx := bt_at s q
      have e0 : 0 ≤ q := by omega
      replace e0 := eq_true e0
      have e1 := eq_true h1q
      have hr := bt_range s q
      simp only [isNm, Bool.or_eq_true, Bool.and_eq_true, decide_eq_true_eq, beq_iff_eq] at h2q
      generalize bt s q = x at *
      clear h1q
      have hcase : (decide (97 ≤ x) = true ∧ decide (x ≤ 122) = true) ∨ (decide (97 ≤ x) = false ∧ decide (48 ≤ x) = true ∧ decide (x ≤ 57) = true) ∨ (decide (97 ≤ x) = false ∧ decide (48 ≤ x) = false ∧ (x == 45) = true) := by
        simp only [decide_eq_true_eq, decide_eq_false_iff_not, beq_iff_eq]; omega
      clear h2q
      have HC := Aside0.mk hcase
      clear hcase
      go_wp2
      go_quiet (fail)
      go_wp2
      go_quiet (fail)
      rcases HC.out with ⟨t1, t2⟩ | ⟨t1, t2, t3⟩ | ⟨t1, t2, t3⟩
      all_goals
        clear HC
        go_wp2
        go_step3
        refine And.intro (Eq.refl 0) ?_
        go_step
        go_roundg d
        case measure => omega
        case rel => exact ⟨q + 1, ⟨by omega, by have := of_eq_true e1; omega, by omega⟩, HS2, ⟨by (apply At.fin; (focus (with_reducible repeat (first | exact HG.out | exact HB.out | apply At.drew | apply At.drewN | apply At.alloc | (refine At.set (cs := ?_) ?_ _ _; rotate_left) | apply At.other (hne := hne') | apply At.other (hne := hne)))); (focus rfl))⟩, ⟨by (apply At.fin; (focus (with_reducible repeat (first | exact HG.out | exact HB.out | apply At.drew | apply At.drewN | apply At.alloc | (refine At.set (cs := ?_) ?_ _ _; rotate_left) | apply At.other (hne := hne') | apply At.other (hne := hne)))); (focus rfl))⟩, ⟨by (with_reducible repeat (first | exact HK.out | apply KeepBut.set_ | apply kb_row | apply kb_drewN | apply kb_drew | apply kb_alloc))⟩, ⟨by (with_reducible repeat (first | exact HL.out | apply pw_below_drewN | apply below_drew1 | refine bl_set ?_ (Nat.le_refl _) | refine bl_set ?_ (Nat.le_of_lt hgb)))⟩⟩
  · have hQ : scan isNm s s.size p = q := by
      have h := hS.out
      cases gk with
      | zero => rw [← h, scan]
      | succ d =>
        rw [scan] at h
        by_cases a : q < (s.size : Int)
        · rw [if_pos a, if_neg (fun e => hno ⟨a, e⟩)] at h; exact h.symm
        · rw [if_neg a] at h; exact h.symm
    have hz : ((s.extract p.toNat q.toNat).size : Int) = q - p := by rw [ByteArray.size_extract]; omega
    have l1 : p ≤ q := hq0
    have hend : Aside0 (decide (q < (s.size : Int)) = false ∨ (q < (s.size : Int) ∧ ((decide (97 ≤ bt s q) = true ∧ decide (bt s q ≤ 122) = false ∧ decide (48 ≤ bt s q) = true ∧ decide (bt s q ≤ 57) = false ∧ (bt s q == 45) = false) ∨
        (decide (97 ≤ bt s q) = false ∧ decide (48 ≤ bt s q) = true ∧ decide (bt s q ≤ 57) = false ∧ (bt s q == 45) = false) ∨ (decide (97 ≤ bt s q) = false ∧ decide (48 ≤ bt s q) = false ∧ (bt s q == 45) = false)))) := by
      refine ⟨?_⟩
      by_cases a : q < (s.size : Int)
      · refine .inr ⟨a, ?_⟩
        have h := fun e => hno ⟨a, e⟩
        simp only [isNm, Bool.or_eq_true, Bool.and_eq_true, decide_eq_true_eq, beq_iff_eq] at h
        simp only [decide_eq_true_eq, decide_eq_false_iff_not, beq_eq_false_iff_ne]
        have : ∀ x : Int, ¬((97 ≤ x ∧ x ≤ 122 ∨ 48 ≤ x ∧ x ≤ 57) ∨ x = 45) → (97 ≤ x ∧ ¬x ≤ 122 ∧ 48 ≤ x ∧ ¬x ≤ 57 ∧ x ≠ 45) ∨ (¬97 ≤ x ∧ 48 ≤ x ∧ ¬x ≤ 57 ∧ x ≠ 45) ∨ (¬97 ≤ x ∧ ¬48 ≤ x ∧ x ≠ 45) := by intro x hx; omega
        exact this _ h
      · exact .inl (decide_eq_false a)
    clear hno
    by_cases c16 : 16 < q - p
    · have hF : nameF s p = .bad p 11 := by unfold nameF; rw [hQ]; exact if_pos c16
      rw [hF]
      have C16 := Aside0.mk c16
      clear hQ hF hS hz c16
      rcases hend.out with b1 | ⟨h1q, ⟨t1, t2, t3, t4, t5⟩ | ⟨t1, t2, t3, t4⟩ | ⟨t1, t2, t3⟩⟩
      all_goals clear hend
      rotate_left
      all_goals try
        have hx := bt_at s q
        have e0 : 0 ≤ q := by omega
        replace e0 := eq_true e0
        have e1 := eq_true h1q
        have b1 : decide (q < (s.size : Int)) = true := decide_eq_true h1q
        clear h1q
        go_wp2
        go_quiet (fail)
      all_goals
        go_wp2
        go_quiet (fail)
        go_wp2
        go_region
        go_wp2_with (first | (go_at_call 20; refine (stop_ _ _ _).mono ?_; rintro e w2 ⟨rfl, hw⟩; subst hw; unfold flt))
        all_goals first | exact ⟨rfl, rfl, by (with_reducible repeat (first | exact HK.out | apply KeepBut.set_ | apply kb_row | apply kb_drewN | apply kb_drew | apply kb_alloc)), by (with_reducible repeat (first | exact HL.out | apply pw_below_drewN | apply below_drew1 | refine bl_set ?_ (Nat.le_refl _) | refine bl_set ?_ (Nat.le_of_lt hgb)))⟩ | (exfalso; have := C16.out; omega)
    · have hF : nameF s p = .ok (q, ⟨110, false, p, s.extract p.toNat q.toNat, 0⟩) := by unfold nameF; rw [hQ]; exact if_neg c16
      rw [hF]
      have C16 := Aside0.mk c16
      clear hQ hF hS hz c16
      rcases hend.out with b1 | ⟨h1q, ⟨t1, t2, t3, t4, t5⟩ | ⟨t1, t2, t3, t4⟩ | ⟨t1, t2, t3⟩⟩
      all_goals clear hend
      rotate_left
      all_goals try
        have hx := bt_at s q
        have e0 : 0 ≤ q := by omega
        replace e0 := eq_true e0
        have e1 := eq_true h1q
        have b1 : decide (q < (s.size : Int)) = true := decide_eq_true h1q
        clear h1q
        go_wp2
        go_quiet (fail)
      all_goals
        go_wp2
        go_quiet (fail)
        go_wp2
        go_region
        go_wp2_with (first | (go_at_call 20; refine (stop_ _ _ _).mono ?_; rintro e w2 ⟨rfl, hw⟩; subst hw; unfold flt))
        all_goals (try simp only [Exit.then, Exit.jump])
        all_goals first | (go_end0; exact ⟨rfl, by (apply At.fin; (focus (with_reducible repeat (first | exact HG.out | exact HB.out | apply At.drew | apply At.drewN | apply At.alloc | (refine At.set (cs := ?_) ?_ _ _; rotate_left) | apply At.other (hne := hne') | apply At.other (hne := hne)))); (focus rfl)), by (apply At.fin; (focus (with_reducible repeat (first | exact HG.out | exact HB.out | apply At.drew | apply At.drewN | apply At.alloc | (refine At.set (cs := ?_) ?_ _ _; rotate_left) | apply At.other (hne := hne') | apply At.other (hne := hne)))); (focus rfl)), by (with_reducible repeat (first | exact HK.out | apply KeepBut.set_ | apply kb_row | apply kb_drewN | apply kb_drew | apply kb_alloc)), by (with_reducible repeat (first | exact HL.out | apply pw_below_drewN | apply below_drew1 | refine bl_set ?_ (Nat.le_refl _) | refine bl_set ?_ (Nat.le_of_lt hgb)))⟩) | (exfalso; have := C16.out; omega)
end Go.Proofs.Ytmgljgmieomngaa.Pz
