/- Strings. -/
import Derived.Test.YtmgljgmieomngaaPz0
namespace Go.Proofs.Ytmgljgmieomngaa.Pz
open Go Go.RowKit Go.Proofs.YtmgljgmieomngaaW.PrintWords Go.Proofs.YtmgljgmieomngaaW.PrintLast Go.Proofs.YtmgljgmieomngaaW.PrintMore Go.Proofs.Ytmgljgmieomngaa.Q
attribute [local go_sem] run_store_complex run_store_float isSome_setCell
set_option linter.unusedVariables false
set_option linter.unusedSimpArgs false
theorem hexF_le (c : Int) : hexF c ≤ 15 := by
  unfold hexF
  split
  · omega
  · split <;> omega
theorem hex_or (a b : Int) (h0 : 0 ≤ a) (h1 : a ≤ 15) (h2 : 0 ≤ b) (h3 : b ≤ 15) : bits BinOp.or IntKind.i64 (wrap64 (a * 16)) b % 256 = a * 16 + b := by
  have key : ∀ x y : Fin 16, bits BinOp.or IntKind.i64 (wrap64 ((x.val : Int) * 16)) (y.val : Int) % 256 = (x.val : Int) * 16 + y.val := by decide +kernel
  have h := key ⟨a.toNat, by omega⟩ ⟨b.toNat, by omega⟩
  simp only [Int.toNat_of_nonneg h0, Int.toNat_of_nonneg h2] at h
  exact h
theorem rest_at (s : ByteArray) (q : Int) (h0 : 0 ≤ q) (Y : ByteArray) (hY : s.extract q.toNat s.size = Y) (i : Nat) : ∀ h : i < Y.size, ((Y[i]'h).toNat : Int) = bt s (q + i) := by
  subst hY
  intro h
  rw [ByteArray.size_extract] at h
  rw [ByteArray.getElem_extract]
  rw [← bt_at s (q + i) (by omega)]
  have e : (q + i).toNat = q.toNat + i := by omega
  simp only [e]
set_option maxHeartbeats 8000000 in
set_option maxRecDepth 100000 in
theorem hex_ (c : Int) (w : World) (h0 : 0 ≤ c) (h1 : c ≤ 255) : Calls Try.prog 63 #[.int .u8 c] w fun e w' => e = .returned (.int .i64 (hexF c)) ∧ w' = w := by
  obtain ⟨O, hO⟩ : ∃ O, hexF c = O := ⟨_, rfl⟩
  rw [hO]
  have HO := Aside0.mk hO
  clear hO
  by_cases a : 48 ≤ c
  · have a1 : decide (48 ≤ c) = true := decide_eq_true a
    by_cases b : c ≤ 57
    · have b1 : decide (c ≤ 57) = true := decide_eq_true b
      obtain rfl : O = c - 48 := by rw [← HO.out, hexF, if_pos ⟨a, b⟩]
      go_enter Try.func63, Try.ntmps63
      go_wp2
      go_ret
      exact ⟨rfl, rfl⟩
    · have b1 : decide (c ≤ 57) = false := decide_eq_false b
      by_cases d : 97 ≤ c
      · have d1 : decide (97 ≤ c) = true := decide_eq_true d
        by_cases e : c ≤ 102
        · have e1 : decide (c ≤ 102) = true := decide_eq_true e
          obtain rfl : O = c - 97 + 10 := by rw [← HO.out, hexF, if_neg (fun h => b h.2), if_pos ⟨d, e⟩]; omega
          go_enter Try.func63, Try.ntmps63
          go_wp2
          go_ret
          exact ⟨rfl, rfl⟩
        · have e1 : decide (c ≤ 102) = false := decide_eq_false e
          obtain rfl : O = -1 := by rw [← HO.out, hexF, if_neg (fun h => b h.2), if_neg (fun h => e h.2)]
          go_enter Try.func63, Try.ntmps63
          go_wp2
          go_ret
          exact ⟨rfl, rfl⟩
      · have d1 : decide (97 ≤ c) = false := decide_eq_false d
        obtain rfl : O = -1 := by rw [← HO.out, hexF, if_neg (fun h => b h.2), if_neg (fun h => d h.1)]
        go_enter Try.func63, Try.ntmps63
        go_wp2
        go_ret
        exact ⟨rfl, rfl⟩
  · have a1 : decide (48 ≤ c) = false := decide_eq_false a
    have d1 : decide (97 ≤ c) = false := decide_eq_false (by omega)
    obtain rfl : O = -1 := by rw [← HO.out, hexF, if_neg (fun h => a h.1), if_neg (fun h => by omega)]
    go_enter Try.func63, Try.ntmps63
    go_wp2
    go_ret
    exact ⟨rfl, rfl⟩
set_option maxHeartbeats 8000000 in
set_option maxRecDepth 100000 in
theorem str_ (w : World) (g b : Nat) (s : ByteArray) (v : Value) (u0 : Wd) (p c : Int) (hg : At w g (RC s ⟨p, u0⟩ v) 61) (hb : At w b (WC ⟨c, false, p, ⟨#[]⟩, 0⟩) 59) (hgb : g < b) (h0 : 0 ≤ p) (h1 : p < (s.size : Int)) (hs : s.size ≤ 400) :
    Calls Try.prog 37 #[.pointer (some ⟨g, 0, none⟩), .pointer (some ⟨b, 0, none⟩)] w (Lex w g b s v u0 (strF s p)) := by
  have hu61 := Try.underlying61
  have hu59 := Try.underlying59
  have HG := Aside0.mk hg
  have HB := Aside0.mk hb
  have HK := Aside0.mk (KeepBut.refl w g (some b))
  have HL := Aside0.mk (Below.refl g w)
  have hne : g ≠ b := by omega
  have hne' : b ≠ g := by omega
  have lt1 := hg.lt
  have lt2 := hb.lt
  have q1 : w.cell? ⟨g, 1, none⟩ = some (.int .i64 p) := (blk_cell hg 1).trans rfl
  have f1 := blk_frozen hg 1
  have c0 : w.cell? ⟨b, 0, none⟩ = some (.int .u8 c) := (blk_cell hb 0).trans rfl
  have d0 := blk_frozen hb 0
  clear hg hb
  obtain ⟨O, hO⟩ : ∃ O, strF s p = O := ⟨_, rfl⟩
  rw [hO]
  have HO := Aside0.mk hO
  clear hO
  go_enter Try.func37, Try.ntmps37
  go_upto_block 0 with (fail)
  go_cut [4] (fun v4 wc => ∃ (q : Int) (out : List Int), Aside0 (p < q ∧ q < (s.size : Int) ∧ (out.length : Int) ≤ q) ∧ Aside0 (strB s p (s.size + 1) (p + 1) [] = .ok (q + 1, out)) ∧ Aside0 (Kd.R (Kd.int .u8) 5 wc w.heap.size (fun k => k ≠ g ∧ k ≠ b) v4 out) ∧ Aside0 (At wc g (RC s ⟨q, u0⟩ v) 61) ∧ Aside0 (At wc b (WC ⟨115, false, p, ⟨#[]⟩, 0⟩) 59) ∧ Aside0 (KeepBut w wc g (some b)) ∧ Aside0 (Below g w wc))
  case first =>
    go_wp2
    go_loopg [4] (s.size + 1) (fun d v4 w' => ∃ (q : Int) (out : List Int), Aside0 (p < q ∧ q ≤ (s.size : Int) ∧ (s.size : Int) + 1 ≤ q + d ∧ (out.length : Int) ≤ q) ∧ Aside0 (strB s p d q out = strB s p (s.size + 1) (p + 1) []) ∧ Aside0 (Kd.R (Kd.int .u8) 5 w' w.heap.size (fun k => k ≠ g ∧ k ≠ b) v4 out) ∧ Aside0 (At w' g (RC s ⟨q, u0⟩ v) 61) ∧ Aside0 (At w' b (WC ⟨115, false, p, ⟨#[]⟩, 0⟩) 59) ∧ Aside0 (KeepBut w w' g (some b)) ∧ Aside0 (Below g w w'))
    case atStart => exact ⟨p + 1, [], ⟨by omega, by omega, by omega, by simp; omega⟩, ⟨rfl⟩, ⟨Kd.R_nil _ _ _ _ _⟩, ⟨by (apply At.fin; (focus (with_reducible repeat (first | exact HG.out | exact HB.out | apply At.drew | apply At.drewN | apply At.alloc | (refine At.set (cs := ?_) ?_ _ _; rotate_left) | apply At.other (hne := hne') | apply At.other (hne := hne)))); (focus rfl))⟩, ⟨by (apply At.fin; (focus (with_reducible repeat (first | exact HG.out | exact HB.out | apply At.drew | apply At.drewN | apply At.alloc | (refine At.set (cs := ?_) ?_ _ _; rotate_left) | apply At.other (hne := hne') | apply At.other (hne := hne)))); (focus rfl))⟩, ⟨by (with_reducible repeat (first | exact KeepBut.refl _ _ _ | exact HK.out | apply KeepBut.set_ | apply kb_row | apply kb_drewN | apply kb_drew | apply kb_alloc))⟩, ⟨by (with_reducible repeat (first | exact Below.refl _ _ | exact HL.out | apply pw_below_drewN | apply below_drew1 | refine bl_set ?_ (Nat.le_refl _) | refine bl_set ?_ (Nat.le_of_lt hgb)))⟩⟩
    clear q1 f1 c0 d0 HG HB HK HL
    obtain ⟨q, out, hq, hS, HR, HG, HB, HK, HL⟩ := hrel
    obtain ⟨hq0, hq1, hq2, hq3⟩ := hq.out
    clear hq
    have q0 : wr.cell? ⟨g, 0, none⟩ = some (.string s) := (blk_cell HG.out 0).trans rfl
    have q1 : wr.cell? ⟨g, 1, none⟩ = some (.int .i64 q) := (blk_cell HG.out 1).trans rfl
    have f1 := blk_frozen HG.out 1
    have c2 : wr.cell? ⟨b, 2, none⟩ = some (.int .i64 p) := (blk_cell HB.out 2).trans rfl
    have hx := bt_at s q
    have e0 : 0 ≤ q := by omega
    replace e0 := eq_true e0
    have hr := bt_range s q
    cases gk with
    | zero => omega
    | succ d =>
    have hS1 := hS.out
    rw [strB] at hS1
    by_cases a : q ≥ (s.size : Int) ∨ bt s q < 32 ∨ bt s q > 126
    · rw [if_pos a] at hS1
      obtain rfl : O = .bad p 4 := by rw [← HO.out, strF, ← hS1]; rfl
      clear hS hS1 HO
      have HA : Aside0 (decide ((s.size : Int) ≤ q) = true ∨ (decide ((s.size : Int) ≤ q) = false ∧ (decide (bt s q < 32) = true ∨ (decide (bt s q < 32) = false ∧ decide (126 < bt s q) = true)))) := by
        refine ⟨?_⟩
        simp only [decide_eq_true_eq, decide_eq_false_iff_not]
        omega
      clear a
      rcases HA.out with b1 | ⟨b1, b2 | ⟨b2, b3⟩⟩
      all_goals clear HA
      rotate_left
      all_goals try
        have e1 : q < (s.size : Int) := by have := of_decide_eq_false b1; omega
        replace e1 := eq_true e1
      all_goals
        go_wp2
        go_quiet (fail)
        go_wp2_with (first | (go_at_call 20; refine (stop_ _ _ _).mono ?_; rintro e w2 ⟨rfl, hw⟩; subst hw; unfold flt))
        exact ⟨rfl, rfl, by (with_reducible repeat (first | exact KeepBut.refl _ _ _ | exact HK.out | apply KeepBut.set_ | apply kb_row | apply kb_drewN | apply kb_drew | apply kb_alloc)), by (with_reducible repeat (first | exact Below.refl _ _ | exact HL.out | apply pw_below_drewN | apply below_drew1 | refine bl_set ?_ (Nat.le_refl _) | refine bl_set ?_ (Nat.le_of_lt hgb)))⟩
    · rw [if_neg a] at hS1
      have e1 : q < (s.size : Int) := by omega
      have b1 : decide ((s.size : Int) ≤ q) = false := decide_eq_false (by omega)
      have b2 : decide (bt s q < 32) = false := decide_eq_false (by omega)
      have b3 : decide (126 < bt s q) = false := decide_eq_false (by omega)
      have hqs : q < (s.size : Int) := e1
      replace e1 := eq_true e1
      clear a
      by_cases a : bt s q = 34
      · rw [if_pos a] at hS1
        have HS2 := Aside0.mk (hS.out.symm.trans (by rw [strB, if_neg (by have := of_decide_eq_false b1; have := of_decide_eq_false b2; have := of_decide_eq_false b3; omega), if_pos a] : strB s p (d + 1) q out = .ok (q + 1, out)))
        have a' : (bt s q == 34) = true := by simpa using a
        clear a hS hS1
        go_wp2
        go_quiet (fail)
        go_wp2
        go_quiet (fail)
        go_wp2
        go_meet
        case rel => exact ⟨q, out, ⟨hq0, hqs, hq3⟩, HS2, ⟨by (with_reducible repeat (first | exact HR.out | apply Kd.R_drewN | apply Kd.R_drew | apply Kd.R_alloc | refine Kd.R_far (p := ⟨g, 1, none⟩) ?_ (fun k hk => hk.1) _ | refine Kd.R_far (p := ⟨b, 3, none⟩) ?_ (fun k hk => hk.2) _))⟩, ⟨by (apply At.fin; (focus (with_reducible repeat (first | exact HG.out | exact HB.out | apply At.drew | apply At.drewN | apply At.alloc | (refine At.set (cs := ?_) ?_ _ _; rotate_left) | apply At.other (hne := hne') | apply At.other (hne := hne)))); (focus rfl))⟩, ⟨by (apply At.fin; (focus (with_reducible repeat (first | exact HG.out | exact HB.out | apply At.drew | apply At.drewN | apply At.alloc | (refine At.set (cs := ?_) ?_ _ _; rotate_left) | apply At.other (hne := hne') | apply At.other (hne := hne)))); (focus rfl))⟩, ⟨by (with_reducible repeat (first | exact KeepBut.refl _ _ _ | exact HK.out | apply KeepBut.set_ | apply kb_row | apply kb_drewN | apply kb_drew | apply kb_alloc))⟩, ⟨by (with_reducible repeat (first | exact Below.refl _ _ | exact HL.out | apply pw_below_drewN | apply below_drew1 | refine bl_set ?_ (Nat.le_refl _) | refine bl_set ?_ (Nat.le_of_lt hgb)))⟩⟩
      · rw [if_neg a] at hS1
        have a' : (bt s q == 34) = false := by simpa using a
        clear a
        have HS1 := Aside0.mk hS1
        clear hS hS1
        go_wp2
        go_quiet (fail)
        go_wp2
        go_quiet (fail)
        go_upto_if 75 with (fail)
        go_cut [5] (fun v5 wc => ∃ (q' y : Int), v5 = .int .u8 y ∧ Aside0 (0 ≤ y ∧ y ≤ 255) ∧ Aside0 (p < q' ∧ q' < (s.size : Int) ∧ q ≤ q') ∧ Aside0 (strB s p d (q' + 1) (out ++ [y]) = strB s p (s.size + 1) (p + 1) []) ∧ Aside0 (Kd.R (Kd.int .u8) 5 wc w.heap.size (fun k => k ≠ g ∧ k ≠ b) u4 out) ∧ Aside0 (At wc g (RC s ⟨q', u0⟩ v) 61) ∧ Aside0 (At wc b (WC ⟨115, false, p, ⟨#[]⟩, 0⟩) 59) ∧ Aside0 (KeepBut w wc g (some b)) ∧ Aside0 (Below g w wc))
        case first =>
          have hS1 := HS1.out
          clear HS1
          by_cases a : bt s q = 92
          · rw [if_pos a] at hS1
            have a2 : (bt s q == 92) = true := by simpa using a
            clear a
            obtain ⟨Y, hY⟩ : ∃ Y, s.extract (q + 1).toNat s.size = Y := ⟨_, rfl⟩
            have hYs : (Y.size : Int) = (s.size : Int) - (q + 1) := by rw [← hY, ByteArray.size_extract]; omega
            have hY0 := rest_at s (q + 1) (by omega) Y hY 0
            have hY1 := rest_at s (q + 1) (by omega) Y hY 1
            have hY2 := rest_at s (q + 1) (by omega) Y hY 2
            rw [show q + 1 + ((0 : Nat) : Int) = q + 1 by omega] at hY0
            rw [show q + 1 + ((1 : Nat) : Int) = q + 2 by omega] at hY1
            rw [show q + 1 + ((2 : Nat) : Int) = q + 3 by omega] at hY2
            have r0 := bt_range s (q + 1)
            have r1 := bt_range s (q + 2)
            have r2 := bt_range s (q + 3)
            have HY := Aside0.mk hY
            have HYs := Aside0.mk hYs
            clear hY hYs
            by_cases m : q + 1 < (s.size : Int) ∧ (bt s (q + 1) = 34 ∨ bt s (q + 1) = 92)
            · rw [if_pos m] at hS1
              have HS2 := Aside0.mk hS1
              clear hS1
              obtain ⟨m1, m2⟩ := m
              have l1 : 0 < Y.size := by have := HYs.out; omega
              have l1' : decide (0 < Y.size) = true := decide_eq_true l1
              have l2 : decide ((0 : Int) < (Y.size : Int)) = true := decide_eq_true (by omega)
              have M2 : Aside0 ((bt s (q + 1) == 34) = true ∨ ((bt s (q + 1) == 34) = false ∧ (bt s (q + 1) == 92) = true)) := by
                refine ⟨?_⟩
                simp only [beq_iff_eq, beq_eq_false_iff_ne]
                omega
              clear m2
              rcases M2.out with b4 | ⟨b4, b5⟩
              all_goals
                clear M2
                go_wp2
                go_quiet (fail)
                rw [HY.out]
                go_wp2
                go_meet
                case rel => exact ⟨q + 1, _, rfl, ⟨by omega, by omega⟩, ⟨by omega, by omega, by omega⟩, HS2, ⟨by (with_reducible repeat (first | exact HR.out | apply Kd.R_drewN | apply Kd.R_drew | apply Kd.R_alloc | refine Kd.R_far (p := ⟨g, 1, none⟩) ?_ (fun k hk => hk.1) _ | refine Kd.R_far (p := ⟨b, 3, none⟩) ?_ (fun k hk => hk.2) _))⟩, ⟨by (apply At.fin; (focus (with_reducible repeat (first | exact HG.out | exact HB.out | apply At.drew | apply At.drewN | apply At.alloc | (refine At.set (cs := ?_) ?_ _ _; rotate_left) | apply At.other (hne := hne') | apply At.other (hne := hne)))); (focus rfl))⟩, ⟨by (apply At.fin; (focus (with_reducible repeat (first | exact HG.out | exact HB.out | apply At.drew | apply At.drewN | apply At.alloc | (refine At.set (cs := ?_) ?_ _ _; rotate_left) | apply At.other (hne := hne') | apply At.other (hne := hne)))); (focus rfl))⟩, ⟨by (with_reducible repeat (first | exact KeepBut.refl _ _ _ | exact HK.out | apply KeepBut.set_ | apply kb_row | apply kb_drewN | apply kb_drew | apply kb_alloc))⟩, ⟨by (with_reducible repeat (first | exact Below.refl _ _ | exact HL.out | apply pw_below_drewN | apply below_drew1 | refine bl_set ?_ (Nat.le_refl _) | refine bl_set ?_ (Nat.le_of_lt hgb)))⟩⟩
            · rw [if_neg m] at hS1
              by_cases m3 : q + 3 < (s.size : Int) ∧ bt s (q + 1) = 120 ∧ hexF (bt s (q + 2)) ≥ 0 ∧ hexF (bt s (q + 3)) ≥ 0
              · rw [if_pos m3] at hS1
                have HS2 := Aside0.mk hS1
                clear hS1 m
                obtain ⟨n1, n2, n3, n4⟩ := m3
                have l1 : 0 < Y.size := by have := HYs.out; omega
                have l2 : 1 < Y.size := by have := HYs.out; omega
                have l3 : 2 < Y.size := by have := HYs.out; omega
                have b4 : (bt s (q + 1) == 34) = false := by rw [n2]; decide
                have b5 : (bt s (q + 1) == 92) = false := by rw [n2]; decide
                have b6 : (bt s (q + 1) == 120) = true := by rw [n2]; decide
                have b7 : decide (0 ≤ hexF (bt s (q + 2))) = true := decide_eq_true n3
                have b8 : decide (0 ≤ hexF (bt s (q + 3))) = true := decide_eq_true n4
                have hv : bits BinOp.or IntKind.i64 (wrap64 (hexF (bt s (q + 2)) * 16)) (hexF (bt s (q + 3))) % 256 = hexF (bt s (q + 2)) * 16 + hexF (bt s (q + 3)) := hex_or _ _ (of_decide_eq_true b7) (hexF_le _) (of_decide_eq_true b8) (hexF_le _)
                have hv0 : 0 ≤ hexF (bt s (q + 2)) * 16 + hexF (bt s (q + 3)) ∧ hexF (bt s (q + 2)) * 16 + hexF (bt s (q + 3)) ≤ 255 := by
                  have := of_decide_eq_true b7; have := of_decide_eq_true b8; have := hexF_le (bt s (q + 2)); have := hexF_le (bt s (q + 3)); omega
                have HV := Aside0.mk hv
                have HV0 := Aside0.mk hv0
                clear hv hv0
                clear n2 n3 n4
                go_wp2
                go_quiet (fail)
                rw [HY.out]
                go_wp2_with (go_at_call 63; refine (hex_ _ _ (by omega) (by omega)).mono ?_; rintro e w2 ⟨rfl, hw⟩; subst hw)
                go_region_with ((go_at_call 63; refine (hex_ _ _ (by omega) (by omega)).mono ?_; rintro e w2 ⟨rfl, hw⟩; subst hw))
                all_goals
                  go_wp2
                  go_meet
                  case rel => exact ⟨q + 3, _, rfl, ⟨by rw [HV.out]; exact HV0.out⟩, ⟨by omega, by omega, by omega⟩, ⟨by rw [HV.out]; exact HS2.out⟩, ⟨by (with_reducible repeat (first | exact HR.out | apply Kd.R_drewN | apply Kd.R_drew | apply Kd.R_alloc | refine Kd.R_far (p := ⟨g, 1, none⟩) ?_ (fun k hk => hk.1) _ | refine Kd.R_far (p := ⟨b, 3, none⟩) ?_ (fun k hk => hk.2) _))⟩, ⟨by (apply At.fin; (focus (with_reducible repeat (first | exact HG.out | exact HB.out | apply At.drew | apply At.drewN | apply At.alloc | (refine At.set (cs := ?_) ?_ _ _; rotate_left) | apply At.other (hne := hne') | apply At.other (hne := hne)))); (focus rfl))⟩, ⟨by (apply At.fin; (focus (with_reducible repeat (first | exact HG.out | exact HB.out | apply At.drew | apply At.drewN | apply At.alloc | (refine At.set (cs := ?_) ?_ _ _; rotate_left) | apply At.other (hne := hne') | apply At.other (hne := hne)))); (focus rfl))⟩, ⟨by (with_reducible repeat (first | exact KeepBut.refl _ _ _ | exact HK.out | apply KeepBut.set_ | apply kb_row | apply kb_drewN | apply kb_drew | apply kb_alloc))⟩, ⟨by (with_reducible repeat (first | exact Below.refl _ _ | exact HL.out | apply pw_below_drewN | apply below_drew1 | refine bl_set ?_ (Nat.le_refl _) | refine bl_set ?_ (Nat.le_of_lt hgb)))⟩⟩
              · rw [if_neg m3] at hS1
                obtain rfl : O = .bad p 4 := by rw [← HO.out, strF, ← hS1]; rfl
                clear hS1 HO
                have HM : Aside0 (Y.size = 0 ∨ (0 < Y.size ∧ (bt s (q + 1) == 34) = false ∧ (bt s (q + 1) == 92) = false ∧ (Y.size ≤ 2 ∨ (2 < Y.size ∧ ((bt s (q + 1) == 120) = false ∨ ((bt s (q + 1) == 120) = true ∧ (decide (0 ≤ hexF (bt s (q + 2))) = false ∨ (decide (0 ≤ hexF (bt s (q + 2))) = true ∧ decide (0 ≤ hexF (bt s (q + 3))) = false)))))))) := by
                  refine ⟨?_⟩
                  have := HYs.out
                  simp only [beq_iff_eq, beq_eq_false_iff_ne, decide_eq_true_eq, decide_eq_false_iff_not]
                  omega
                clear m m3
                rcases HM.out with k0 | ⟨k0, b4, b5, k2 | ⟨k2, b6 | ⟨b6, b7 | ⟨b7, b8⟩⟩⟩⟩
                all_goals clear HM
                · have k0' : decide (0 < Y.size) = false := decide_eq_false (by omega)
                  have k2' : decide (2 < Y.size) = false := decide_eq_false (by omega)
                  have k0z : Aside0 (Y.size = 0) := ⟨k0⟩
                  clear k0
                  go_wp2
                  go_quiet (fail)
                  rw [HY.out]
                  go_wp2_with (first | (go_at_call 20; refine (stop_ _ _ _).mono ?_; rintro e w2 ⟨rfl, hw⟩; subst hw; unfold flt))
                  all_goals first | exact ⟨rfl, rfl, by (with_reducible repeat (first | exact KeepBut.refl _ _ _ | exact HK.out | apply KeepBut.set_ | apply kb_row | apply kb_drewN | apply kb_drew | apply kb_alloc)), by (with_reducible repeat (first | exact Below.refl _ _ | exact HL.out | apply pw_below_drewN | apply below_drew1 | refine bl_set ?_ (Nat.le_refl _) | refine bl_set ?_ (Nat.le_of_lt hgb)))⟩ | (exfalso; have := k0z.out; omega)
                · go_wp2
                  go_quiet (fail)
                  rw [HY.out]
                  go_wp2_with (first | (go_at_call 20; refine (stop_ _ _ _).mono ?_; rintro e w2 ⟨rfl, hw⟩; subst hw; unfold flt))
                  all_goals exact ⟨rfl, rfl, by (with_reducible repeat (first | exact KeepBut.refl _ _ _ | exact HK.out | apply KeepBut.set_ | apply kb_row | apply kb_drewN | apply kb_drew | apply kb_alloc)), by (with_reducible repeat (first | exact Below.refl _ _ | exact HL.out | apply pw_below_drewN | apply below_drew1 | refine bl_set ?_ (Nat.le_refl _) | refine bl_set ?_ (Nat.le_of_lt hgb)))⟩
                all_goals
                  have k1 : 1 < Y.size := by omega
                  go_wp2
                  go_quiet (fail)
                  rw [HY.out]
                  go_wp2_with (first | (go_at_call 20; refine (stop_ _ _ _).mono ?_; rintro e w2 ⟨rfl, hw⟩; subst hw; unfold flt) | (go_at_call 63; refine (hex_ _ _ (by omega) (by omega)).mono ?_; rintro e w2 ⟨rfl, hw⟩; subst hw))
                  all_goals exact ⟨rfl, rfl, by (with_reducible repeat (first | exact KeepBut.refl _ _ _ | exact HK.out | apply KeepBut.set_ | apply kb_row | apply kb_drewN | apply kb_drew | apply kb_alloc)), by (with_reducible repeat (first | exact Below.refl _ _ | exact HL.out | apply pw_below_drewN | apply below_drew1 | refine bl_set ?_ (Nat.le_refl _) | refine bl_set ?_ (Nat.le_of_lt hgb)))⟩
          · rw [if_neg a] at hS1
            have a2 : (bt s q == 92) = false := by simpa using a
            have HS2 := Aside0.mk hS1
            clear a hS1
            go_wp2
            go_meet
            case rel => exact ⟨q, _, rfl, ⟨by omega, by omega⟩, ⟨by omega, by omega, by omega⟩, HS2, ⟨by (with_reducible repeat (first | exact HR.out | apply Kd.R_drewN | apply Kd.R_drew | apply Kd.R_alloc | refine Kd.R_far (p := ⟨g, 1, none⟩) ?_ (fun k hk => hk.1) _ | refine Kd.R_far (p := ⟨b, 3, none⟩) ?_ (fun k hk => hk.2) _))⟩, ⟨by (apply At.fin; (focus (with_reducible repeat (first | exact HG.out | exact HB.out | apply At.drew | apply At.drewN | apply At.alloc | (refine At.set (cs := ?_) ?_ _ _; rotate_left) | apply At.other (hne := hne') | apply At.other (hne := hne)))); (focus rfl))⟩, ⟨by (apply At.fin; (focus (with_reducible repeat (first | exact HG.out | exact HB.out | apply At.drew | apply At.drewN | apply At.alloc | (refine At.set (cs := ?_) ?_ _ _; rotate_left) | apply At.other (hne := hne') | apply At.other (hne := hne)))); (focus rfl))⟩, ⟨by (with_reducible repeat (first | exact KeepBut.refl _ _ _ | exact HK.out | apply KeepBut.set_ | apply kb_row | apply kb_drewN | apply kb_drew | apply kb_alloc))⟩, ⟨by (with_reducible repeat (first | exact Below.refl _ _ | exact HL.out | apply pw_below_drewN | apply below_drew1 | refine bl_set ?_ (Nat.le_refl _) | refine bl_set ?_ (Nat.le_of_lt hgb)))⟩⟩
        case rest =>
          clear HK HL HG HB q0 q1 f1 c2 hx e0 e1 hr b1 b2 b3 a' HR HS1
          obtain ⟨q', y, rfl, hy, hq', hS, HR, HG, HB, HK, HL⟩ := hcut
          obtain ⟨hy0, hy1⟩ := hy.out
          obtain ⟨hq4, hq5, hq6⟩ := hq'.out
          clear hy hq'
          have q1 : wc.cell? ⟨g, 1, none⟩ = some (.int .i64 q') := (blk_cell HG.out 1).trans rfl
          have f1 := blk_frozen HG.out 1
          have hsz : w.heap.size ≤ wc.heap.size := HK.out.1
          have hol : out.length < 1000 := by omega
          go_wp2_with ((with_reducible refine gate_builtin (b := .append) (xs := #[.tmp 151, .tmp 153]) rfl ?_); at_builtin; refine Kd.R_append (Kd.int .u8) (w0 := wc) w.heap.size rfl (.tmp 151) (.tmp 153) 33 5 (.int .u8 0) 1 rfl Try.underlying33 info5 rfl (by decide) (by omega) u4 out y [.int .u8 y] (fun k => k ≠ g ∧ k ≠ b) (fun _ => False) rfl rfl rfl (fun _ hk => hk.elim) ?aF ?aO ?aB ?aS ?aL ?_; (case aF => exact (fun k (hk : wc.heap.size ≤ k) => ⟨by omega, by omega⟩)); (case aB => exact Below.refl _ _); (case aO => exact HR.out); (case aS => exact hsz); (case aL => omega); intro v5 w6 ho hb hg hat; have HG6 := Aside0.mk (show At w6 g (RC s ⟨q', u0⟩ v) 61 from blk_grown HG.out hg (fun e => (HR.out.1 g e.symm).1 rfl)); have HB6 := Aside0.mk (show At w6 b (WC ⟨115, false, p, ⟨#[]⟩, 0⟩) 59 from blk_grown HB.out hg (fun e => (HR.out.1 b e.symm).2 rfl)); have HK6 := Aside0.mk (kb_grown HK.out hg (Kd.R_base HR.out)); have HL6 := Aside0.mk (HL.out.trans (Below.less hb (by omega : g ≤ w.heap.size))); have HR6 := Aside0.mk ho; clear q1 f1 ho hb hg hat HR HG HB HK HL; have HR := HR6; have HG := HG6; have HB := HB6; have HK := HK6; have HL := HL6; clear HR6 HG6 HB6 HK6 HL6; have q1 : w6.cell? ⟨g, 1, none⟩ = some (.int .i64 q') := (blk_cell HG.out 1).trans rfl; have f1 := blk_frozen HG.out 1)
          go_roundg d
          case measure => omega
          case rel => exact ⟨q' + 1, _, ⟨by omega, by omega, by omega, by simp; omega⟩, hS, ⟨by (with_reducible repeat (first | exact HR.out | apply Kd.R_drewN | apply Kd.R_drew | apply Kd.R_alloc | refine Kd.R_far (p := ⟨g, 1, none⟩) ?_ (fun k hk => hk.1) _ | refine Kd.R_far (p := ⟨b, 3, none⟩) ?_ (fun k hk => hk.2) _))⟩, ⟨by (apply At.fin; (focus (with_reducible repeat (first | exact HG.out | exact HB.out | apply At.drew | apply At.drewN | apply At.alloc | (refine At.set (cs := ?_) ?_ _ _; rotate_left) | apply At.other (hne := hne') | apply At.other (hne := hne)))); (focus rfl))⟩, ⟨by (apply At.fin; (focus (with_reducible repeat (first | exact HG.out | exact HB.out | apply At.drew | apply At.drewN | apply At.alloc | (refine At.set (cs := ?_) ?_ _ _; rotate_left) | apply At.other (hne := hne') | apply At.other (hne := hne)))); (focus rfl))⟩, ⟨by (with_reducible repeat (first | exact KeepBut.refl _ _ _ | exact HK.out | apply KeepBut.set_ | apply kb_row | apply kb_drewN | apply kb_drew | apply kb_alloc))⟩, ⟨by (with_reducible repeat (first | exact Below.refl _ _ | exact HL.out | apply pw_below_drewN | apply below_drew1 | refine bl_set ?_ (Nat.le_refl _) | refine bl_set ?_ (Nat.le_of_lt hgb)))⟩⟩
  case rest =>
    clear q1 f1 c0 d0 HG HB HK HL
    obtain ⟨q, out, hq, hS, HR, HG, HB, HK, HL⟩ := hcut
    obtain ⟨hq0, hq1, hq2⟩ := hq.out
    clear hq
    have q1 : wc.cell? ⟨g, 1, none⟩ = some (.int .i64 q) := (blk_cell HG.out 1).trans rfl
    have f1 := blk_frozen HG.out 1
    have c2 : wc.cell? ⟨b, 2, none⟩ = some (.int .i64 p) := (blk_cell HB.out 2).trans rfl
    have c3 : wc.cell? ⟨b, 3, none⟩ = some (.string ⟨#[]⟩) := (blk_cell HB.out 3).trans rfl
    have d3 := blk_frozen HB.out 3
    have hO := HO.out
    rw [strF, hS.out] at hO
    simp only [Out.bind] at hO
    obtain ⟨A4, n4, e4⟩ := Kd.R_slice HR.out
    subst e4
    have hcv := own_string (P := Try.prog) Try.underlying33 Try.underlying5 Try.underlying9 (Kd.own_of_R (by (with_reducible repeat (first | exact HR.out | apply Kd.R_drewN | apply Kd.R_drew | apply Kd.R_alloc | refine Kd.R_far (p := ⟨g, 1, none⟩) ?_ (fun k hk => hk.1) _ | refine Kd.R_far (p := ⟨b, 3, none⟩) ?_ (fun k hk => hk.2) _)) : Kd.R (Kd.int .u8) 5 (wc.setCell ⟨g, 1, none⟩ (.int .i64 (q + 1))) w.heap.size (fun k => k ≠ g ∧ k ≠ b) (.slice A4 out.length n4) out))
    by_cases z : 200 < out.length
    · rw [if_pos z] at hO
      subst hO
      have z1 : decide (200 < out.length) = true := decide_eq_true z
      have z2 : decide ((200 : Int) < (out.length : Int)) = true := decide_eq_true (by omega)
      go_wp2_with (first | (go_at_call 20; refine (stop_ _ _ _).mono ?_; rintro e w2 ⟨rfl, hw⟩; subst hw; unfold flt))
      exact ⟨rfl, rfl, by (with_reducible repeat (first | exact KeepBut.refl _ _ _ | exact HK.out | apply KeepBut.set_ | apply kb_row | apply kb_drewN | apply kb_drew | apply kb_alloc)), by (with_reducible repeat (first | exact Below.refl _ _ | exact HL.out | apply pw_below_drewN | apply below_drew1 | refine bl_set ?_ (Nat.le_refl _) | refine bl_set ?_ (Nat.le_of_lt hgb)))⟩
    · rw [if_neg z] at hO
      subst hO
      have z1 : decide (200 < out.length) = false := decide_eq_false z
      have z2 : decide ((200 : Int) < (out.length : Int)) = false := decide_eq_false (by omega)
      go_wp2
      (try simp only [Exit.then, Exit.jump])
      go_end0
      exact ⟨rfl, by (apply At.fin; (focus (with_reducible repeat (first | exact HG.out | exact HB.out | apply At.drew | apply At.drewN | apply At.alloc | (refine At.set (cs := ?_) ?_ _ _; rotate_left) | apply At.other (hne := hne') | apply At.other (hne := hne)))); (focus rfl)), by (apply At.fin; (focus (with_reducible repeat (first | exact HG.out | exact HB.out | apply At.drew | apply At.drewN | apply At.alloc | (refine At.set (cs := ?_) ?_ _ _; rotate_left) | apply At.other (hne := hne') | apply At.other (hne := hne)))); (focus rfl)), by (with_reducible repeat (first | exact KeepBut.refl _ _ _ | exact HK.out | apply KeepBut.set_ | apply kb_row | apply kb_drewN | apply kb_drew | apply kb_alloc)), by (with_reducible repeat (first | exact Below.refl _ _ | exact HL.out | apply pw_below_drewN | apply below_drew1 | refine bl_set ?_ (Nat.le_refl _) | refine bl_set ?_ (Nat.le_of_lt hgb)))⟩
end Go.Proofs.Ytmgljgmieomngaa.Pz
