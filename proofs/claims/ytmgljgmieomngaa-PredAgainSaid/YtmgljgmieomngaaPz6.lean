/- A point's part, a point, a number or a string, any value. -/
import Derived.Test.YtmgljgmieomngaaPz5
import Derived.Test.YtmgljgmieomngaaPy2
namespace Go.Proofs.Ytmgljgmieomngaa.Pz
open Go Go.RowKit Go.Proofs.YtmgljgmieomngaaW.PrintWords Go.Proofs.YtmgljgmieomngaaW.PrintLast Go.Proofs.YtmgljgmieomngaaW.PrintMore Go.Proofs.Ytmgljgmieomngaa.Q
attribute [local go_sem] run_store_complex run_store_float isSome_setCell
set_option linter.unusedVariables false
set_option linter.unusedSimpArgs false
/-- a number of floats -/
def fenc (n : Int) : Value := .float .f64 (floatOfInt .f64 n)
/-- a value's cells, a value -/
def VC43 (x : S43) : Array Value := #[.int .i64 x.f0, .int .i64 x.f1, .string x.f2, .bool x.f3, .complex .f64 x.f4.re x.f4.im]
def venc (x : S43) : Value := .agg #[.int .i64 x.f0, .int .i64 x.f1, .string x.f2, .bool x.f3, .complex .f64 x.f4.re x.f4.im]
theorem next_all (g : Nat) (s : ByteArray) (v : Value) (t : St) (hi : In s t) (hs : s.size ≤ 400) {o : Out St} (ho : nextF s t.p = o) : ∀ W, At W g (RC s t v) 61 → Calls Try.prog 17 #[.pointer (some ⟨g, 0, none⟩)] W (Rd1 W g s v o) := fun W h => ho ▸ next_ W g s v t h hi.1 hi.2 hs
theorem want_all (g : Nat) (s : ByteArray) (v : Value) (t : St) (c : Int) (hi : In s t) (hs : s.size ≤ 400) {o : Out (Wd × St)} (ho : wantF s c t = o) : ∀ W, At W g (RC s t v) 61 → Calls Try.prog 19 #[.pointer (some ⟨g, 0, none⟩), .int .u8 c] W (Rdr W g s v wenc o) := fun W h => ho ▸ want_ W g s v t c h hi.1 hi.2 hs
set_option maxHeartbeats 8000000 in
set_option maxRecDepth 100000 in
/-- a point's part -/
theorem part_ (w : World) (g : Nat) (s : ByteArray) (v : Value) (t : St) (hg : At w g (RC s t v) 61) (hi : In s t) (hs : s.size ≤ 400) :
    Calls Try.prog 84 #[.pointer (some ⟨g, 0, none⟩)] w (Rdr w g s v fenc (partF s t)) := by
  obtain ⟨p, kd, lg, pl, tx, n⟩ := t
  have hu61 := Try.underlying61
  have hu59 := Try.underlying59
  have hu43 := Try.underlying43
  have hlt := hg.lt
  have HG := Aside0.mk hg
  have HK := Aside0.mk (KeepBut.refl w g none)
  have HL := Aside0.mk (Below.refl g w)
  have q2 : w.cell? ⟨g, 2, none⟩ = some (.int .u8 kd) := (blk_cell hg 2).trans rfl
  have q3 : w.cell? ⟨g, 3, none⟩ = some (.bool lg) := (blk_cell hg 3).trans rfl
  have q4 : w.cell? ⟨g, 4, none⟩ = some (.int .i64 pl) := (blk_cell hg 4).trans rfl
  have q5 : w.cell? ⟨g, 5, none⟩ = some (.string tx) := (blk_cell hg 5).trans rfl
  have q6 : w.cell? ⟨g, 6, none⟩ = some (.int .i64 n) := (blk_cell hg 6).trans rfl
  have hne : g ≠ w.heap.size := by omega
  have hne' : w.heap.size ≠ g := by omega
  have hne1 : g ≠ w.heap.size + 1 := by omega
  have hne1' : w.heap.size + 1 ≠ g := by omega
  clear hg
  have hbn : w.heap.size ≤ w.heap.size := Nat.le_refl _
  unfold partF
  simp only
  by_cases hc : kd = 100
  · rw [if_pos hc]
    have k1 : (kd != 100) = false := by simpa [bne] using hc
    clear hc
    by_cases hr : n > 1048576 ∨ n < -1048576
    · rw [if_pos hr]
      have hd : Aside0 (decide (1048576 < n) = true ∨ (decide (1048576 < n) = false ∧ decide (n < -1048576) = true)) := by
        refine ⟨?_⟩
        simp only [decide_eq_true_eq, decide_eq_false_iff_not]
        omega
      clear hr
      rcases hd.out with k2 | ⟨k2, k3⟩
      all_goals
        clear hd
        go_enter Try.func84, Try.ntmps84
        go_wp2_with (first | (go_at_call 20; refine (stop_ _ _ _).mono ?_; rintro e w2 ⟨rfl, hw⟩; subst hw; unfold flt))
        exact ⟨rfl, rfl, by (with_reducible repeat (first | exact KeepBut.refl _ _ _ | exact HK.out | apply kb_drewN | apply kb_drew | apply kb_alloc | refine kb_new ?_ (Nat.le_refl _) _ _ | refine kb_new ?_ (Nat.le_succ _) _ _)), by (with_reducible repeat (first | exact Below.refl _ _ | exact HL.out | apply pw_below_drewN | apply below_drew1 | refine bl_set ?_ (Nat.le_of_lt hlt) | refine bl_alloc ?_ hlt _ | refine bl_set ?_ (Nat.le_of_lt (Nat.lt_succ_of_lt hlt))))⟩
    · rw [if_neg hr]
      have k2 : decide (1048576 < n) = false := decide_eq_false (by omega)
      have k3 : decide (n < -1048576) = false := decide_eq_false (by omega)
      clear hr
      cases hN : nextF s p with
      | ok t' =>
        have C := Aside0.mk (next_all g s v ⟨p, ⟨kd, lg, pl, tx, n⟩⟩ hi hs hN)
        clear hN
        go_enter Try.func84, Try.ntmps84
        go_wp2_with fail
        go_at_call 17
        refine (C.out _ (HG.out.alloc _)).mono ?_
        rintro e w2 ⟨rfl, hg2, hk2, hl2⟩
        have HG2 := Aside0.mk hg2
        have HK2 := Aside0.mk ((kb_alloc (KeepBut.refl w g none) _).trans hk2 (.inl rfl))
        have HL2 := Aside0.mk ((bl_alloc (Below.refl g w) hlt _).trans hl2)
        have bA := At.keep (At.new w _ _) hk2 hne' (by simp)
        have za4 := (blk_cell bA 4).trans rfl
        clear hg2 hk2 hl2 bA
        go_wp2
        go_ret
        exact ⟨rfl, HG2.out, HK2.out, HL2.out⟩
      | bad pp er =>
        have C := Aside0.mk (next_all g s v ⟨p, ⟨kd, lg, pl, tx, n⟩⟩ hi hs hN)
        clear hN
        go_enter Try.func84, Try.ntmps84
        go_wp2_with fail
        go_at_call 17
        refine (C.out _ (HG.out.alloc _)).mono ?_
        rintro e w2 ⟨rfl, hk2, hl2⟩
        have HK2 := Aside0.mk ((kb_alloc (KeepBut.refl w g none) _).trans hk2 (.inl rfl))
        have HL2 := Aside0.mk ((bl_alloc (Below.refl g w) hlt _).trans hl2)
        unfold flt
        exact ⟨rfl, rfl, HK2.out, HL2.out⟩
  · rw [if_neg hc]
    have k1 : (kd != 100) = true := by simpa [bne] using hc
    clear hc
    go_enter Try.func84, Try.ntmps84
    go_wp2_with (first | (go_at_call 20; refine (stop_ _ _ _).mono ?_; rintro e w2 ⟨rfl, hw⟩; subst hw; unfold flt))
    exact ⟨rfl, rfl, by (with_reducible repeat (first | exact KeepBut.refl _ _ _ | exact HK.out | apply kb_drewN | apply kb_drew | apply kb_alloc | refine kb_new ?_ (Nat.le_refl _) _ _ | refine kb_new ?_ (Nat.le_succ _) _ _)), by (with_reducible repeat (first | exact Below.refl _ _ | exact HL.out | apply pw_below_drewN | apply below_drew1 | refine bl_set ?_ (Nat.le_of_lt hlt) | refine bl_alloc ?_ hlt _ | refine bl_set ?_ (Nat.le_of_lt (Nat.lt_succ_of_lt hlt))))⟩
theorem part_all (g : Nat) (s : ByteArray) (v : Value) (t : St) (hi : In s t) (hs : s.size ≤ 400) {o : Out (Int × St)} (ho : partF s t = o) : ∀ W, At W g (RC s t v) 61 → Calls Try.prog 84 #[.pointer (some ⟨g, 0, none⟩)] W (Rdr W g s v fenc o) := fun W h => ho ▸ part_ W g s v t h hi hs
set_option maxHeartbeats 8000000 in
set_option maxRecDepth 100000 in
/-- a point -/
theorem point_ (w : World) (g : Nat) (s : ByteArray) (v : Value) (t : St) (hg : At w g (RC s t v) 61) (hi : In s t) (hs : s.size ≤ 400) :
    Calls Try.prog 80 #[.pointer (some ⟨g, 0, none⟩)] w (Rdr w g s v venc (pointF s t)) := by
  have hu61 := Try.underlying61
  have hu59 := Try.underlying59
  have hu43 := Try.underlying43
  have hlt := hg.lt
  have HG := Aside0.mk hg
  have hne : g ≠ w.heap.size := by omega
  have hne' : w.heap.size ≠ g := by omega
  clear hg
  unfold pointF
  cases h1 : wantF s 40 t with
  | bad pp er =>
    have C1 := Aside0.mk (want_all g s v t 40 hi hs h1)
    simp only [Out.bind]
    clear h1
    go_enter Try.func80, Try.ntmps80
    go_wp2_with fail
    go_at_call 19
    refine (C1.out _ (HG.out.alloc _)).mono ?_
    rintro e w1 ⟨rfl, hk1, hl1⟩
    unfold flt
    exact ⟨rfl, rfl, (kb_alloc (KeepBut.refl w g none) _).trans hk1 (.inl rfl), (bl_alloc (Below.refl g w) hlt _).trans hl1⟩
  | ok r1 =>
    obtain ⟨a1, t1⟩ := r1
    have C1 := Aside0.mk (want_all g s v t 40 hi hs h1)
    have i1 := (wantF_in hi h1).1
    simp only [Out.bind]
    cases h2 : partF s t1 with
    | bad pp er =>
      have C2 := Aside0.mk (part_all g s v t1 i1 hs h2)
      simp only [Out.bind]
      clear h1 h2
      go_enter Try.func80, Try.ntmps80
      go_wp2_with fail
      go_at_call 19
      refine (C1.out _ (HG.out.alloc _)).mono ?_
      rintro e w1 ⟨rfl, hg1, hk1, hl1⟩
      have HG1 := Aside0.mk hg1
      have HK1 := Aside0.mk ((kb_alloc (KeepBut.refl w g none) _).trans hk1 (.inl rfl))
      have HL1 := Aside0.mk ((bl_alloc (Below.refl g w) hlt _).trans hl1)
      have bB := At.keep (At.new w _ _) hk1 hne' (by simp)
      have BB1 := Aside0.mk bB
      clear hg1 hk1 hl1 bB
      go_wp2_with fail
      go_at_call 84
      refine (C2.out _ (HG1.out)).mono ?_
      rintro e w2 ⟨rfl, hk2, hl2⟩
      unfold flt
      exact ⟨rfl, rfl, (HK1.out).trans hk2 (.inl rfl), (HL1.out).trans hl2⟩
    | ok r2 =>
      obtain ⟨x1, t2⟩ := r2
      have C2 := Aside0.mk (part_all g s v t1 i1 hs h2)
      have i2 := (partF_in i1 h2).1
      simp only [Out.bind]
      cases h3 : wantF s 44 t2 with
      | bad pp er =>
        have C3 := Aside0.mk (want_all g s v t2 44 i2 hs h3)
        simp only [Out.bind]
        clear h1 h2 h3
        go_enter Try.func80, Try.ntmps80
        go_wp2_with fail
        go_at_call 19
        refine (C1.out _ (HG.out.alloc _)).mono ?_
        rintro e w1 ⟨rfl, hg1, hk1, hl1⟩
        have HG1 := Aside0.mk hg1
        have HK1 := Aside0.mk ((kb_alloc (KeepBut.refl w g none) _).trans hk1 (.inl rfl))
        have HL1 := Aside0.mk ((bl_alloc (Below.refl g w) hlt _).trans hl1)
        have bB := At.keep (At.new w _ _) hk1 hne' (by simp)
        have BB1 := Aside0.mk bB
        clear hg1 hk1 hl1 bB
        go_wp2_with fail
        go_at_call 84
        refine (C2.out _ (HG1.out)).mono ?_
        rintro e w2 ⟨rfl, hg2, hk2, hl2⟩
        have HG2 := Aside0.mk hg2
        have HK2 := Aside0.mk ((HK1.out).trans hk2 (.inl rfl))
        have HL2 := Aside0.mk ((HL1.out).trans hl2)
        have bB := At.keep (BB1.out) hk2 hne' (by simp)
        have BB2 := Aside0.mk bB
        clear hg2 hk2 hl2 bB
        go_wp2_with fail
        go_at_call 19
        refine (C3.out _ (HG2.out)).mono ?_
        rintro e w3 ⟨rfl, hk3, hl3⟩
        unfold flt
        exact ⟨rfl, rfl, (HK2.out).trans hk3 (.inl rfl), (HL2.out).trans hl3⟩
      | ok r3 =>
        obtain ⟨a3, t3⟩ := r3
        have C3 := Aside0.mk (want_all g s v t2 44 i2 hs h3)
        have i3 := (wantF_in i2 h3).1
        simp only [Out.bind]
        cases h4 : partF s t3 with
        | bad pp er =>
          have C4 := Aside0.mk (part_all g s v t3 i3 hs h4)
          simp only [Out.bind]
          clear h1 h2 h3 h4
          go_enter Try.func80, Try.ntmps80
          go_wp2_with fail
          go_at_call 19
          refine (C1.out _ (HG.out.alloc _)).mono ?_
          rintro e w1 ⟨rfl, hg1, hk1, hl1⟩
          have HG1 := Aside0.mk hg1
          have HK1 := Aside0.mk ((kb_alloc (KeepBut.refl w g none) _).trans hk1 (.inl rfl))
          have HL1 := Aside0.mk ((bl_alloc (Below.refl g w) hlt _).trans hl1)
          have bB := At.keep (At.new w _ _) hk1 hne' (by simp)
          have BB1 := Aside0.mk bB
          clear hg1 hk1 hl1 bB
          go_wp2_with fail
          go_at_call 84
          refine (C2.out _ (HG1.out)).mono ?_
          rintro e w2 ⟨rfl, hg2, hk2, hl2⟩
          have HG2 := Aside0.mk hg2
          have HK2 := Aside0.mk ((HK1.out).trans hk2 (.inl rfl))
          have HL2 := Aside0.mk ((HL1.out).trans hl2)
          have bB := At.keep (BB1.out) hk2 hne' (by simp)
          have BB2 := Aside0.mk bB
          clear hg2 hk2 hl2 bB
          go_wp2_with fail
          go_at_call 19
          refine (C3.out _ (HG2.out)).mono ?_
          rintro e w3 ⟨rfl, hg3, hk3, hl3⟩
          have HG3 := Aside0.mk hg3
          have HK3 := Aside0.mk ((HK2.out).trans hk3 (.inl rfl))
          have HL3 := Aside0.mk ((HL2.out).trans hl3)
          have bB := At.keep (BB2.out) hk3 hne' (by simp)
          have BB3 := Aside0.mk bB
          clear hg3 hk3 hl3 bB
          go_wp2_with fail
          go_at_call 84
          refine (C4.out _ (HG3.out)).mono ?_
          rintro e w4 ⟨rfl, hk4, hl4⟩
          unfold flt
          exact ⟨rfl, rfl, (HK3.out).trans hk4 (.inl rfl), (HL3.out).trans hl4⟩
        | ok r4 =>
          obtain ⟨x4, t4⟩ := r4
          have C4 := Aside0.mk (part_all g s v t3 i3 hs h4)
          have i4 := (partF_in i3 h4).1
          simp only [Out.bind]
          cases h5 : wantF s 41 t4 with
          | bad pp er =>
            have C5 := Aside0.mk (want_all g s v t4 41 i4 hs h5)
            simp only [Out.bind]
            clear h1 h2 h3 h4 h5
            go_enter Try.func80, Try.ntmps80
            go_wp2_with fail
            go_at_call 19
            refine (C1.out _ (HG.out.alloc _)).mono ?_
            rintro e w1 ⟨rfl, hg1, hk1, hl1⟩
            have HG1 := Aside0.mk hg1
            have HK1 := Aside0.mk ((kb_alloc (KeepBut.refl w g none) _).trans hk1 (.inl rfl))
            have HL1 := Aside0.mk ((bl_alloc (Below.refl g w) hlt _).trans hl1)
            have bB := At.keep (At.new w _ _) hk1 hne' (by simp)
            have BB1 := Aside0.mk bB
            clear hg1 hk1 hl1 bB
            go_wp2_with fail
            go_at_call 84
            refine (C2.out _ (HG1.out)).mono ?_
            rintro e w2 ⟨rfl, hg2, hk2, hl2⟩
            have HG2 := Aside0.mk hg2
            have HK2 := Aside0.mk ((HK1.out).trans hk2 (.inl rfl))
            have HL2 := Aside0.mk ((HL1.out).trans hl2)
            have bB := At.keep (BB1.out) hk2 hne' (by simp)
            have BB2 := Aside0.mk bB
            clear hg2 hk2 hl2 bB
            go_wp2_with fail
            go_at_call 19
            refine (C3.out _ (HG2.out)).mono ?_
            rintro e w3 ⟨rfl, hg3, hk3, hl3⟩
            have HG3 := Aside0.mk hg3
            have HK3 := Aside0.mk ((HK2.out).trans hk3 (.inl rfl))
            have HL3 := Aside0.mk ((HL2.out).trans hl3)
            have bB := At.keep (BB2.out) hk3 hne' (by simp)
            have BB3 := Aside0.mk bB
            clear hg3 hk3 hl3 bB
            go_wp2_with fail
            go_at_call 84
            refine (C4.out _ (HG3.out)).mono ?_
            rintro e w4 ⟨rfl, hg4, hk4, hl4⟩
            have HG4 := Aside0.mk hg4
            have HK4 := Aside0.mk ((HK3.out).trans hk4 (.inl rfl))
            have HL4 := Aside0.mk ((HL3.out).trans hl4)
            have bB := At.keep (BB3.out) hk4 hne' (by simp)
            have BB4 := Aside0.mk bB
            clear hg4 hk4 hl4 bB
            go_wp2_with fail
            go_at_call 19
            refine (C5.out _ (HG4.out)).mono ?_
            rintro e w5 ⟨rfl, hk5, hl5⟩
            unfold flt
            exact ⟨rfl, rfl, (HK4.out).trans hk5 (.inl rfl), (HL4.out).trans hl5⟩
          | ok r5 =>
            obtain ⟨a5, t5⟩ := r5
            have C5 := Aside0.mk (want_all g s v t4 41 i4 hs h5)
            have i5 := (wantF_in i4 h5).1
            simp only [Out.bind]
            have hcx : ∀ W, (Builtin.complex_ #[110, 110] 41 #[fenc x1, fenc x4]).run Try.prog W = .ok (.complex .f64 (floatOfInt .f64 x1) (floatOfInt .f64 x4)) W := fun _ => by kernel_rfl
            go_enter Try.func80, Try.ntmps80
            go_wp2_with fail
            go_at_call 19
            refine (C1.out _ (HG.out.alloc _)).mono ?_
            rintro e w1 ⟨rfl, hg1, hk1, hl1⟩
            have HG1 := Aside0.mk hg1
            have HK1 := Aside0.mk ((kb_alloc (KeepBut.refl w g none) _).trans hk1 (.inl rfl))
            have HL1 := Aside0.mk ((bl_alloc (Below.refl g w) hlt _).trans hl1)
            have bB := At.keep (At.new w _ _) hk1 hne' (by simp)
            have BB1 := Aside0.mk bB
            clear hg1 hk1 hl1 bB
            go_wp2_with fail
            go_at_call 84
            refine (C2.out _ (HG1.out)).mono ?_
            rintro e w2 ⟨rfl, hg2, hk2, hl2⟩
            have HG2 := Aside0.mk hg2
            have HK2 := Aside0.mk ((HK1.out).trans hk2 (.inl rfl))
            have HL2 := Aside0.mk ((HL1.out).trans hl2)
            have bB := At.keep (BB1.out) hk2 hne' (by simp)
            have BB2 := Aside0.mk bB
            clear hg2 hk2 hl2 bB
            go_wp2_with fail
            go_at_call 19
            refine (C3.out _ (HG2.out)).mono ?_
            rintro e w3 ⟨rfl, hg3, hk3, hl3⟩
            have HG3 := Aside0.mk hg3
            have HK3 := Aside0.mk ((HK2.out).trans hk3 (.inl rfl))
            have HL3 := Aside0.mk ((HL2.out).trans hl3)
            have bB := At.keep (BB2.out) hk3 hne' (by simp)
            have BB3 := Aside0.mk bB
            clear hg3 hk3 hl3 bB
            go_wp2_with fail
            go_at_call 84
            refine (C4.out _ (HG3.out)).mono ?_
            rintro e w4 ⟨rfl, hg4, hk4, hl4⟩
            have HG4 := Aside0.mk hg4
            have HK4 := Aside0.mk ((HK3.out).trans hk4 (.inl rfl))
            have HL4 := Aside0.mk ((HL3.out).trans hl4)
            have bB := At.keep (BB3.out) hk4 hne' (by simp)
            have BB4 := Aside0.mk bB
            clear hg4 hk4 hl4 bB
            go_wp2_with fail
            go_at_call 19
            refine (C5.out _ (HG4.out)).mono ?_
            rintro e w5 ⟨rfl, hg5, hk5, hl5⟩
            have HG5 := Aside0.mk hg5
            have HK5 := Aside0.mk ((HK4.out).trans hk5 (.inl rfl))
            have HL5 := Aside0.mk ((HL4.out).trans hl5)
            have bB := At.keep (BB4.out) hk5 hne' (by simp)
            have BB5 := Aside0.mk bB
            have zb0 := (blk_cell bB 0).trans rfl
            have zb1 := (blk_cell bB 1).trans rfl
            have zb2 := (blk_cell bB 2).trans rfl
            have zb3 := (blk_cell bB 3).trans rfl
            have zb4 := (blk_cell bB 4).trans rfl
            have fb0 := blk_frozen bB 0
            have fb1 := blk_frozen bB 1
            have fb2 := blk_frozen bB 2
            have fb3 := blk_frozen bB 3
            have fb4 := blk_frozen bB 4
            clear hg5 hk5 hl5 bB
            go_wp2
            refine bodyPost_ret (results_cell_row rfl _ _ w.heap.size 43 (VC43 ⟨4, 0, ⟨#[]⟩, false, ⟨floatOfInt .f64 x1, floatOfInt .f64 x4⟩⟩) (0, 0) _ rfl ?zg Try.underlying43 rfl (by kernel_rfl)) rfl ?zp
            case zg =>
              apply At.fin
              · (with_reducible repeat (first | exact BB5.out | apply At.set))
              · rfl
            case zp =>
              have h1 := HG5.out
              have hk := HK5.out
              have hl := HL5.out
              refine ⟨rfl, ?_, ?_, ?_⟩
              · with_reducible repeat (first | exact h1 | apply At.other (hne := hne'))
              · with_reducible repeat (first | exact hk | refine kb_new ?_ (Nat.le_refl _) _ _)
              · with_reducible repeat (first | exact hl | refine bl_set ?_ (Nat.le_of_lt hlt))
theorem point_all (g : Nat) (s : ByteArray) (v : Value) (t : St) (hi : In s t) (hs : s.size ≤ 400) {o : Out (S43 × St)} (ho : pointF s t = o) : ∀ W, At W g (RC s t v) 61 → Calls Try.prog 80 #[.pointer (some ⟨g, 0, none⟩)] W (Rdr W g s v venc o) := fun W h => ho ▸ point_ W g s v t h hi hs
set_option maxHeartbeats 8000000 in
set_option maxRecDepth 100000 in
/-- a number or a string -/
theorem plain_ (w : World) (g : Nat) (s : ByteArray) (v : Value) (st : Bool) (t : St) (hg : At w g (RC s t v) 61) (hi : In s t) (hs : s.size ≤ 400) :
    Calls Try.prog 79 #[.pointer (some ⟨g, 0, none⟩), .bool st] w (Rdr w g s v venc (plainF s st t)) := by
  obtain ⟨p, kd, lg, pl, tx, n⟩ := t
  have hu61 := Try.underlying61
  have hu59 := Try.underlying59
  have hu43 := Try.underlying43
  have hlt := hg.lt
  have HG := Aside0.mk hg
  have HK := Aside0.mk (KeepBut.refl w g none)
  have HL := Aside0.mk (Below.refl g w)
  have q2 : w.cell? ⟨g, 2, none⟩ = some (.int .u8 kd) := (blk_cell hg 2).trans rfl
  have q3 : w.cell? ⟨g, 3, none⟩ = some (.bool lg) := (blk_cell hg 3).trans rfl
  have q4 : w.cell? ⟨g, 4, none⟩ = some (.int .i64 pl) := (blk_cell hg 4).trans rfl
  have q5 : w.cell? ⟨g, 5, none⟩ = some (.string tx) := (blk_cell hg 5).trans rfl
  have q6 : w.cell? ⟨g, 6, none⟩ = some (.int .i64 n) := (blk_cell hg 6).trans rfl
  have hne : g ≠ w.heap.size := by omega
  have hne' : w.heap.size ≠ g := by omega
  have hne1 : g ≠ w.heap.size + 1 := by omega
  have hne1' : w.heap.size + 1 ≠ g := by omega
  clear hg
  unfold plainF
  simp only
  by_cases hc : kd = 100 ∧ st = false
  · rw [if_pos hc]
    obtain ⟨k1, rfl⟩ := hc
    have k1' : (kd == 100) = true := by simpa using k1
    clear k1
    cases hN : nextF s p with
    | bad pp er =>
      have C := Aside0.mk (next_all g s v ⟨p, ⟨kd, lg, pl, tx, n⟩⟩ hi hs hN)
      simp only [Out.bind]
      clear hN
      go_enter Try.func79, Try.ntmps79
      go_wp2_with fail
      go_at_call 17
      refine (C.out _ ((HG.out.alloc _).alloc _)).mono ?_
      rintro e w1 ⟨rfl, hk1, hl1⟩
      unfold flt
      exact ⟨rfl, rfl, (kb_alloc (kb_alloc (KeepBut.refl w g none) _) _).trans hk1 (.inl rfl), (bl_alloc (bl_alloc (Below.refl g w) hlt _) hlt _).trans hl1⟩
    | ok t' =>
      have C := Aside0.mk (next_all g s v ⟨p, ⟨kd, lg, pl, tx, n⟩⟩ hi hs hN)
      simp only [Out.bind]
      clear hN
      go_enter Try.func79, Try.ntmps79
      go_wp2_with fail
      go_at_call 17
      refine (C.out _ ((HG.out.alloc _).alloc _)).mono ?_
      rintro e w1 ⟨rfl, hg1, hk1, hl1⟩
      have HG1 := Aside0.mk hg1
      have HK1 := Aside0.mk ((kb_alloc (kb_alloc (KeepBut.refl w g none) _) _).trans hk1 (.inl rfl))
      have HL1 := Aside0.mk ((bl_alloc (bl_alloc (Below.refl g w) hlt _) hlt _).trans hl1)
      have bB := At.keep ((At.new w _ _).alloc _) hk1 hne' (by simp)
      have BB1 := Aside0.mk bB
      have zb0 := (blk_cell bB 0).trans rfl
      have zb1 := (blk_cell bB 1).trans rfl
      have zb2 := (blk_cell bB 2).trans rfl
      have zb3 := (blk_cell bB 3).trans rfl
      have zb4 := (blk_cell bB 4).trans rfl
      have fb0 := blk_frozen bB 0
      have fb1 := blk_frozen bB 1
      have fb2 := blk_frozen bB 2
      have fb3 := blk_frozen bB 3
      have fb4 := blk_frozen bB 4
      have bA := At.keep (At.new2 w _ _ _) hk1 hne1' (by simp)
      have za4 := (blk_cell bA 4).trans rfl
      clear bA
      clear hg1 hk1 hl1 bB
      go_wp2
      refine bodyPost_ret (results_cell_row rfl _ _ w.heap.size 43 (VC43 ⟨1, n, ⟨#[]⟩, false, ⟨0, 0⟩⟩) (0, 0) _ rfl ?zg Try.underlying43 rfl (by kernel_rfl)) rfl ?zp
      case zg =>
        apply At.fin
        · (with_reducible repeat (first | exact BB1.out | apply At.set))
        · rfl
      case zp =>
        have h1 := HG1.out
        have hk := HK1.out
        have hl := HL1.out
        refine ⟨rfl, ?_, ?_, ?_⟩
        · with_reducible repeat (first | exact h1 | apply At.other (hne := hne'))
        · with_reducible repeat (first | exact hk | refine kb_new ?_ (Nat.le_refl _) _ _)
        · with_reducible repeat (first | exact hl | refine bl_set ?_ (Nat.le_of_lt hlt))
  · rw [if_neg hc]
    have hd : Aside0 ((kd == 100) = false ∨ ((kd == 100) = true ∧ st = true)) := by
      refine ⟨?_⟩
      by_cases k : kd = 100
      · refine .inr ⟨by simpa using k, ?_⟩
        have := fun e => hc ⟨k, e⟩
        simpa using this
      · exact .inl (by simpa using k)
    clear hc
    rcases hd.out with k1 | ⟨k1, rfl⟩
    · clear hd
      cases hW : wantF s 115 ⟨p, ⟨kd, lg, pl, tx, n⟩⟩ with
      | bad pp er =>
        have C := Aside0.mk (want_all g s v ⟨p, ⟨kd, lg, pl, tx, n⟩⟩ 115 hi hs hW)
        simp only [Out.bind]
        clear hW
        go_enter Try.func79, Try.ntmps79
        go_wp2_with fail
        go_at_call 19
        refine (C.out _ ((HG.out.alloc _).alloc _)).mono ?_
        rintro e w1 ⟨rfl, hk1, hl1⟩
        unfold flt
        exact ⟨rfl, rfl, (kb_alloc (kb_alloc (KeepBut.refl w g none) _) _).trans hk1 (.inl rfl), (bl_alloc (bl_alloc (Below.refl g w) hlt _) hlt _).trans hl1⟩
      | ok r =>
        obtain ⟨a, t1⟩ := r
        have C := Aside0.mk (want_all g s v ⟨p, ⟨kd, lg, pl, tx, n⟩⟩ 115 hi hs hW)
        simp only [Out.bind]
        clear hW
        have hf : ∀ W : World, (Instr.field 59 (wenc a) 3).run Try.prog W = .ok (.string a.tx) W := fun _ => by kernel_rfl
        go_enter Try.func79, Try.ntmps79
        go_wp2_with fail
        go_at_call 19
        refine (C.out _ ((HG.out.alloc _).alloc _)).mono ?_
        rintro e w1 ⟨rfl, hg1, hk1, hl1⟩
        have HG1 := Aside0.mk hg1
        have HK1 := Aside0.mk ((kb_alloc (kb_alloc (KeepBut.refl w g none) _) _).trans hk1 (.inl rfl))
        have HL1 := Aside0.mk ((bl_alloc (bl_alloc (Below.refl g w) hlt _) hlt _).trans hl1)
        have bB := At.keep ((At.new w _ _).alloc _) hk1 hne' (by simp)
        have BB1 := Aside0.mk bB
        have zb0 := (blk_cell bB 0).trans rfl
        have zb1 := (blk_cell bB 1).trans rfl
        have zb2 := (blk_cell bB 2).trans rfl
        have zb3 := (blk_cell bB 3).trans rfl
        have zb4 := (blk_cell bB 4).trans rfl
        have fb0 := blk_frozen bB 0
        have fb1 := blk_frozen bB 1
        have fb2 := blk_frozen bB 2
        have fb3 := blk_frozen bB 3
        have fb4 := blk_frozen bB 4
        clear hg1 hk1 hl1 bB
        go_wp2
        refine bodyPost_ret (results_cell_row rfl _ _ w.heap.size 43 (VC43 ⟨2, 0, a.tx, false, ⟨0, 0⟩⟩) (0, 0) _ rfl ?zg Try.underlying43 rfl (by kernel_rfl)) rfl ?zp
        case zg =>
          apply At.fin
          · (with_reducible repeat (first | exact BB1.out | apply At.set))
          · rfl
        case zp =>
          have h1 := HG1.out
          have hk := HK1.out
          have hl := HL1.out
          refine ⟨rfl, ?_, ?_, ?_⟩
          · with_reducible repeat (first | exact h1 | apply At.other (hne := hne'))
          · with_reducible repeat (first | exact hk | refine kb_new ?_ (Nat.le_refl _) _ _)
          · with_reducible repeat (first | exact hl | refine bl_set ?_ (Nat.le_of_lt hlt))
    · clear hd
      cases hW : wantF s 115 ⟨p, ⟨kd, lg, pl, tx, n⟩⟩ with
      | bad pp er =>
        have C := Aside0.mk (want_all g s v ⟨p, ⟨kd, lg, pl, tx, n⟩⟩ 115 hi hs hW)
        simp only [Out.bind]
        clear hW
        go_enter Try.func79, Try.ntmps79
        go_wp2_with fail
        go_at_call 19
        refine (C.out _ ((HG.out.alloc _).alloc _)).mono ?_
        rintro e w1 ⟨rfl, hk1, hl1⟩
        unfold flt
        exact ⟨rfl, rfl, (kb_alloc (kb_alloc (KeepBut.refl w g none) _) _).trans hk1 (.inl rfl), (bl_alloc (bl_alloc (Below.refl g w) hlt _) hlt _).trans hl1⟩
      | ok r =>
        obtain ⟨a, t1⟩ := r
        have C := Aside0.mk (want_all g s v ⟨p, ⟨kd, lg, pl, tx, n⟩⟩ 115 hi hs hW)
        simp only [Out.bind]
        clear hW
        have hf : ∀ W : World, (Instr.field 59 (wenc a) 3).run Try.prog W = .ok (.string a.tx) W := fun _ => by kernel_rfl
        go_enter Try.func79, Try.ntmps79
        go_wp2_with fail
        go_at_call 19
        refine (C.out _ ((HG.out.alloc _).alloc _)).mono ?_
        rintro e w1 ⟨rfl, hg1, hk1, hl1⟩
        have HG1 := Aside0.mk hg1
        have HK1 := Aside0.mk ((kb_alloc (kb_alloc (KeepBut.refl w g none) _) _).trans hk1 (.inl rfl))
        have HL1 := Aside0.mk ((bl_alloc (bl_alloc (Below.refl g w) hlt _) hlt _).trans hl1)
        have bB := At.keep ((At.new w _ _).alloc _) hk1 hne' (by simp)
        have BB1 := Aside0.mk bB
        have zb0 := (blk_cell bB 0).trans rfl
        have zb1 := (blk_cell bB 1).trans rfl
        have zb2 := (blk_cell bB 2).trans rfl
        have zb3 := (blk_cell bB 3).trans rfl
        have zb4 := (blk_cell bB 4).trans rfl
        have fb0 := blk_frozen bB 0
        have fb1 := blk_frozen bB 1
        have fb2 := blk_frozen bB 2
        have fb3 := blk_frozen bB 3
        have fb4 := blk_frozen bB 4
        clear hg1 hk1 hl1 bB
        go_wp2
        refine bodyPost_ret (results_cell_row rfl _ _ w.heap.size 43 (VC43 ⟨2, 0, a.tx, false, ⟨0, 0⟩⟩) (0, 0) _ rfl ?zg Try.underlying43 rfl (by kernel_rfl)) rfl ?zp
        case zg =>
          apply At.fin
          · (with_reducible repeat (first | exact BB1.out | apply At.set))
          · rfl
        case zp =>
          have h1 := HG1.out
          have hk := HK1.out
          have hl := HL1.out
          refine ⟨rfl, ?_, ?_, ?_⟩
          · with_reducible repeat (first | exact h1 | apply At.other (hne := hne'))
          · with_reducible repeat (first | exact hk | refine kb_new ?_ (Nat.le_refl _) _ _)
          · with_reducible repeat (first | exact hl | refine bl_set ?_ (Nat.le_of_lt hlt))
theorem plain_all (g : Nat) (s : ByteArray) (v : Value) (st : Bool) (t : St) (hi : In s t) (hs : s.size ≤ 400) {o : Out (S43 × St)} (ho : plainF s st t = o) : ∀ W, At W g (RC s t v) 61 → Calls Try.prog 79 #[.pointer (some ⟨g, 0, none⟩), .bool st] W (Rdr W g s v venc o) := fun W h => ho ▸ plain_ W g s v st t h hi hs
set_option maxHeartbeats 8000000 in
set_option maxRecDepth 100000 in
/-- any value -/
theorem any_ (w : World) (g : Nat) (s : ByteArray) (v : Value) (t : St) (hg : At w g (RC s t v) 61) (hi : In s t) (hs : s.size ≤ 400) :
    Calls Try.prog 78 #[.pointer (some ⟨g, 0, none⟩)] w (Rdr w g s v venc (anyF s t)) := by
  obtain ⟨p, kd, lg, pl, tx, n⟩ := t
  have hu61 := Try.underlying61
  have hu59 := Try.underlying59
  have hu43 := Try.underlying43
  have hlt := hg.lt
  have HG := Aside0.mk hg
  have HK := Aside0.mk (KeepBut.refl w g none)
  have HL := Aside0.mk (Below.refl g w)
  have q2 : w.cell? ⟨g, 2, none⟩ = some (.int .u8 kd) := (blk_cell hg 2).trans rfl
  have q3 : w.cell? ⟨g, 3, none⟩ = some (.bool lg) := (blk_cell hg 3).trans rfl
  have q4 : w.cell? ⟨g, 4, none⟩ = some (.int .i64 pl) := (blk_cell hg 4).trans rfl
  have q5 : w.cell? ⟨g, 5, none⟩ = some (.string tx) := (blk_cell hg 5).trans rfl
  have q6 : w.cell? ⟨g, 6, none⟩ = some (.int .i64 n) := (blk_cell hg 6).trans rfl
  have hne : g ≠ w.heap.size := by omega
  have hne' : w.heap.size ≠ g := by omega
  have hne1 : g ≠ w.heap.size + 1 := by omega
  have hne1' : w.heap.size + 1 ≠ g := by omega
  clear hg
  unfold anyF
  simp only
  by_cases h40 : kd = 40
  · rw [if_pos h40]
    have k1 : (kd == 40) = true := by simpa using h40
    clear h40
    cases hP : pointF s ⟨p, ⟨kd, lg, pl, tx, n⟩⟩ with
    | bad pp er =>
      have C := Aside0.mk (point_all g s v ⟨p, ⟨kd, lg, pl, tx, n⟩⟩ hi hs hP)
      clear hP
      go_enter Try.func78, Try.ntmps78
      go_wp2_with fail
      go_at_call 80
      refine (C.out _ ((HG.out.alloc _).alloc _)).mono ?_
      rintro e w1 ⟨rfl, hk1, hl1⟩
      unfold flt
      exact ⟨rfl, rfl, (kb_alloc (kb_alloc (KeepBut.refl w g none) _) _).trans hk1 (.inl rfl), (bl_alloc (bl_alloc (Below.refl g w) hlt _) hlt _).trans hl1⟩
    | ok r =>
      obtain ⟨x, t1⟩ := r
      have C := Aside0.mk (point_all g s v ⟨p, ⟨kd, lg, pl, tx, n⟩⟩ hi hs hP)
      clear hP
      go_enter Try.func78, Try.ntmps78
      go_wp2_with fail
      go_at_call 80
      refine (C.out _ ((HG.out.alloc _).alloc _)).mono ?_
      rintro e w1 ⟨rfl, hg1, hk1, hl1⟩
      have HG1 := Aside0.mk hg1
      have HK1 := Aside0.mk ((kb_alloc (kb_alloc (KeepBut.refl w g none) _) _).trans hk1 (.inl rfl))
      have HL1 := Aside0.mk ((bl_alloc (bl_alloc (Below.refl g w) hlt _) hlt _).trans hl1)
      have bB := At.keep ((At.new w _ _).alloc _) hk1 hne' (by simp)
      have BB1 := Aside0.mk bB
      have zb0 := (blk_cell bB 0).trans rfl
      have zb1 := (blk_cell bB 1).trans rfl
      have zb2 := (blk_cell bB 2).trans rfl
      have zb3 := (blk_cell bB 3).trans rfl
      have zb4 := (blk_cell bB 4).trans rfl
      have fb0 := blk_frozen bB 0
      have fb1 := blk_frozen bB 1
      have fb2 := blk_frozen bB 2
      have fb3 := blk_frozen bB 3
      have fb4 := blk_frozen bB 4
      clear hg1 hk1 hl1 bB
      simp only [venc]
      go_wp2
      refine bodyPost_ret (results_cell_row rfl _ _ w.heap.size 43 (VC43 x) (0, 0) _ rfl ?zg Try.underlying43 rfl (by kernel_rfl)) rfl ?zp
      case zg =>
        apply At.fin
        · (with_reducible repeat (first | exact BB1.out | apply At.set))
        · rfl
      case zp =>
        have h1 := HG1.out
        have hk := HK1.out
        have hl := HL1.out
        refine ⟨rfl, ?_, ?_, ?_⟩
        · with_reducible repeat (first | exact h1 | apply At.other (hne := hne'))
        · with_reducible repeat (first | exact hk | refine kb_new ?_ (Nat.le_refl _) _ _)
        · with_reducible repeat (first | exact hl | refine bl_set ?_ (Nat.le_of_lt hlt))
  · rw [if_neg h40]
    have k1 : (kd == 40) = false := by simpa using h40
    clear h40
    by_cases hb : kd = 110 ∧ (tx = yesB ∨ tx = noB)
    · rw [if_pos hb]
      obtain ⟨rfl, hb⟩ := hb
      clear k1
      have hcase : Aside0 (((tx == yesB) = true ∧ (tx.toList == [121, 101, 115]) = true) ∨ ((tx == yesB) = false ∧ (tx.toList == [121, 101, 115]) = false ∧ (tx.toList == [110, 111]) = true)) := by
        refine ⟨?_⟩
        rcases hb with rfl | rfl
        · exact .inl ⟨by decide +kernel, by decide +kernel⟩
        · exact .inr ⟨by decide +kernel, by decide +kernel, by decide +kernel⟩
      clear hb
      cases hN : nextF s p with
      | bad pp er =>
        have C := Aside0.mk (next_all g s v ⟨p, ⟨110, lg, pl, tx, n⟩⟩ hi hs hN)
        simp only [Out.bind]
        clear hN
        rcases hcase.out with ⟨b0, b1⟩ | ⟨b0, b1, b2⟩
        · clear hcase b0
          go_enter Try.func78, Try.ntmps78
          go_wp2_with fail
          go_at_call 17
          refine (C.out _ ((HG.out.alloc _).alloc _)).mono ?_
          rintro e w1 ⟨rfl, hk1, hl1⟩
          unfold flt
          exact ⟨rfl, rfl, (kb_alloc (kb_alloc (KeepBut.refl w g none) _) _).trans hk1 (.inl rfl), (bl_alloc (bl_alloc (Below.refl g w) hlt _) hlt _).trans hl1⟩
        · clear hcase b0
          go_enter Try.func78, Try.ntmps78
          go_wp2_with fail
          go_at_call 17
          refine (C.out _ ((HG.out.alloc _).alloc _)).mono ?_
          rintro e w1 ⟨rfl, hk1, hl1⟩
          unfold flt
          exact ⟨rfl, rfl, (kb_alloc (kb_alloc (KeepBut.refl w g none) _) _).trans hk1 (.inl rfl), (bl_alloc (bl_alloc (Below.refl g w) hlt _) hlt _).trans hl1⟩
      | ok t' =>
        have C := Aside0.mk (next_all g s v ⟨p, ⟨110, lg, pl, tx, n⟩⟩ hi hs hN)
        simp only [Out.bind]
        clear hN
        rcases hcase.out with ⟨b0, b1⟩ | ⟨b0, b1, b2⟩
        · rw [b0]
          clear hcase b0
          go_enter Try.func78, Try.ntmps78
          go_wp2_with fail
          go_at_call 17
          refine (C.out _ ((HG.out.alloc _).alloc _)).mono ?_
          rintro e w1 ⟨rfl, hg1, hk1, hl1⟩
          have HG1 := Aside0.mk hg1
          have HK1 := Aside0.mk ((kb_alloc (kb_alloc (KeepBut.refl w g none) _) _).trans hk1 (.inl rfl))
          have HL1 := Aside0.mk ((bl_alloc (bl_alloc (Below.refl g w) hlt _) hlt _).trans hl1)
          have bB := At.keep ((At.new w _ _).alloc _) hk1 hne' (by simp)
          have BB1 := Aside0.mk bB
          have zb0 := (blk_cell bB 0).trans rfl
          have zb1 := (blk_cell bB 1).trans rfl
          have zb2 := (blk_cell bB 2).trans rfl
          have zb3 := (blk_cell bB 3).trans rfl
          have zb4 := (blk_cell bB 4).trans rfl
          have fb0 := blk_frozen bB 0
          have fb1 := blk_frozen bB 1
          have fb2 := blk_frozen bB 2
          have fb3 := blk_frozen bB 3
          have fb4 := blk_frozen bB 4
          have bA := At.keep (At.new2 w _ _ _) hk1 hne1' (by simp)
          have za3 := (blk_cell bA 3).trans rfl
          clear bA
          clear hg1 hk1 hl1 bB
          go_wp2
          refine bodyPost_ret (results_cell_row rfl _ _ w.heap.size 43 (VC43 ⟨3, 0, ⟨#[]⟩, true, ⟨0, 0⟩⟩) (0, 0) _ rfl ?zg Try.underlying43 rfl (by kernel_rfl)) rfl ?zp
          case zg =>
            apply At.fin
            · (with_reducible repeat (first | exact BB1.out | apply At.set))
            · rfl
          case zp =>
            have h1 := HG1.out
            have hk := HK1.out
            have hl := HL1.out
            refine ⟨rfl, ?_, ?_, ?_⟩
            · with_reducible repeat (first | exact h1 | apply At.other (hne := hne'))
            · with_reducible repeat (first | exact hk | refine kb_new ?_ (Nat.le_refl _) _ _)
            · with_reducible repeat (first | exact hl | refine bl_set ?_ (Nat.le_of_lt hlt))
        · rw [b0]
          clear hcase b0
          go_enter Try.func78, Try.ntmps78
          go_wp2_with fail
          go_at_call 17
          refine (C.out _ ((HG.out.alloc _).alloc _)).mono ?_
          rintro e w1 ⟨rfl, hg1, hk1, hl1⟩
          have HG1 := Aside0.mk hg1
          have HK1 := Aside0.mk ((kb_alloc (kb_alloc (KeepBut.refl w g none) _) _).trans hk1 (.inl rfl))
          have HL1 := Aside0.mk ((bl_alloc (bl_alloc (Below.refl g w) hlt _) hlt _).trans hl1)
          have bB := At.keep ((At.new w _ _).alloc _) hk1 hne' (by simp)
          have BB1 := Aside0.mk bB
          have zb0 := (blk_cell bB 0).trans rfl
          have zb1 := (blk_cell bB 1).trans rfl
          have zb2 := (blk_cell bB 2).trans rfl
          have zb3 := (blk_cell bB 3).trans rfl
          have zb4 := (blk_cell bB 4).trans rfl
          have fb0 := blk_frozen bB 0
          have fb1 := blk_frozen bB 1
          have fb2 := blk_frozen bB 2
          have fb3 := blk_frozen bB 3
          have fb4 := blk_frozen bB 4
          have bA := At.keep (At.new2 w _ _ _) hk1 hne1' (by simp)
          have za3 := (blk_cell bA 3).trans rfl
          clear bA
          clear hg1 hk1 hl1 bB
          go_wp2
          refine bodyPost_ret (results_cell_row rfl _ _ w.heap.size 43 (VC43 ⟨3, 0, ⟨#[]⟩, false, ⟨0, 0⟩⟩) (0, 0) _ rfl ?zg Try.underlying43 rfl (by kernel_rfl)) rfl ?zp
          case zg =>
            apply At.fin
            · (with_reducible repeat (first | exact BB1.out | apply At.set))
            · rfl
          case zp =>
            have h1 := HG1.out
            have hk := HK1.out
            have hl := HL1.out
            refine ⟨rfl, ?_, ?_, ?_⟩
            · with_reducible repeat (first | exact h1 | apply At.other (hne := hne'))
            · with_reducible repeat (first | exact hk | refine kb_new ?_ (Nat.le_refl _) _ _)
            · with_reducible repeat (first | exact hl | refine bl_set ?_ (Nat.le_of_lt hlt))
    · rw [if_neg hb]
      have hd : Aside0 ((kd == 110) = false ∨ ((kd == 110) = true ∧ (tx.toList == [121, 101, 115]) = false ∧ (tx.toList == [110, 111]) = false)) := by
        refine ⟨?_⟩
        by_cases k : kd = 110
        · refine .inr ⟨by simpa using k, ?_, ?_⟩
          · exact beq_eq_false_iff_ne.2 (fun h => hb ⟨k, .inl (by
              rw [ByteArray.toList_eq] at h
              exact ByteArray.ext (Array.toList_inj.1 h))⟩)
          · exact beq_eq_false_iff_ne.2 (fun h => hb ⟨k, .inr (by
              rw [ByteArray.toList_eq] at h
              exact ByteArray.ext (Array.toList_inj.1 h))⟩)
        · exact .inl (by simpa using k)
      clear hb
      rcases hd.out with k2 | ⟨k2, k3, k4⟩
      · clear hd
        cases hP : plainF s false ⟨p, ⟨kd, lg, pl, tx, n⟩⟩ with
        | bad pp er =>
          have C := Aside0.mk (plain_all g s v false ⟨p, ⟨kd, lg, pl, tx, n⟩⟩ hi hs hP)
          clear hP
          go_enter Try.func78, Try.ntmps78
          go_wp2_with fail
          go_at_call 79
          refine (C.out _ ((HG.out.alloc _).alloc _)).mono ?_
          rintro e w1 ⟨rfl, hk1, hl1⟩
          unfold flt
          exact ⟨rfl, rfl, (kb_alloc (kb_alloc (KeepBut.refl w g none) _) _).trans hk1 (.inl rfl), (bl_alloc (bl_alloc (Below.refl g w) hlt _) hlt _).trans hl1⟩
        | ok r =>
          obtain ⟨x, t1⟩ := r
          have C := Aside0.mk (plain_all g s v false ⟨p, ⟨kd, lg, pl, tx, n⟩⟩ hi hs hP)
          clear hP
          go_enter Try.func78, Try.ntmps78
          go_wp2_with fail
          go_at_call 79
          refine (C.out _ ((HG.out.alloc _).alloc _)).mono ?_
          rintro e w1 ⟨rfl, hg1, hk1, hl1⟩
          have HG1 := Aside0.mk hg1
          have HK1 := Aside0.mk ((kb_alloc (kb_alloc (KeepBut.refl w g none) _) _).trans hk1 (.inl rfl))
          have HL1 := Aside0.mk ((bl_alloc (bl_alloc (Below.refl g w) hlt _) hlt _).trans hl1)
          have bB := At.keep ((At.new w _ _).alloc _) hk1 hne' (by simp)
          have BB1 := Aside0.mk bB
          have zb0 := (blk_cell bB 0).trans rfl
          have zb1 := (blk_cell bB 1).trans rfl
          have zb2 := (blk_cell bB 2).trans rfl
          have zb3 := (blk_cell bB 3).trans rfl
          have zb4 := (blk_cell bB 4).trans rfl
          have fb0 := blk_frozen bB 0
          have fb1 := blk_frozen bB 1
          have fb2 := blk_frozen bB 2
          have fb3 := blk_frozen bB 3
          have fb4 := blk_frozen bB 4
          clear hg1 hk1 hl1 bB
          simp only [venc]
          go_wp2
          refine bodyPost_ret (results_cell_row rfl _ _ w.heap.size 43 (VC43 x) (0, 0) _ rfl ?zg Try.underlying43 rfl (by kernel_rfl)) rfl ?zp
          case zg =>
            apply At.fin
            · (with_reducible repeat (first | exact BB1.out | apply At.set))
            · rfl
          case zp =>
            have h1 := HG1.out
            have hk := HK1.out
            have hl := HL1.out
            refine ⟨rfl, ?_, ?_, ?_⟩
            · with_reducible repeat (first | exact h1 | apply At.other (hne := hne'))
            · with_reducible repeat (first | exact hk | refine kb_new ?_ (Nat.le_refl _) _ _)
            · with_reducible repeat (first | exact hl | refine bl_set ?_ (Nat.le_of_lt hlt))
      · clear hd
        cases hP : plainF s false ⟨p, ⟨kd, lg, pl, tx, n⟩⟩ with
        | bad pp er =>
          have C := Aside0.mk (plain_all g s v false ⟨p, ⟨kd, lg, pl, tx, n⟩⟩ hi hs hP)
          clear hP
          go_enter Try.func78, Try.ntmps78
          go_wp2_with fail
          go_at_call 79
          refine (C.out _ ((HG.out.alloc _).alloc _)).mono ?_
          rintro e w1 ⟨rfl, hk1, hl1⟩
          unfold flt
          exact ⟨rfl, rfl, (kb_alloc (kb_alloc (KeepBut.refl w g none) _) _).trans hk1 (.inl rfl), (bl_alloc (bl_alloc (Below.refl g w) hlt _) hlt _).trans hl1⟩
        | ok r =>
          obtain ⟨x, t1⟩ := r
          have C := Aside0.mk (plain_all g s v false ⟨p, ⟨kd, lg, pl, tx, n⟩⟩ hi hs hP)
          clear hP
          go_enter Try.func78, Try.ntmps78
          go_wp2_with fail
          go_at_call 79
          refine (C.out _ ((HG.out.alloc _).alloc _)).mono ?_
          rintro e w1 ⟨rfl, hg1, hk1, hl1⟩
          have HG1 := Aside0.mk hg1
          have HK1 := Aside0.mk ((kb_alloc (kb_alloc (KeepBut.refl w g none) _) _).trans hk1 (.inl rfl))
          have HL1 := Aside0.mk ((bl_alloc (bl_alloc (Below.refl g w) hlt _) hlt _).trans hl1)
          have bB := At.keep ((At.new w _ _).alloc _) hk1 hne' (by simp)
          have BB1 := Aside0.mk bB
          have zb0 := (blk_cell bB 0).trans rfl
          have zb1 := (blk_cell bB 1).trans rfl
          have zb2 := (blk_cell bB 2).trans rfl
          have zb3 := (blk_cell bB 3).trans rfl
          have zb4 := (blk_cell bB 4).trans rfl
          have fb0 := blk_frozen bB 0
          have fb1 := blk_frozen bB 1
          have fb2 := blk_frozen bB 2
          have fb3 := blk_frozen bB 3
          have fb4 := blk_frozen bB 4
          clear hg1 hk1 hl1 bB
          simp only [venc]
          go_wp2
          refine bodyPost_ret (results_cell_row rfl _ _ w.heap.size 43 (VC43 x) (0, 0) _ rfl ?zg Try.underlying43 rfl (by kernel_rfl)) rfl ?zp
          case zg =>
            apply At.fin
            · (with_reducible repeat (first | exact BB1.out | apply At.set))
            · rfl
          case zp =>
            have h1 := HG1.out
            have hk := HK1.out
            have hl := HL1.out
            refine ⟨rfl, ?_, ?_, ?_⟩
            · with_reducible repeat (first | exact h1 | apply At.other (hne := hne'))
            · with_reducible repeat (first | exact hk | refine kb_new ?_ (Nat.le_refl _) _ _)
            · with_reducible repeat (first | exact hl | refine bl_set ?_ (Nat.le_of_lt hlt))
theorem any_all (g : Nat) (s : ByteArray) (v : Value) (t : St) (hi : In s t) (hs : s.size ≤ 400) {o : Out (S43 × St)} (ho : anyF s t = o) : ∀ W, At W g (RC s t v) 61 → Calls Try.prog 78 #[.pointer (some ⟨g, 0, none⟩)] W (Rdr W g s v venc o) := fun W h => ho ▸ any_ W g s v t h hi hs
end Go.Proofs.Ytmgljgmieomngaa.Pz
