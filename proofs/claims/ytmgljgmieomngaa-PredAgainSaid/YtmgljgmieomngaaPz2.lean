/- Numbers. -/
import Derived.Test.YtmgljgmieomngaaPz0
namespace Go.Proofs.Ytmgljgmieomngaa.Pz
open Go Go.RowKit Go.Proofs.YtmgljgmieomngaaW.PrintWords Go.Proofs.YtmgljgmieomngaaW.PrintLast Go.Proofs.YtmgljgmieomngaaW.PrintMore
attribute [local go_sem] run_store_complex run_store_float isSome_setCell
set_option linter.unusedVariables false
set_option linter.unusedSimpArgs false
theorem digs_range (s : ByteArray) : ∀ (d : Nat) (p u : Int) (b : Bool), p ≤ (s.size : Int) → p ≤ (digs s d p u b).1 ∧ (digs s d p u b).1 ≤ (s.size : Int)
  | 0, p, u, b, h => by rw [digs]; exact ⟨Int.le_refl _, h⟩
  | d + 1, p, u, b, h => by
    rw [digs]
    by_cases c : p < (s.size : Int) ∧ 48 ≤ bt s p ∧ bt s p ≤ 57
    · rw [if_pos c]
      have := digs_range s d (p + 1) (IntKind.u64.wrap (u * 10 + (bt s p - 48))) (b || decide (u > (9223372036854775808 - (bt s p - 48)) / 10)) (by omega)
      omega
    · rw [if_neg c]; exact ⟨Int.le_refl _, h⟩
theorem digs_step (u x : Int) : IntKind.u64.wrap (IntKind.u64.wrap (u * 10) + (x - 48)) = IntKind.u64.wrap (u * 10 + (x - 48)) := by
  rw [IntKind.wrap_u64, IntKind.wrap_u64, IntKind.wrap_u64]; omega
theorem u64_rng (x : Int) : 0 ≤ IntKind.u64.wrap x ∧ IntKind.u64.wrap x < 18446744073709551616 := by rw [IntKind.wrap_u64]; omega
/-- a number's end, told of its sign and its first digit's place -/
def numR (s : ByteArray) (p : Int) (m : Bool) (f : Int) : Out (Int × Wd) :=
  let r := digs s s.size f 0 false
  if r.1 = f ∨ (bt s f = 48 ∧ (m = true ∨ r.1 > f + 1)) then .bad p 4
  else if r.2.2 = true ∨ (m = false ∧ r.2.1 = 9223372036854775808) then .bad p 6
  else .ok (r.1, ⟨100, false, p, ⟨#[]⟩, if m = true then wrap64 (IntKind.u64.wrap (-r.2.1)) else wrap64 r.2.1⟩)
/-- what a number's bounds are, out of sight -/
def Big (u : Int) : Prop := 0 ≤ u ∧ u < 18446744073709551616
set_option maxHeartbeats 8000000 in
set_option maxRecDepth 100000 in
theorem number_ (w : World) (g b : Nat) (s : ByteArray) (v : Value) (u0 : Wd) (p c : Int) (hg : At w g (RC s ⟨p, u0⟩ v) 61) (hb : At w b (WC ⟨c, false, p, ⟨#[]⟩, 0⟩) 59) (hgb : g < b) (h0 : 0 ≤ p) (h1 : p < (s.size : Int)) (hs : s.size ≤ 400) :
    Calls Try.prog 36 #[.pointer (some ⟨g, 0, none⟩), .pointer (some ⟨b, 0, none⟩)] w (Lex w g b s v u0 (numF s p)) := by
  have hu61 := Try.underlying61
  have hu59 := Try.underlying59
  have HG := Aside0.mk hg
  have HB := Aside0.mk hb
  have HK := Aside0.mk (KeepBut.refl w g (some b))
  have HL := Aside0.mk (Below.refl g w)
  have hne : g ≠ b := by omega
  have hne' : b ≠ g := by omega
  have q0 : w.cell? ⟨g, 0, none⟩ = some (.string s) := (blk_cell hg 0).trans rfl
  have q1 : w.cell? ⟨g, 1, none⟩ = some (.int .i64 p) := (blk_cell hg 1).trans rfl
  have f1 := blk_frozen hg 1
  have c0 : w.cell? ⟨b, 0, none⟩ = some (.int .u8 c) := (blk_cell hb 0).trans rfl
  have d0 := blk_frozen hb 0
  clear hg hb
  have hx := bt_at s p
  have e0 := eq_true h0
  have e1 := eq_true h1
  obtain ⟨m, f, m', HF, h0f, hfs, hN⟩ : ∃ (m : Bool) (f : Int), (bt s p == 45) = m ∧ Aside0 ((if m = true then p + 1 else p) = f) ∧ 0 ≤ f ∧ f ≤ (s.size : Int) ∧ Aside0 (numF s p = numR s p m f) := by
    refine ⟨_, _, rfl, ⟨rfl⟩, ?_, ?_, ⟨rfl⟩⟩ <;> split <;> omega
  obtain ⟨O, hO⟩ : ∃ O, numF s p = O := ⟨_, rfl⟩
  rw [hO]
  have HO := Aside0.mk (hN.out.symm.trans hO)
  clear hN hO
  cases m
  · go_enter Try.func36, Try.ntmps36
    go_wp2
    go_region
    go_upto_block 0 with (fail)
    go_cut [6, 7] (fun v6 v7 wc => ∃ (q u : Int) (big : Bool), v6 = .int .u64 u ∧ v7 = .bool big ∧ Aside0 (f ≤ q ∧ q ≤ (s.size : Int)) ∧ Aside0 (Big u) ∧ Aside0 (digs s s.size f 0 false = (q, u, big)) ∧ Aside0 (At wc g (RC s ⟨q, u0⟩ v) 61) ∧ Aside0 (At wc b (WC ⟨100, false, p, ⟨#[]⟩, 0⟩) 59) ∧ Aside0 (KeepBut w wc g (some b)) ∧ Aside0 (Below g w wc))
    case first =>
      go_wp2
      go_loopg [6, 7] s.size (fun d v6 v7 w' => ∃ (q u : Int) (big : Bool), v6 = .int .u64 u ∧ v7 = .bool big ∧ Aside0 (f ≤ q ∧ q ≤ (s.size : Int) ∧ (s.size : Int) ≤ q + d) ∧ Aside0 (Big u) ∧ Aside0 (digs s d q u big = digs s s.size f 0 false) ∧ Aside0 (At w' g (RC s ⟨q, u0⟩ v) 61) ∧ Aside0 (At w' b (WC ⟨100, false, p, ⟨#[]⟩, 0⟩) 59) ∧ Aside0 (KeepBut w w' g (some b)) ∧ Aside0 (Below g w w'))
      case atStart =>
        have hf := HF.out
        (try simp only [if_true, Bool.false_eq_true, if_false] at hf)
        subst hf
        exact ⟨_, 0, false, rfl, rfl, ⟨Int.le_refl _, hfs, by omega⟩, ⟨by unfold Big; omega⟩, ⟨rfl⟩, ⟨by (apply At.fin; (focus (with_reducible repeat (first | exact HG.out | exact HB.out | apply At.drew | apply At.drewN | apply At.alloc | (refine At.set (cs := ?_) ?_ _ _; rotate_left) | apply At.other (hne := hne') | apply At.other (hne := hne)))); (focus rfl))⟩, ⟨by (apply At.fin; (focus (with_reducible repeat (first | exact HG.out | exact HB.out | apply At.drew | apply At.drewN | apply At.alloc | (refine At.set (cs := ?_) ?_ _ _; rotate_left) | apply At.other (hne := hne') | apply At.other (hne := hne)))); (focus rfl))⟩, ⟨by (with_reducible repeat (first | exact KeepBut.refl _ _ _ | exact HK.out | apply KeepBut.set_ | apply kb_row | apply kb_drewN | apply kb_drew | apply kb_alloc))⟩, ⟨by (with_reducible repeat (first | exact Below.refl _ _ | exact HL.out | apply pw_below_drewN | apply below_drew1 | refine bl_set ?_ (Nat.le_refl _) | refine bl_set ?_ (Nat.le_of_lt hgb)))⟩⟩
      clear m' hx e0 e1 q0 q1 f1 c0 d0 HF HG HB HK HL
      obtain ⟨q, u, big, rfl, rfl, hq, hu, hS, HG, HB, HK, HL⟩ := hrel
      obtain ⟨hq0, hq1, hq2⟩ := hq.out
      clear hq
      have q0 : wr.cell? ⟨g, 0, none⟩ = some (.string s) := (blk_cell HG.out 0).trans rfl
      have q1 : wr.cell? ⟨g, 1, none⟩ = some (.int .i64 q) := (blk_cell HG.out 1).trans rfl
      have f1 := blk_frozen HG.out 1
      have hx := bt_at s q
      have e0 : 0 ≤ q := by omega
      replace e0 := eq_true e0
      have hr := bt_range s q
      by_cases hd : q < (s.size : Int) ∧ 48 ≤ bt s q ∧ bt s q ≤ 57
      · cases gk with
        | zero => omega
        | succ d =>
          have HS2 : Aside0 (digs s d (q + 1) (IntKind.u64.wrap (u * 10 + (bt s q - 48))) (big || decide (u > (9223372036854775808 - (bt s q - 48)) / 10)) = digs s s.size f 0 false) := ⟨by have := hS.out; rwa [digs, if_pos hd] at this⟩
          clear hS
          obtain ⟨x1, x2, x3⟩ := hd
          have b1 : decide (q < (s.size : Int)) = true := decide_eq_true x1
          have e1 := eq_true x1
          have b2 : decide (48 ≤ bt s q) = true := decide_eq_true x2
          have b3 : decide (bt s q ≤ 57) = true := decide_eq_true x3
          generalize bt s q = x at *
          go_wp2
          go_quiet (fail)
          go_wp2
          go_quiet (fail)
          cases big
          all_goals
            go_wp2
            go_roundg d
            case measure => omega
            case rel => exact ⟨q + 1, _, _, rfl, rfl, ⟨by omega, by have := of_eq_true e1; omega, by omega⟩, ⟨u64_rng _⟩, ⟨by rw [digs_step]; exact HS2.out⟩, ⟨by (apply At.fin; (focus (with_reducible repeat (first | exact HG.out | exact HB.out | apply At.drew | apply At.drewN | apply At.alloc | (refine At.set (cs := ?_) ?_ _ _; rotate_left) | apply At.other (hne := hne') | apply At.other (hne := hne)))); (focus rfl))⟩, ⟨by (apply At.fin; (focus (with_reducible repeat (first | exact HG.out | exact HB.out | apply At.drew | apply At.drewN | apply At.alloc | (refine At.set (cs := ?_) ?_ _ _; rotate_left) | apply At.other (hne := hne') | apply At.other (hne := hne)))); (focus rfl))⟩, ⟨by (with_reducible repeat (first | exact KeepBut.refl _ _ _ | exact HK.out | apply KeepBut.set_ | apply kb_row | apply kb_drewN | apply kb_drew | apply kb_alloc))⟩, ⟨by (with_reducible repeat (first | exact Below.refl _ _ | exact HL.out | apply pw_below_drewN | apply below_drew1 | refine bl_set ?_ (Nat.le_refl _) | refine bl_set ?_ (Nat.le_of_lt hgb)))⟩⟩
      · have HS2 : Aside0 (digs s s.size f 0 false = (q, u, big)) := by
          refine ⟨hS.out.symm.trans ?_⟩
          cases gk with
          | zero => rw [digs]
          | succ d => rw [digs, if_neg hd]
        clear hS
        have HD : Aside0 (decide (q < (s.size : Int)) = false ∨ (q < (s.size : Int) ∧ (decide (48 ≤ bt s q) = false ∨ (decide (48 ≤ bt s q) = true ∧ decide (bt s q ≤ 57) = false)))) := by
          refine ⟨?_⟩
          simp only [decide_eq_true_eq, decide_eq_false_iff_not]
          omega
        clear hd
        rcases HD.out with b1 | ⟨x1, b2 | ⟨b2, b3⟩⟩
        all_goals clear HD
        rotate_left
        all_goals try
          have b1 : decide (q < (s.size : Int)) = true := decide_eq_true x1
          have e1 := eq_true x1
          clear x1
        all_goals
          go_wp2
          go_quiet (fail)
          go_wp2
          go_meet
          case rel => exact ⟨q, u, big, rfl, rfl, ⟨hq0, hq1⟩, hu, HS2, ⟨by (apply At.fin; (focus (with_reducible repeat (first | exact HG.out | exact HB.out | apply At.drew | apply At.drewN | apply At.alloc | (refine At.set (cs := ?_) ?_ _ _; rotate_left) | apply At.other (hne := hne') | apply At.other (hne := hne)))); (focus rfl))⟩, ⟨by (apply At.fin; (focus (with_reducible repeat (first | exact HG.out | exact HB.out | apply At.drew | apply At.drewN | apply At.alloc | (refine At.set (cs := ?_) ?_ _ _; rotate_left) | apply At.other (hne := hne') | apply At.other (hne := hne)))); (focus rfl))⟩, ⟨by (with_reducible repeat (first | exact KeepBut.refl _ _ _ | exact HK.out | apply KeepBut.set_ | apply kb_row | apply kb_drewN | apply kb_drew | apply kb_alloc))⟩, ⟨by (with_reducible repeat (first | exact Below.refl _ _ | exact HL.out | apply pw_below_drewN | apply below_drew1 | refine bl_set ?_ (Nat.le_refl _) | refine bl_set ?_ (Nat.le_of_lt hgb)))⟩⟩
    case rest =>
      clear m' hx e0 e1 q0 q1 f1 c0 d0 HG HB HK HL
      obtain ⟨q, u, big, rfl, rfl, hq, hu, hS, HG, HB, HK, HL⟩ := hcut
      have hf := HF.out
      (try simp only [if_true, Bool.false_eq_true, if_false] at hf)
      subst hf
      clear HF
      obtain ⟨hq0, hq1⟩ := hq.out
      clear hq
      have q0 : wc.cell? ⟨g, 0, none⟩ = some (.string s) := (blk_cell HG.out 0).trans rfl
      have q1 : wc.cell? ⟨g, 1, none⟩ = some (.int .i64 q) := (blk_cell HG.out 1).trans rfl
      have c2 : wc.cell? ⟨b, 2, none⟩ = some (.int .i64 p) := (blk_cell HB.out 2).trans rfl
      have c4 : wc.cell? ⟨b, 4, none⟩ = some (.int .i64 0) := (blk_cell HB.out 4).trans rfl
      have d4 := blk_frozen HB.out 4
      have hO := HO.out
      unfold numR at hO
      rw [hS.out] at hO
      simp only [Bool.false_eq_true, if_false, if_true, true_or, false_or, true_and, false_and, or_false, and_true, reduceCtorEq] at hO
      clear hS HO
      by_cases y1 : q = p
      · rw [if_pos (.inl y1)] at hO
        subst hO
        have y1' : (q == p) = true := by simpa using y1
        clear y1
        go_wp2_with (first | (go_at_call 20; refine (stop_ _ _ _).mono ?_; rintro e w2 ⟨rfl, hw⟩; subst hw; unfold flt))
        exact ⟨rfl, rfl, by (with_reducible repeat (first | exact KeepBut.refl _ _ _ | exact HK.out | apply KeepBut.set_ | apply kb_row | apply kb_drewN | apply kb_drew | apply kb_alloc)), by (with_reducible repeat (first | exact Below.refl _ _ | exact HL.out | apply pw_below_drewN | apply below_drew1 | refine bl_set ?_ (Nat.le_refl _) | refine bl_set ?_ (Nat.le_of_lt hgb)))⟩
      · have y1' : (q == p) = false := by simpa using y1
        have hx := bt_at s p
        have e0 : 0 ≤ p := by omega
        replace e0 := eq_true e0
        have e1 : p < (s.size : Int) := by omega
        replace e1 := eq_true e1
        by_cases y2 : bt s p = 48 ∧ q > p + 1
        · rw [if_pos (.inr y2)] at hO
          subst hO
          obtain ⟨y2, y3⟩ := y2
          have y2' : (bt s p == 48) = true := by simpa using y2
          have y3' : decide (p + 1 < q) = true := decide_eq_true y3
          clear y1 y2 y3
          go_wp2_with (first | (go_at_call 20; refine (stop_ _ _ _).mono ?_; rintro e w2 ⟨rfl, hw⟩; subst hw; unfold flt))
          exact ⟨rfl, rfl, by (with_reducible repeat (first | exact KeepBut.refl _ _ _ | exact HK.out | apply KeepBut.set_ | apply kb_row | apply kb_drewN | apply kb_drew | apply kb_alloc)), by (with_reducible repeat (first | exact Below.refl _ _ | exact HL.out | apply pw_below_drewN | apply below_drew1 | refine bl_set ?_ (Nat.le_refl _) | refine bl_set ?_ (Nat.le_of_lt hgb)))⟩
        · rw [if_neg (fun h => h.elim y1 y2)] at hO
          have HY : Aside0 ((bt s p == 48) = false ∨ ((bt s p == 48) = true ∧ decide (p + 1 < q) = false)) := by
            refine ⟨?_⟩
            simp only [beq_iff_eq, beq_eq_false_iff_ne, decide_eq_false_iff_not]
            omega
          clear y1 y2
          cases big
          · by_cases y4 : u = 9223372036854775808
            · rw [if_pos (.inr y4)] at hO
              subst hO
              have y4' : (u == 9223372036854775808) = true := by simpa using y4
              clear y4
              rcases HY.out with y2' | ⟨y2', y3'⟩
              all_goals
                clear HY
                go_wp2_with (first | (go_at_call 20; refine (stop_ _ _ _).mono ?_; rintro e w2 ⟨rfl, hw⟩; subst hw; unfold flt))
                exact ⟨rfl, rfl, by (with_reducible repeat (first | exact KeepBut.refl _ _ _ | exact HK.out | apply KeepBut.set_ | apply kb_row | apply kb_drewN | apply kb_drew | apply kb_alloc)), by (with_reducible repeat (first | exact Below.refl _ _ | exact HL.out | apply pw_below_drewN | apply below_drew1 | refine bl_set ?_ (Nat.le_refl _) | refine bl_set ?_ (Nat.le_of_lt hgb)))⟩
            · rw [if_neg (fun h => h.elim (by decide) y4)] at hO
              subst hO
              have y4' : (u == 9223372036854775808) = false := by simpa using y4
              clear y4
              rcases HY.out with y2' | ⟨y2', y3'⟩
              all_goals
                clear HY
                go_wp2
                (try simp only [Exit.then, Exit.jump])
                go_end0
                exact ⟨rfl, by (apply At.fin; (focus (with_reducible repeat (first | exact HG.out | exact HB.out | apply At.drew | apply At.drewN | apply At.alloc | (refine At.set (cs := ?_) ?_ _ _; rotate_left) | apply At.other (hne := hne') | apply At.other (hne := hne)))); (focus rfl)), by (apply At.fin; (focus (with_reducible repeat (first | exact HG.out | exact HB.out | apply At.drew | apply At.drewN | apply At.alloc | (refine At.set (cs := ?_) ?_ _ _; rotate_left) | apply At.other (hne := hne') | apply At.other (hne := hne)))); (focus rfl)), by (with_reducible repeat (first | exact KeepBut.refl _ _ _ | exact HK.out | apply KeepBut.set_ | apply kb_row | apply kb_drewN | apply kb_drew | apply kb_alloc)), by (with_reducible repeat (first | exact Below.refl _ _ | exact HL.out | apply pw_below_drewN | apply below_drew1 | refine bl_set ?_ (Nat.le_refl _) | refine bl_set ?_ (Nat.le_of_lt hgb)))⟩
          · rw [if_pos (.inl rfl)] at hO
            subst hO
            rcases HY.out with y2' | ⟨y2', y3'⟩
            all_goals
              clear HY
              go_wp2_with (first | (go_at_call 20; refine (stop_ _ _ _).mono ?_; rintro e w2 ⟨rfl, hw⟩; subst hw; unfold flt))
              exact ⟨rfl, rfl, by (with_reducible repeat (first | exact KeepBut.refl _ _ _ | exact HK.out | apply KeepBut.set_ | apply kb_row | apply kb_drewN | apply kb_drew | apply kb_alloc)), by (with_reducible repeat (first | exact Below.refl _ _ | exact HL.out | apply pw_below_drewN | apply below_drew1 | refine bl_set ?_ (Nat.le_refl _) | refine bl_set ?_ (Nat.le_of_lt hgb)))⟩
  · go_enter Try.func36, Try.ntmps36
    go_wp2
    go_region
    go_upto_block 0 with (fail)
    go_cut [6, 7] (fun v6 v7 wc => ∃ (q u : Int) (big : Bool), v6 = .int .u64 u ∧ v7 = .bool big ∧ Aside0 (f ≤ q ∧ q ≤ (s.size : Int)) ∧ Aside0 (Big u) ∧ Aside0 (digs s s.size f 0 false = (q, u, big)) ∧ Aside0 (At wc g (RC s ⟨q, u0⟩ v) 61) ∧ Aside0 (At wc b (WC ⟨100, false, p, ⟨#[]⟩, 0⟩) 59) ∧ Aside0 (KeepBut w wc g (some b)) ∧ Aside0 (Below g w wc))
    case first =>
      go_wp2
      go_loopg [6, 7] s.size (fun d v6 v7 w' => ∃ (q u : Int) (big : Bool), v6 = .int .u64 u ∧ v7 = .bool big ∧ Aside0 (f ≤ q ∧ q ≤ (s.size : Int) ∧ (s.size : Int) ≤ q + d) ∧ Aside0 (Big u) ∧ Aside0 (digs s d q u big = digs s s.size f 0 false) ∧ Aside0 (At w' g (RC s ⟨q, u0⟩ v) 61) ∧ Aside0 (At w' b (WC ⟨100, false, p, ⟨#[]⟩, 0⟩) 59) ∧ Aside0 (KeepBut w w' g (some b)) ∧ Aside0 (Below g w w'))
      case atStart =>
        have hf := HF.out
        (try simp only [if_true, Bool.false_eq_true, if_false] at hf)
        subst hf
        exact ⟨_, 0, false, rfl, rfl, ⟨Int.le_refl _, hfs, by omega⟩, ⟨by unfold Big; omega⟩, ⟨rfl⟩, ⟨by (apply At.fin; (focus (with_reducible repeat (first | exact HG.out | exact HB.out | apply At.drew | apply At.drewN | apply At.alloc | (refine At.set (cs := ?_) ?_ _ _; rotate_left) | apply At.other (hne := hne') | apply At.other (hne := hne)))); (focus rfl))⟩, ⟨by (apply At.fin; (focus (with_reducible repeat (first | exact HG.out | exact HB.out | apply At.drew | apply At.drewN | apply At.alloc | (refine At.set (cs := ?_) ?_ _ _; rotate_left) | apply At.other (hne := hne') | apply At.other (hne := hne)))); (focus rfl))⟩, ⟨by (with_reducible repeat (first | exact KeepBut.refl _ _ _ | exact HK.out | apply KeepBut.set_ | apply kb_row | apply kb_drewN | apply kb_drew | apply kb_alloc))⟩, ⟨by (with_reducible repeat (first | exact Below.refl _ _ | exact HL.out | apply pw_below_drewN | apply below_drew1 | refine bl_set ?_ (Nat.le_refl _) | refine bl_set ?_ (Nat.le_of_lt hgb)))⟩⟩
      clear m' hx e0 e1 q0 q1 f1 c0 d0 HF HG HB HK HL
      obtain ⟨q, u, big, rfl, rfl, hq, hu, hS, HG, HB, HK, HL⟩ := hrel
      obtain ⟨hq0, hq1, hq2⟩ := hq.out
      clear hq
      have q0 : wr.cell? ⟨g, 0, none⟩ = some (.string s) := (blk_cell HG.out 0).trans rfl
      have q1 : wr.cell? ⟨g, 1, none⟩ = some (.int .i64 q) := (blk_cell HG.out 1).trans rfl
      have f1 := blk_frozen HG.out 1
      have hx := bt_at s q
      have e0 : 0 ≤ q := by omega
      replace e0 := eq_true e0
      have hr := bt_range s q
      by_cases hd : q < (s.size : Int) ∧ 48 ≤ bt s q ∧ bt s q ≤ 57
      · cases gk with
        | zero => omega
        | succ d =>
          have HS2 : Aside0 (digs s d (q + 1) (IntKind.u64.wrap (u * 10 + (bt s q - 48))) (big || decide (u > (9223372036854775808 - (bt s q - 48)) / 10)) = digs s s.size f 0 false) := ⟨by have := hS.out; rwa [digs, if_pos hd] at this⟩
          clear hS
          obtain ⟨x1, x2, x3⟩ := hd
          have b1 : decide (q < (s.size : Int)) = true := decide_eq_true x1
          have e1 := eq_true x1
          have b2 : decide (48 ≤ bt s q) = true := decide_eq_true x2
          have b3 : decide (bt s q ≤ 57) = true := decide_eq_true x3
          generalize bt s q = x at *
          go_wp2
          go_quiet (fail)
          go_wp2
          go_quiet (fail)
          cases big
          all_goals
            go_wp2
            go_roundg d
            case measure => omega
            case rel => exact ⟨q + 1, _, _, rfl, rfl, ⟨by omega, by have := of_eq_true e1; omega, by omega⟩, ⟨u64_rng _⟩, ⟨by rw [digs_step]; exact HS2.out⟩, ⟨by (apply At.fin; (focus (with_reducible repeat (first | exact HG.out | exact HB.out | apply At.drew | apply At.drewN | apply At.alloc | (refine At.set (cs := ?_) ?_ _ _; rotate_left) | apply At.other (hne := hne') | apply At.other (hne := hne)))); (focus rfl))⟩, ⟨by (apply At.fin; (focus (with_reducible repeat (first | exact HG.out | exact HB.out | apply At.drew | apply At.drewN | apply At.alloc | (refine At.set (cs := ?_) ?_ _ _; rotate_left) | apply At.other (hne := hne') | apply At.other (hne := hne)))); (focus rfl))⟩, ⟨by (with_reducible repeat (first | exact KeepBut.refl _ _ _ | exact HK.out | apply KeepBut.set_ | apply kb_row | apply kb_drewN | apply kb_drew | apply kb_alloc))⟩, ⟨by (with_reducible repeat (first | exact Below.refl _ _ | exact HL.out | apply pw_below_drewN | apply below_drew1 | refine bl_set ?_ (Nat.le_refl _) | refine bl_set ?_ (Nat.le_of_lt hgb)))⟩⟩
      · have HS2 : Aside0 (digs s s.size f 0 false = (q, u, big)) := by
          refine ⟨hS.out.symm.trans ?_⟩
          cases gk with
          | zero => rw [digs]
          | succ d => rw [digs, if_neg hd]
        clear hS
        have HD : Aside0 (decide (q < (s.size : Int)) = false ∨ (q < (s.size : Int) ∧ (decide (48 ≤ bt s q) = false ∨ (decide (48 ≤ bt s q) = true ∧ decide (bt s q ≤ 57) = false)))) := by
          refine ⟨?_⟩
          simp only [decide_eq_true_eq, decide_eq_false_iff_not]
          omega
        clear hd
        rcases HD.out with b1 | ⟨x1, b2 | ⟨b2, b3⟩⟩
        all_goals clear HD
        rotate_left
        all_goals try
          have b1 : decide (q < (s.size : Int)) = true := decide_eq_true x1
          have e1 := eq_true x1
          clear x1
        all_goals
          go_wp2
          go_quiet (fail)
          go_wp2
          go_meet
          case rel => exact ⟨q, u, big, rfl, rfl, ⟨hq0, hq1⟩, hu, HS2, ⟨by (apply At.fin; (focus (with_reducible repeat (first | exact HG.out | exact HB.out | apply At.drew | apply At.drewN | apply At.alloc | (refine At.set (cs := ?_) ?_ _ _; rotate_left) | apply At.other (hne := hne') | apply At.other (hne := hne)))); (focus rfl))⟩, ⟨by (apply At.fin; (focus (with_reducible repeat (first | exact HG.out | exact HB.out | apply At.drew | apply At.drewN | apply At.alloc | (refine At.set (cs := ?_) ?_ _ _; rotate_left) | apply At.other (hne := hne') | apply At.other (hne := hne)))); (focus rfl))⟩, ⟨by (with_reducible repeat (first | exact KeepBut.refl _ _ _ | exact HK.out | apply KeepBut.set_ | apply kb_row | apply kb_drewN | apply kb_drew | apply kb_alloc))⟩, ⟨by (with_reducible repeat (first | exact Below.refl _ _ | exact HL.out | apply pw_below_drewN | apply below_drew1 | refine bl_set ?_ (Nat.le_refl _) | refine bl_set ?_ (Nat.le_of_lt hgb)))⟩⟩
    case rest =>
      clear m' hx e0 e1 q0 q1 f1 c0 d0 HG HB HK HL
      obtain ⟨q, u, big, rfl, rfl, hq, hu, hS, HG, HB, HK, HL⟩ := hcut
      have hf := HF.out
      (try simp only [if_true, Bool.false_eq_true, if_false] at hf)
      subst hf
      clear HF
      obtain ⟨hq0, hq1⟩ := hq.out
      clear hq
      have q0 : wc.cell? ⟨g, 0, none⟩ = some (.string s) := (blk_cell HG.out 0).trans rfl
      have q1 : wc.cell? ⟨g, 1, none⟩ = some (.int .i64 q) := (blk_cell HG.out 1).trans rfl
      have c2 : wc.cell? ⟨b, 2, none⟩ = some (.int .i64 p) := (blk_cell HB.out 2).trans rfl
      have c4 : wc.cell? ⟨b, 4, none⟩ = some (.int .i64 0) := (blk_cell HB.out 4).trans rfl
      have d4 := blk_frozen HB.out 4
      have hO := HO.out
      unfold numR at hO
      rw [hS.out] at hO
      simp only [Bool.false_eq_true, if_false, if_true, true_or, false_or, true_and, false_and, or_false, and_true, reduceCtorEq] at hO
      clear hS HO
      by_cases y1 : q = (p + 1)
      · rw [if_pos (.inl y1)] at hO
        subst hO
        have y1' : (q == (p + 1)) = true := by simpa using y1
        clear y1
        go_wp2_with (first | (go_at_call 20; refine (stop_ _ _ _).mono ?_; rintro e w2 ⟨rfl, hw⟩; subst hw; unfold flt))
        exact ⟨rfl, rfl, by (with_reducible repeat (first | exact KeepBut.refl _ _ _ | exact HK.out | apply KeepBut.set_ | apply kb_row | apply kb_drewN | apply kb_drew | apply kb_alloc)), by (with_reducible repeat (first | exact Below.refl _ _ | exact HL.out | apply pw_below_drewN | apply below_drew1 | refine bl_set ?_ (Nat.le_refl _) | refine bl_set ?_ (Nat.le_of_lt hgb)))⟩
      · have y1' : (q == (p + 1)) = false := by simpa using y1
        have hx := bt_at s (p + 1)
        have e0 : 0 ≤ (p + 1) := by omega
        replace e0 := eq_true e0
        have e1 : (p + 1) < (s.size : Int) := by omega
        replace e1 := eq_true e1
        by_cases y2 : bt s (p + 1) = 48 
        · rw [if_pos (.inr y2)] at hO
          subst hO
          have y2' : (bt s (p + 1) == 48) = true := by simpa using y2
          clear y1 y2
          go_wp2_with (first | (go_at_call 20; refine (stop_ _ _ _).mono ?_; rintro e w2 ⟨rfl, hw⟩; subst hw; unfold flt))
          exact ⟨rfl, rfl, by (with_reducible repeat (first | exact KeepBut.refl _ _ _ | exact HK.out | apply KeepBut.set_ | apply kb_row | apply kb_drewN | apply kb_drew | apply kb_alloc)), by (with_reducible repeat (first | exact Below.refl _ _ | exact HL.out | apply pw_below_drewN | apply below_drew1 | refine bl_set ?_ (Nat.le_refl _) | refine bl_set ?_ (Nat.le_of_lt hgb)))⟩
        · rw [if_neg (fun h => h.elim y1 y2)] at hO
          have y2' : (bt s (p + 1) == 48) = false := by simpa using y2
          clear y1 y2
          cases big
          · rw [if_neg (by decide)] at hO
            subst hO
            go_wp2
            (try simp only [Exit.then, Exit.jump])
            go_end0
            exact ⟨rfl, by (apply At.fin; (focus (with_reducible repeat (first | exact HG.out | exact HB.out | apply At.drew | apply At.drewN | apply At.alloc | (refine At.set (cs := ?_) ?_ _ _; rotate_left) | apply At.other (hne := hne') | apply At.other (hne := hne)))); (focus rfl)), by (apply At.fin; (focus (with_reducible repeat (first | exact HG.out | exact HB.out | apply At.drew | apply At.drewN | apply At.alloc | (refine At.set (cs := ?_) ?_ _ _; rotate_left) | apply At.other (hne := hne') | apply At.other (hne := hne)))); (focus rfl)), by (with_reducible repeat (first | exact KeepBut.refl _ _ _ | exact HK.out | apply KeepBut.set_ | apply kb_row | apply kb_drewN | apply kb_drew | apply kb_alloc)), by (with_reducible repeat (first | exact Below.refl _ _ | exact HL.out | apply pw_below_drewN | apply below_drew1 | refine bl_set ?_ (Nat.le_refl _) | refine bl_set ?_ (Nat.le_of_lt hgb)))⟩
          · rw [if_pos rfl] at hO
            subst hO
            go_wp2_with (first | (go_at_call 20; refine (stop_ _ _ _).mono ?_; rintro e w2 ⟨rfl, hw⟩; subst hw; unfold flt))
            exact ⟨rfl, rfl, by (with_reducible repeat (first | exact KeepBut.refl _ _ _ | exact HK.out | apply KeepBut.set_ | apply kb_row | apply kb_drewN | apply kb_drew | apply kb_alloc)), by (with_reducible repeat (first | exact Below.refl _ _ | exact HL.out | apply pw_below_drewN | apply below_drew1 | refine bl_set ?_ (Nat.le_refl _) | refine bl_set ?_ (Nat.le_of_lt hgb)))⟩
end Go.Proofs.Ytmgljgmieomngaa.Pz
