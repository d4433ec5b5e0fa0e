/- Functions of the program as Lean functions, each with its walk: that the Go code comes to just these answers, whatever the memory. Written by a program of this claim (wip/tools). -/
import Derived.Test.YtmgljgmieomngaaMc
import Derived.Test.YtmgljgmieomngaaQx0
import Derived.Test.YtmgljgmieomngaaQx40
import Derived.Test.YtmgljgmieomngaaQx49
import Derived.Test.YtmgljgmieomngaaQx71
namespace Go.Proofs.Ytmgljgmieomngaa.Q
open Go.RowKit Go.Proofs.YtmgljgmieomngaaW.PrintWords Go.Proofs.YtmgljgmieomngaaW.PrintLast Go.Proofs.YtmgljgmieomngaaW.PrintMore
attribute [local go_sem] run_ftoi isSome_setCell bytesLess_total run_store_complex run_store_float max2_int min2_int max_two min_two max_three min_three max_four min_four   -- for this text's walks alone
set_option linter.unusedVariables false
set_option linter.unusedSimpArgs false

/-! ### grapevinelaw05_PredOnce: function 6 -/
def grapevinelaw05_PredOnce.j0 : Nat → Int → List Int → Bool → Option (Bool)
 | 0, _, _, _ => none
 | k + 1, x1, x8, x56 => if x56 = true then (some false) else (if (x8.length : Int) = 0 then (none) else (if 0 ≤ (Int.tmod (wrap64 (x1)) (x8.length : Int)) then (if (Int.tmod (wrap64 (x1)) (x8.length : Int)) ≤ (x8.length : Int) then ((pred_Take.f k (x8.take ((Int.tmod (wrap64 (x1)) (x8.length : Int)) : Int).toNat) 0).bind fun bt527 => ((grapevinelaw05_live.f).bind fun t532 => (if t532 = true then (some (bt527.2.2 == 3)) else (some false)))) else (none)) else (none)))
def grapevinelaw05_PredOnce.f (k : Nat) (l0 : List Int) (a1 : Int) : Option (Bool) := (pred_Take.f k l0 0).bind fun bt512 => (if bt512.2.2 = 0 then ((pred_Put.f k bt512.1).bind fun bt518 => (if bt518.2 = 0 then (if bt512.2.1 = (bt518.1.length : Int) then (if bt512.2.1 < 1 then (grapevinelaw05_PredOnce.j0 k a1 bt518.1 true) else (if 0 ≤ bt512.2.1 then (if bt512.2.1 ≤ (l0.length : Int) then (grapevinelaw05_PredOnce.j0 k a1 bt518.1 ((strOfNums bt518.1).toList != (strOfNums (l0.take (bt512.2.1 : Int).toNat)).toList)) else (none)) else (none))) else (grapevinelaw05_PredOnce.j0 k a1 bt518.1 true)) else (grapevinelaw05_PredOnce.j0 k a1 bt518.1 true))) else ((grapevinelaw05_live.f).bind fun t517 => (if t517 = true then (if bt512.2.1 = 0 then (some ((bt512.1.length : Int) == 0)) else (some false)) else (some false))))
theorem grapevinelaw05_PredOnce.mono_l : ∀ k, (∀ y0 y1 y2, LeO (grapevinelaw05_PredOnce.j0 k y0 y1 y2) (grapevinelaw05_PredOnce.j0 (k + 1) y0 y1 y2))
 | 0 => fun _ _ _ r h => by simp [grapevinelaw05_PredOnce.j0] at h
 | k + 1 => by
  have ih0 := grapevinelaw05_PredOnce.mono_l k
  ·intro y0 y1 y2
   unfold grapevinelaw05_PredOnce.j0
   repeat' first
   | (with_reducible exact ih0 _ _ _)
   | (with_reducible exact pred_Put.mono _ _)
   | (with_reducible exact pred_Take.mono _ _ _)
   | (with_reducible exact LeO.refl _)
   | (with_reducible exact LeO.none _)
   | (with_reducible refine LeO.ite ?_ ?_)
   | (with_reducible refine LeO.bind ?_ (fun _ => ?_))
   | exact ih0 _ _ _
   | exact pred_Put.mono _ _
   | exact pred_Take.mono _ _ _
   | exact LeO.none _
   | refine LeO.ite ?_ ?_
   | refine LeO.bind ?_ (fun _ => ?_)
theorem grapevinelaw05_PredOnce.mono : ∀ a0 a1 k, LeO (grapevinelaw05_PredOnce.f k a0 a1) (grapevinelaw05_PredOnce.f (k + 1) a0 a1) := by
 intro a0 a1 k
 have ih0 := grapevinelaw05_PredOnce.mono_l k
 unfold grapevinelaw05_PredOnce.f
 repeat' first
   | (with_reducible exact ih0 _ _ _)
   | (with_reducible exact pred_Put.mono _ _)
   | (with_reducible exact pred_Take.mono _ _ _)
   | (with_reducible exact LeO.refl _)
   | (with_reducible exact LeO.none _)
   | (with_reducible refine LeO.ite ?_ ?_)
   | (with_reducible refine LeO.bind ?_ (fun _ => ?_))
   | exact ih0 _ _ _
   | exact pred_Put.mono _ _
   | exact pred_Take.mono _ _ _
   | exact LeO.none _
   | refine LeO.ite ?_ ?_
   | refine LeO.bind ?_ (fun _ => ?_)
set_option maxHeartbeats 8000000 in
set_option maxRecDepth 100000 in
theorem grapevinelaw05_PredOnce.calls (k : Nat) (A0 : Option Addr) (c0 : Nat) (l0 : List Int) (a1 : Int) (r : Bool) (w : World) (hr0 : Kd.C (Kd.int .u8) w A0 l0.length l0) (hc0 : l0.length ≤ c0) (h : grapevinelaw05_PredOnce.f k l0 a1 = some r) (hr_ : r = true := by rfl) :
  Calls Try.prog 6 #[.slice A0 l0.length c0, .int .u16 a1] w fun e w' => e = .returned (.bool r) ∧ Below w.heap.size w w' := by
 have HR0 := Aside0.mk hr0
 have HC0 := Aside0.mk hc0
 clear hr0 hc0
 have HB := Aside0.mk (Below.refl w.heap.size w)
 have H : ((pred_Take.f k l0 0).bind fun bt512 => (if bt512.2.2 = 0 then ((pred_Put.f k bt512.1).bind fun bt518 => (if bt518.2 = 0 then (if bt512.2.1 = (bt518.1.length : Int) then (if bt512.2.1 < 1 then (grapevinelaw05_PredOnce.j0 k a1 bt518.1 true) else (if 0 ≤ bt512.2.1 then (if bt512.2.1 ≤ (l0.length : Int) then (grapevinelaw05_PredOnce.j0 k a1 bt518.1 ((strOfNums bt518.1).toList != (strOfNums (l0.take (bt512.2.1 : Int).toNat)).toList)) else (none)) else (none))) else (grapevinelaw05_PredOnce.j0 k a1 bt518.1 true)) else (grapevinelaw05_PredOnce.j0 k a1 bt518.1 true))) else ((grapevinelaw05_live.f).bind fun t517 => (if t517 = true then (if bt512.2.1 = 0 then (some ((bt512.1.length : Int) == 0)) else (some false)) else (some false))))) = some r := h
 clear h
 replace H := Option.bind_eq_some_iff.mp H
 obtain ⟨⟨t512, t513, t514⟩, A30, H⟩ := H
 replace H : (if t514 = 0 then ((pred_Put.f k t512).bind fun bt518 => (if bt518.2 = 0 then (if t513 = (bt518.1.length : Int) then (if t513 < 1 then (grapevinelaw05_PredOnce.j0 k a1 bt518.1 true) else (if 0 ≤ t513 then (if t513 ≤ (l0.length : Int) then (grapevinelaw05_PredOnce.j0 k a1 bt518.1 ((strOfNums bt518.1).toList != (strOfNums (l0.take (t513 : Int).toNat)).toList)) else (none)) else (none))) else (grapevinelaw05_PredOnce.j0 k a1 bt518.1 true)) else (grapevinelaw05_PredOnce.j0 k a1 bt518.1 true))) else ((grapevinelaw05_live.f).bind fun t517 => (if t517 = true then (if t513 = 0 then (some ((t512.length : Int) == 0)) else (some false)) else (some false)))) = some r := H
 have A3 := Aside0.mk A30
 clear A30
 by_cases c4 : t514 = 0
 ·rw [if_pos c4] at H
  have c4b0 : (t514 == 0) = true := beq_iff_eq.mpr c4
  have c4b1 : (t514 != 0) = false := bne_eq_false_iff_eq.mpr c4
  clear c4
  replace H := Option.bind_eq_some_iff.mp H
  obtain ⟨⟨t518, t519⟩, A50, H⟩ := H
  replace H : (if t519 = 0 then (if t513 = (t518.length : Int) then (if t513 < 1 then (grapevinelaw05_PredOnce.j0 k a1 t518 true) else (if 0 ≤ t513 then (if t513 ≤ (l0.length : Int) then (grapevinelaw05_PredOnce.j0 k a1 t518 ((strOfNums t518).toList != (strOfNums (l0.take (t513 : Int).toNat)).toList)) else (none)) else (none))) else (grapevinelaw05_PredOnce.j0 k a1 t518 true)) else (grapevinelaw05_PredOnce.j0 k a1 t518 true)) = some r := H
  have A5 := Aside0.mk A50
  clear A50
  have HC6 := Aside0.mk H
  clear H
  go_enter Try.func6, Try.ntmps6
  go_upto_region 5 with (first | (go_at_call 12; (with_reducible refine (pred_Take.calls k _ _ l0 0 t512 t513 t514 _ ?side1 ?side2 A3.out).mono ?_); (case side1 => repeat (first | exact HR0.out | (with_reducible refine Kd.C_alloc ?_ _) | (with_reducible refine Kd.C_drewN ?_ _) | (with_reducible refine Kd.C_drew ?_))); (case side2 => exact HC0.out); rintro e w7 ⟨v515, rfl, ho0, hb⟩; have n0_ := Aside0.mk (Kd.R_lower ho0 (below_size (Bl))); have n1_ := Aside0.mk (below_step (Bl) hb); clear HB; have HO516 := n0_; have HB := n1_; clear n0_ n1_; (try clear hb); (try clear hb2); (try clear hk); (try clear hi); (try clear ho0); obtain ⟨Ao8, co8, eo8⟩ := Kd.R_slice HO516.out; subst eo8) | (go_at_call 14; (with_reducible refine (pred_Put.calls k _ _ t512 t518 t519 _ ?side1 ?side2 A5.out).mono ?_); (case side1 => repeat (first | exact (Kd.R_reads' HO516.out).2.2 | (with_reducible refine Kd.C_alloc ?_ _) | (with_reducible refine Kd.C_drewN ?_ _) | (with_reducible refine Kd.C_drew ?_))); (case side2 => exact (Kd.R_reads' HO516.out).2.1); rintro e w9 ⟨v520, rfl, ho0, hb⟩; have n0_ := Aside0.mk (Kd.R_below (Rw HO516.out) hb); have n1_ := Aside0.mk (Kd.R_lower ho0 (below_size (Bl))); have n2_ := Aside0.mk (below_step (Bl) hb); clear HO516; clear HB; have HO516 := n0_; have HO521 := n1_; have HB := n2_; clear n0_ n1_ n2_; (try clear hb); (try clear hb2); (try clear hk); (try clear hi); (try clear ho0)))
  repeat (go_quiet (first | (go_at_call 12; (with_reducible refine (pred_Take.calls k _ _ l0 0 t512 t513 t514 _ ?side1 ?side2 A3.out).mono ?_); (case side1 => repeat (first | exact HR0.out | (with_reducible refine Kd.C_alloc ?_ _) | (with_reducible refine Kd.C_drewN ?_ _) | (with_reducible refine Kd.C_drew ?_))); (case side2 => exact HC0.out); rintro e w7 ⟨v515, rfl, ho0, hb⟩; have n0_ := Aside0.mk (Kd.R_lower ho0 (below_size (Bl))); have n1_ := Aside0.mk (below_step (Bl) hb); clear HB; have HO516 := n0_; have HB := n1_; clear n0_ n1_; (try clear hb); (try clear hb2); (try clear hk); (try clear hi); (try clear ho0); obtain ⟨Ao8, co8, eo8⟩ := Kd.R_slice HO516.out; subst eo8) | (go_at_call 14; (with_reducible refine (pred_Put.calls k _ _ t512 t518 t519 _ ?side1 ?side2 A5.out).mono ?_); (case side1 => repeat (first | exact (Kd.R_reads' HO516.out).2.2 | (with_reducible refine Kd.C_alloc ?_ _) | (with_reducible refine Kd.C_drewN ?_ _) | (with_reducible refine Kd.C_drew ?_))); (case side2 => exact (Kd.R_reads' HO516.out).2.1); rintro e w9 ⟨v520, rfl, ho0, hb⟩; have n0_ := Aside0.mk (Kd.R_below (Rw HO516.out) hb); have n1_ := Aside0.mk (Kd.R_lower ho0 (below_size (Bl))); have n2_ := Aside0.mk (below_step (Bl) hb); clear HO516; clear HB; have HO516 := n0_; have HO521 := n1_; have HB := n2_; clear n0_ n1_ n2_; (try clear hb); (try clear hb2); (try clear hk); (try clear hi); (try clear ho0))); go_upto_region 5 with (first | (go_at_call 12; (with_reducible refine (pred_Take.calls k _ _ l0 0 t512 t513 t514 _ ?side1 ?side2 A3.out).mono ?_); (case side1 => repeat (first | exact HR0.out | (with_reducible refine Kd.C_alloc ?_ _) | (with_reducible refine Kd.C_drewN ?_ _) | (with_reducible refine Kd.C_drew ?_))); (case side2 => exact HC0.out); rintro e w7 ⟨v515, rfl, ho0, hb⟩; have n0_ := Aside0.mk (Kd.R_lower ho0 (below_size (Bl))); have n1_ := Aside0.mk (below_step (Bl) hb); clear HB; have HO516 := n0_; have HB := n1_; clear n0_ n1_; (try clear hb); (try clear hb2); (try clear hk); (try clear hi); (try clear ho0); obtain ⟨Ao8, co8, eo8⟩ := Kd.R_slice HO516.out; subst eo8) | (go_at_call 14; (with_reducible refine (pred_Put.calls k _ _ t512 t518 t519 _ ?side1 ?side2 A5.out).mono ?_); (case side1 => repeat (first | exact (Kd.R_reads' HO516.out).2.2 | (with_reducible refine Kd.C_alloc ?_ _) | (with_reducible refine Kd.C_drewN ?_ _) | (with_reducible refine Kd.C_drew ?_))); (case side2 => exact (Kd.R_reads' HO516.out).2.1); rintro e w9 ⟨v520, rfl, ho0, hb⟩; have n0_ := Aside0.mk (Kd.R_below (Rw HO516.out) hb); have n1_ := Aside0.mk (Kd.R_lower ho0 (below_size (Bl))); have n2_ := Aside0.mk (below_step (Bl) hb); clear HO516; clear HB; have HO516 := n0_; have HO521 := n1_; have HB := n2_; clear n0_ n1_ n2_; (try clear hb); (try clear hb2); (try clear hk); (try clear hi); (try clear ho0))))
  (try simp only [Act.put, List.setIfInBounds_toArray, List.set_cons_zero, List.set_cons_succ])
  go_cut [56] (fun v56 wc => ∃ (kq : Nat) (x56_5 : Bool), v56 = .bool x56_5 ∧ Aside0 (grapevinelaw05_PredOnce.j0 kq a1 t518 x56_5 = some r) ∧ Aside0 (kq ≤ k) ∧ Aside0 (Kd.R (Kd.int .u8) 5 wc w.heap.size (fun _ => True) v520 t518) ∧ Aside0 (Below w.heap.size w wc))
  case first =>
   have H := HC6.out
   clear HC6
   by_cases c10 : t519 = 0
   ·rw [if_pos c10] at H
    have c10b0 : (t519 == 0) = true := beq_iff_eq.mpr c10
    have c10b1 : (t519 != 0) = false := bne_eq_false_iff_eq.mpr c10
    clear c10
    (first | rw [c10b0] | (simp only [i64_w, i32_w]; rw [c10b0]) | skip)
    by_cases c11 : t513 = (t518.length : Int)
    ·rw [if_pos c11] at H
     have c11b0 : (t513 == (t518.length : Int)) = true := beq_iff_eq.mpr c11
     have c11b1 : (t513 != (t518.length : Int)) = false := bne_eq_false_iff_eq.mpr c11
     clear c11
     by_cases c12 : t513 < 1
     ·rw [if_pos c12] at H
      have c12b0 : decide (t513 < 1) = true := decide_eq_true c12
      clear c12
      have H' := Aside0.mk H
      clear H
      obtain ⟨Ao13, co13, eo13⟩ := Kd.R_slice HO521.out
      subst eo13
      go_wp2
      repeat (go_quiet (fail); try go_wp2)
      go_meet
      case rel => exact ⟨_, (true), (by first | rfl | (simp; done) | (simp [*]; done)), H', ⟨by first | omega | exact Nat.le_refl _⟩, ⟨Rw HO521.out⟩, ⟨Bl⟩⟩
     ·rw [if_neg c12] at H
      have c12b0 : decide (t513 < 1) = false := decide_eq_false c12
      clear c12
      by_cases c14 : 0 ≤ t513
      ·rw [if_pos c14] at H
       have c14b0 := eq_true c14
       have c14b1 : decide (0 ≤ t513) = true := decide_eq_true c14
       clear c14
       by_cases c15 : t513 ≤ (l0.length : Int)
       ·rw [if_pos c15] at H
        have c15b0 := eq_true c15
        have c15b1 : decide (t513 ≤ (l0.length : Int)) = true := decide_eq_true c15
        clear c15
        have H' := Aside0.mk H
        clear H
        obtain ⟨Ao16, co16, eo16⟩ := Kd.R_slice HO521.out
        subst eo16
        have hcv17n := fun m_ => own_string (P := Try.prog) Try.underlying33 Try.underlying5 Try.underlying9 (Kd.own_of_R (Kd.R_drewN HO521.out m_))
        have hcv17d := fun m_ => own_string (P := Try.prog) Try.underlying33 Try.underlying5 Try.underlying9 (Kd.own_of_R (Kd.R_drew (Kd.R_drewN HO521.out m_)))
        have hcv18 := own_string (P := Try.prog) Try.underlying33 Try.underlying5 Try.underlying9 (Kd.own_of_R HO521.out)
        obtain ⟨i019, hi019, _, hsz19, _⟩ := info_parts info5
        obtain ⟨hcut19, hA19, hC19⟩ := print_take_of (P := Try.prog) (Value.int .u8) 0 33 5 .i64 Try.underlying33 hi019 hsz19 A0 c0 l0 t513 (of_decide_eq_true (As)) (of_decide_eq_true (As)) HC0.out
        have HR522 := Aside0.mk (Kd.C_of_reads (h1 := fun _ => rfl) (hA19 _ (Kd.reads_of_C HR0.out)))
        have HC522 := Aside0.mk hC19
        clear hA19 hC19 hi019 hsz19
        have HLQ19 : Aside0 ((l0.take (t513 : Int).toNat).length = (t513 : Int).toNat) := ⟨by have h_ : (t513 : Int) ≤ (l0.length : Int) := of_decide_eq_true (As); simp only [List.length_drop, List.length_take]; omega⟩
        have hcv20n := fun m_ => Kd.C_string (P := Try.prog) (A := A0) (c := c0) Try.underlying33 Try.underlying5 Try.underlying9 (Kd.C_drewN ((Kd.C_below HR522.out HB.out)) m_)
        have hcv20d := fun m_ => Kd.C_string (P := Try.prog) (A := A0) (c := c0) Try.underlying33 Try.underlying5 Try.underlying9 (Kd.C_drew (Kd.C_drewN ((Kd.C_below HR522.out HB.out)) m_))
        have hcv21 := Kd.C_string (P := Try.prog) (A := A0) (c := c0) Try.underlying33 Try.underlying5 Try.underlying9 (Kd.C_below HR522.out HB.out)
        (try simp only [HLQ19.out] at hcv20n)
        (try simp only [HLQ19.out] at hcv20d)
        (try simp only [HLQ19.out] at hcv21)
        go_wp2
        repeat (go_quiet (fail); try go_wp2)
        go_meet
        case rel => exact ⟨_, (((strOfNums t518).toList != (strOfNums (l0.take (t513 : Int).toNat)).toList)), (by first | rfl | (simp; done) | (simp [*]; done)), H', ⟨by first | omega | exact Nat.le_refl _⟩, ⟨Rw HO521.out⟩, ⟨Bl⟩⟩
       ·rw [if_neg c15] at H
        exact absurd H (by simp)
      ·rw [if_neg c14] at H
       exact absurd H (by simp)
    ·rw [if_neg c11] at H
     have c11b0 : (t513 == (t518.length : Int)) = false := beq_eq_false_iff_ne.mpr c11
     have c11b1 : (t513 != (t518.length : Int)) = true := bne_iff_ne.mpr c11
     (try (have c11b0HLQ19 := c11b0; rw [HLQ19.out] at c11b0HLQ19))
     (try (have c11b1HLQ19 := c11b1; rw [HLQ19.out] at c11b1HLQ19))
     have H' := Aside0.mk H
     clear H
     obtain ⟨Ao22, co22, eo22⟩ := Kd.R_slice HO521.out
     subst eo22
     go_wp2
     repeat (go_quiet (fail); try go_wp2)
     go_meet
     case rel => exact ⟨_, (true), (by first | rfl | (simp; done) | (simp [*]; done)), H', ⟨by first | omega | exact Nat.le_refl _⟩, ⟨Rw HO521.out⟩, ⟨Bl⟩⟩
   ·rw [if_neg c10] at H
    have c10b0 : (t519 == 0) = false := beq_eq_false_iff_ne.mpr c10
    have c10b1 : (t519 != 0) = true := bne_iff_ne.mpr c10
    (first | rw [c10b0] | (simp only [i64_w, i32_w]; rw [c10b0]) | skip)
    have H' := Aside0.mk H
    clear H
    go_wp2
    repeat (go_quiet (fail); try go_wp2)
    go_meet
    case rel => exact ⟨_, (true), (by first | rfl | (simp; done) | (simp [*]; done)), H', ⟨by first | omega | exact Nat.le_refl _⟩, ⟨Rw HO521.out⟩, ⟨Bl⟩⟩
  case rest =>
   clear HC6
   try clear c4b0
   try clear c4b1
   obtain ⟨kq, x56_5, rfl, HA, HJ5, HO_8, HB⟩ := hcut
   cases kq with
   | zero => exact absurd HA.out (by simp [grapevinelaw05_PredOnce.j0])
   | succ kj5 =>
    have H := HA.out
    clear HA
    simp only [grapevinelaw05_PredOnce.j0] at H
    by_cases c23 : x56_5 = true
    ·subst c23
     have H1 : (some false) = some r := by rw [if_pos rfl] at H; exact H
     clear H
     have H := H1
     clear H1
     exact absurd (Option.some.inj H) (by rw [hr_]; decide)
    ·replace c23 := Bool.eq_false_iff.mpr c23
     subst c23
     have H1 : (if (t518.length : Int) = 0 then (none) else (if 0 ≤ (Int.tmod (wrap64 (a1)) (t518.length : Int)) then (if (Int.tmod (wrap64 (a1)) (t518.length : Int)) ≤ (t518.length : Int) then ((pred_Take.f kj5 (t518.take ((Int.tmod (wrap64 (a1)) (t518.length : Int)) : Int).toNat) 0).bind fun bt527 => ((grapevinelaw05_live.f).bind fun t532 => (if t532 = true then (some (bt527.2.2 == 3)) else (some false)))) else (none)) else (none))) = some r := by rw [if_neg (show ¬ (false = true) by decide)] at H; exact H
     clear H
     have H := H1
     clear H1
     by_cases c24 : (t518.length : Int) = 0
     ·rw [if_pos c24] at H
      exact absurd H (by simp)
     ·rw [if_neg c24] at H
      have c24b0 : ((t518.length : Int) == 0) = false := beq_eq_false_iff_ne.mpr c24
      have c24b1 : ((t518.length : Int) != 0) = true := bne_iff_ne.mpr c24
      have c24b2 : ¬ (t518 = []) := fun h_ => c24 (by rw [h_]; rfl)
      (try (have c24b0HLQ19 := c24b0; rw [HLQ19.out] at c24b0HLQ19))
      (try (have c24b1HLQ19 := c24b1; rw [HLQ19.out] at c24b1HLQ19))
      (try (have c24b2HLQ19 := c24b2; rw [HLQ19.out] at c24b2HLQ19))
      obtain ⟨ji25, hji25⟩ : ∃ j_ : Int, (Int.tmod (wrap64 (a1)) (t518.length : Int)) = j_ := ⟨_, rfl⟩
      replace H : (if 0 ≤ (ji25) then (if (ji25) ≤ (t518.length : Int) then ((pred_Take.f kj5 (t518.take ((ji25) : Int).toNat) 0).bind fun bt527 => ((grapevinelaw05_live.f).bind fun t532 => (if t532 = true then (some (bt527.2.2 == 3)) else (some false)))) else (none)) else (none)) = some r := by first | (rw [hji25] at H; exact H) | (simp only [hji25] at H ⊢; exact H)
      by_cases c26 : 0 ≤ (ji25)
      ·rw [if_pos c26] at H
       have c26b0 := eq_true c26
       have c26b1 : decide (0 ≤ (ji25)) = true := decide_eq_true c26
       clear c26
       by_cases c27 : (ji25) ≤ (t518.length : Int)
       ·rw [if_pos c27] at H
        have c27b0 := eq_true c27
        have c27b1 : decide ((ji25) ≤ (t518.length : Int)) = true := decide_eq_true c27
        clear c27
        obtain ⟨y523, hy523⟩ : ∃ y_ : List Int, y_ = (t518.take ((ji25) : Int).toNat) := ⟨_, rfl⟩
        replace H : ((pred_Take.f kj5 y523 0).bind fun bt527 => ((grapevinelaw05_live.f).bind fun t532 => (if t532 = true then (some (bt527.2.2 == 3)) else (some false)))) = some r := by first | (rw [hy523]; with_reducible exact H) | (have H2_ := (Option.bind_some _ _).symm.trans H; rw [hy523]; with_reducible exact H2_) | (have H2_ := (Option.bind_some _ _).symm.trans H; with_reducible exact H2_) | with_reducible exact H | (rw [hy523]; exact H) | exact H
        have Ny523 := Aside0.mk hy523
        clear hy523
        replace H := Option.bind_eq_some_iff.mp H
        obtain ⟨⟨t527, t528, t529⟩, A280, H⟩ := H
        replace H : ((grapevinelaw05_live.f).bind fun t532 => (if t532 = true then (some (t529 == 3)) else (some false))) = some r := H
        have A28 := Aside0.mk A280
        clear A280
        replace H := Option.bind_eq_some_iff.mp H
        obtain ⟨t532, A290, H⟩ := H
        replace H : (if t532 = true then (some (t529 == 3)) else (some false)) = some r := H
        have A29 := Aside0.mk A290
        clear A290
        by_cases c30 : t532 = true
        ·subst c30
         have H1 : (some (t529 == 3)) = some r := by rw [if_pos rfl] at H; exact H
         clear H
         have H := H1
         clear H1
         obtain rfl := Option.some.inj H
         obtain ⟨Ao31, co31, eo31⟩ := Kd.R_slice HO_8.out
         subst eo31
         have q32 : ((ji25) : Int) ≤ ((t518.length : Int) : Int) := of_decide_eq_true (As)
         obtain ⟨i032, hi032, _, hsz32, _⟩ := info_parts info5
         have hroom32 : t518.length ≤ co31 := (Kd.R_reads' HO_8.out).2.1
         have hC32 : Kd.C (Kd.int .u8) _ Ao31 t518.length t518 := (Kd.R_reads' HO_8.out).2.2
         have hcut32 := cut_to (P := Try.prog) 33 5 .i64 Try.underlying33 hi032 Ao31 t518.length co31 (ji25) (of_decide_eq_true (As)) q32 hroom32
         have hr32 := Kd.C_take (m := ((ji25) : Int).toNat) hC32 (by omega)
         have hy32 : y523.length = ((ji25) : Int).toNat := (by rw [Ny523.out, List.length_take]; omega)
         rw [← Ny523.out] at hr32
         rw [← hy32] at hcut32
         have HR526 := Aside0.mk hr32
         have HC526 := Aside0.mk (show y523.length ≤ co31 from by omega)
         clear hr32 hC32 hroom32 hi032 hsz32
         have KY32 := Aside0.mk hy32
         clear hy32
         have KL32 := Aside0.mk (show ((ji25) : Int).toNat ≤ t518.length from by omega)
         replace q32 := eq_true q32
         (try (have q32HLQ19 := q32; rw [HLQ19.out] at q32HLQ19))
         go_wp2_with (first | (go_at_call 12; (with_reducible refine (pred_Take.calls kj5 _ _ y523 0 t527 t528 t529 _ ?side1 ?side2 A28.out).mono ?_); (case side1 => repeat (first | exact (by repeat (first | (with_reducible exact HR526.out) | (with_reducible refine Kd.C_alloc ?_ _) | (with_reducible refine Kd.C_drewN ?_ _) | (with_reducible refine Kd.C_drew ?_) | exact HR526.out)) | (with_reducible refine Kd.C_alloc ?_ _) | (with_reducible refine Kd.C_drewN ?_ _) | (with_reducible refine Kd.C_drew ?_))); (case side2 => exact HC526.out); rintro e w33 ⟨v530, rfl, ho0, hb⟩; have n0_ := Aside0.mk (Kd.R_below (Rw HO_8.out) hb); have n1_ := Aside0.mk (Kd.R_lower ho0 (below_size (Bl))); have n2_ := Aside0.mk (Kd.C_below (by repeat (first | (with_reducible exact HR526.out) | (with_reducible refine Kd.C_alloc ?_ _) | (with_reducible refine Kd.C_drewN ?_ _) | (with_reducible refine Kd.C_drew ?_) | exact HR526.out)) hb); have n3_ := Aside0.mk (below_step (Bl) hb); clear HO_8; clear HR526; clear HB; have HO_8 := n0_; have HO531 := n1_; have HR526 := n2_; have HB := n3_; clear n0_ n1_ n2_ n3_; (try clear hb); (try clear hb2); (try clear hk); (try clear hi); (try clear ho0)) | (go_at_call 7; (with_reducible refine (grapevinelaw05_live.calls  true _ A29.out).mono ?_); rintro e w34 ⟨rfl, hb⟩; have n0_ := Aside0.mk (Kd.R_below (Rw HO_8.out) hb); have n1_ := Aside0.mk (Kd.R_below (Rw HO531.out) hb); have n2_ := Aside0.mk (Kd.C_below (by repeat (first | (with_reducible exact HR526.out) | (with_reducible refine Kd.C_alloc ?_ _) | (with_reducible refine Kd.C_drewN ?_ _) | (with_reducible refine Kd.C_drew ?_) | exact HR526.out)) hb); have n3_ := Aside0.mk (below_step (Bl) hb); clear HO_8; clear HO531; clear HR526; clear HB; have HO_8 := n0_; have HO531 := n1_; have HR526 := n2_; have HB := n3_; clear n0_ n1_ n2_ n3_; (try clear hb); (try clear hb2); (try clear hk); (try clear hi)))
         repeat (go_quiet (first | (go_at_call 12; (with_reducible refine (pred_Take.calls kj5 _ _ y523 0 t527 t528 t529 _ ?side1 ?side2 A28.out).mono ?_); (case side1 => repeat (first | exact (by repeat (first | (with_reducible exact HR526.out) | (with_reducible refine Kd.C_alloc ?_ _) | (with_reducible refine Kd.C_drewN ?_ _) | (with_reducible refine Kd.C_drew ?_) | exact HR526.out)) | (with_reducible refine Kd.C_alloc ?_ _) | (with_reducible refine Kd.C_drewN ?_ _) | (with_reducible refine Kd.C_drew ?_))); (case side2 => exact HC526.out); rintro e w33 ⟨v530, rfl, ho0, hb⟩; have n0_ := Aside0.mk (Kd.R_below (Rw HO_8.out) hb); have n1_ := Aside0.mk (Kd.R_lower ho0 (below_size (Bl))); have n2_ := Aside0.mk (Kd.C_below (by repeat (first | (with_reducible exact HR526.out) | (with_reducible refine Kd.C_alloc ?_ _) | (with_reducible refine Kd.C_drewN ?_ _) | (with_reducible refine Kd.C_drew ?_) | exact HR526.out)) hb); have n3_ := Aside0.mk (below_step (Bl) hb); clear HO_8; clear HR526; clear HB; have HO_8 := n0_; have HO531 := n1_; have HR526 := n2_; have HB := n3_; clear n0_ n1_ n2_ n3_; (try clear hb); (try clear hb2); (try clear hk); (try clear hi); (try clear ho0)) | (go_at_call 7; (with_reducible refine (grapevinelaw05_live.calls  true _ A29.out).mono ?_); rintro e w34 ⟨rfl, hb⟩; have n0_ := Aside0.mk (Kd.R_below (Rw HO_8.out) hb); have n1_ := Aside0.mk (Kd.R_below (Rw HO531.out) hb); have n2_ := Aside0.mk (Kd.C_below (by repeat (first | (with_reducible exact HR526.out) | (with_reducible refine Kd.C_alloc ?_ _) | (with_reducible refine Kd.C_drewN ?_ _) | (with_reducible refine Kd.C_drew ?_) | exact HR526.out)) hb); have n3_ := Aside0.mk (below_step (Bl) hb); clear HO_8; clear HO531; clear HR526; clear HB; have HO_8 := n0_; have HO531 := n1_; have HR526 := n2_; have HB := n3_; clear n0_ n1_ n2_ n3_; (try clear hb); (try clear hb2); (try clear hk); (try clear hi))); try go_wp2_with (first | (go_at_call 12; (with_reducible refine (pred_Take.calls kj5 _ _ y523 0 t527 t528 t529 _ ?side1 ?side2 A28.out).mono ?_); (case side1 => repeat (first | exact (by repeat (first | (with_reducible exact HR526.out) | (with_reducible refine Kd.C_alloc ?_ _) | (with_reducible refine Kd.C_drewN ?_ _) | (with_reducible refine Kd.C_drew ?_) | exact HR526.out)) | (with_reducible refine Kd.C_alloc ?_ _) | (with_reducible refine Kd.C_drewN ?_ _) | (with_reducible refine Kd.C_drew ?_))); (case side2 => exact HC526.out); rintro e w33 ⟨v530, rfl, ho0, hb⟩; have n0_ := Aside0.mk (Kd.R_below (Rw HO_8.out) hb); have n1_ := Aside0.mk (Kd.R_lower ho0 (below_size (Bl))); have n2_ := Aside0.mk (Kd.C_below (by repeat (first | (with_reducible exact HR526.out) | (with_reducible refine Kd.C_alloc ?_ _) | (with_reducible refine Kd.C_drewN ?_ _) | (with_reducible refine Kd.C_drew ?_) | exact HR526.out)) hb); have n3_ := Aside0.mk (below_step (Bl) hb); clear HO_8; clear HR526; clear HB; have HO_8 := n0_; have HO531 := n1_; have HR526 := n2_; have HB := n3_; clear n0_ n1_ n2_ n3_; (try clear hb); (try clear hb2); (try clear hk); (try clear hi); (try clear ho0)) | (go_at_call 7; (with_reducible refine (grapevinelaw05_live.calls  true _ A29.out).mono ?_); rintro e w34 ⟨rfl, hb⟩; have n0_ := Aside0.mk (Kd.R_below (Rw HO_8.out) hb); have n1_ := Aside0.mk (Kd.R_below (Rw HO531.out) hb); have n2_ := Aside0.mk (Kd.C_below (by repeat (first | (with_reducible exact HR526.out) | (with_reducible refine Kd.C_alloc ?_ _) | (with_reducible refine Kd.C_drewN ?_ _) | (with_reducible refine Kd.C_drew ?_) | exact HR526.out)) hb); have n3_ := Aside0.mk (below_step (Bl) hb); clear HO_8; clear HO531; clear HR526; clear HB; have HO_8 := n0_; have HO531 := n1_; have HR526 := n2_; have HB := n3_; clear n0_ n1_ n2_ n3_; (try clear hb); (try clear hb2); (try clear hk); (try clear hi))))
         go_ret
         exact ⟨by first | rfl | (simp [errW_none, errW_some] <;> rfl) | (simp only [← hji25]; first | rfl | (simp [errW_none, errW_some] <;> rfl)) | (simp [*, errW_none, errW_some] <;> rfl), Bl⟩
        ·replace c30 := Bool.eq_false_iff.mpr c30
         subst c30
         have H1 : (some false) = some r := by rw [if_neg (show ¬ (false = true) by decide)] at H; exact H
         clear H
         have H := H1
         clear H1
         exact absurd (Option.some.inj H) (by rw [hr_]; decide)
       ·rw [if_neg c27] at H
        exact absurd H (by simp)
      ·rw [if_neg c26] at H
       exact absurd H (by simp)
 ·rw [if_neg c4] at H
  have c4b0 : (t514 == 0) = false := beq_eq_false_iff_ne.mpr c4
  have c4b1 : (t514 != 0) = true := bne_iff_ne.mpr c4
  replace H := Option.bind_eq_some_iff.mp H
  obtain ⟨t517, A350, H⟩ := H
  replace H : (if t517 = true then (if t513 = 0 then (some ((t512.length : Int) == 0)) else (some false)) else (some false)) = some r := H
  have A35 := Aside0.mk A350
  clear A350
  by_cases c36 : t517 = true
  ·subst c36
   have H1 : (if t513 = 0 then (some ((t512.length : Int) == 0)) else (some false)) = some r := by rw [if_pos rfl] at H; exact H
   clear H
   have H := H1
   clear H1
   by_cases c37 : t513 = 0
   ·rw [if_pos c37] at H
    have c37b0 : (t513 == 0) = true := beq_iff_eq.mpr c37
    have c37b1 : (t513 != 0) = false := bne_eq_false_iff_eq.mpr c37
    clear c37
    obtain rfl := Option.some.inj H
    go_enter Try.func6, Try.ntmps6
    go_wp2_with (first | (go_at_call 12; (with_reducible refine (pred_Take.calls k _ _ l0 0 t512 t513 t514 _ ?side1 ?side2 A3.out).mono ?_); (case side1 => repeat (first | exact HR0.out | (with_reducible refine Kd.C_alloc ?_ _) | (with_reducible refine Kd.C_drewN ?_ _) | (with_reducible refine Kd.C_drew ?_))); (case side2 => exact HC0.out); rintro e w38 ⟨v515, rfl, ho0, hb⟩; have n0_ := Aside0.mk (Kd.R_lower ho0 (below_size (Bl))); have n1_ := Aside0.mk (below_step (Bl) hb); clear HB; have HO516 := n0_; have HB := n1_; clear n0_ n1_; (try clear hb); (try clear hb2); (try clear hk); (try clear hi); (try clear ho0)) | (go_at_call 7; (with_reducible refine (grapevinelaw05_live.calls  true _ A35.out).mono ?_); rintro e w39 ⟨rfl, hb⟩; have n0_ := Aside0.mk (Kd.R_below (Rw HO516.out) hb); have n1_ := Aside0.mk (below_step (Bl) hb); clear HO516; clear HB; have HO516 := n0_; have HB := n1_; clear n0_ n1_; (try clear hb); (try clear hb2); (try clear hk); (try clear hi); obtain ⟨Ao40, co40, eo40⟩ := Kd.R_slice HO516.out; subst eo40))
    repeat (go_quiet (first | (go_at_call 12; (with_reducible refine (pred_Take.calls k _ _ l0 0 t512 t513 t514 _ ?side1 ?side2 A3.out).mono ?_); (case side1 => repeat (first | exact HR0.out | (with_reducible refine Kd.C_alloc ?_ _) | (with_reducible refine Kd.C_drewN ?_ _) | (with_reducible refine Kd.C_drew ?_))); (case side2 => exact HC0.out); rintro e w38 ⟨v515, rfl, ho0, hb⟩; have n0_ := Aside0.mk (Kd.R_lower ho0 (below_size (Bl))); have n1_ := Aside0.mk (below_step (Bl) hb); clear HB; have HO516 := n0_; have HB := n1_; clear n0_ n1_; (try clear hb); (try clear hb2); (try clear hk); (try clear hi); (try clear ho0)) | (go_at_call 7; (with_reducible refine (grapevinelaw05_live.calls  true _ A35.out).mono ?_); rintro e w39 ⟨rfl, hb⟩; have n0_ := Aside0.mk (Kd.R_below (Rw HO516.out) hb); have n1_ := Aside0.mk (below_step (Bl) hb); clear HO516; clear HB; have HO516 := n0_; have HB := n1_; clear n0_ n1_; (try clear hb); (try clear hb2); (try clear hk); (try clear hi); obtain ⟨Ao40, co40, eo40⟩ := Kd.R_slice HO516.out; subst eo40)); try go_wp2_with (first | (go_at_call 12; (with_reducible refine (pred_Take.calls k _ _ l0 0 t512 t513 t514 _ ?side1 ?side2 A3.out).mono ?_); (case side1 => repeat (first | exact HR0.out | (with_reducible refine Kd.C_alloc ?_ _) | (with_reducible refine Kd.C_drewN ?_ _) | (with_reducible refine Kd.C_drew ?_))); (case side2 => exact HC0.out); rintro e w38 ⟨v515, rfl, ho0, hb⟩; have n0_ := Aside0.mk (Kd.R_lower ho0 (below_size (Bl))); have n1_ := Aside0.mk (below_step (Bl) hb); clear HB; have HO516 := n0_; have HB := n1_; clear n0_ n1_; (try clear hb); (try clear hb2); (try clear hk); (try clear hi); (try clear ho0)) | (go_at_call 7; (with_reducible refine (grapevinelaw05_live.calls  true _ A35.out).mono ?_); rintro e w39 ⟨rfl, hb⟩; have n0_ := Aside0.mk (Kd.R_below (Rw HO516.out) hb); have n1_ := Aside0.mk (below_step (Bl) hb); clear HO516; clear HB; have HO516 := n0_; have HB := n1_; clear n0_ n1_; (try clear hb); (try clear hb2); (try clear hk); (try clear hi); obtain ⟨Ao40, co40, eo40⟩ := Kd.R_slice HO516.out; subst eo40)))
    go_ret
    exact ⟨by first | rfl | (simp [errW_none, errW_some] <;> rfl) | (simp [*, errW_none, errW_some] <;> rfl), Bl⟩
   ·rw [if_neg c37] at H
    have c37b0 : (t513 == 0) = false := beq_eq_false_iff_ne.mpr c37
    have c37b1 : (t513 != 0) = true := bne_iff_ne.mpr c37
    exact absurd (Option.some.inj H) (by rw [hr_]; decide)
  ·replace c36 := Bool.eq_false_iff.mpr c36
   subst c36
   have H1 : (some false) = some r := by rw [if_neg (show ¬ (false = true) by decide)] at H; exact H
   clear H
   have H := H1
   clear H1
   exact absurd (Option.some.inj H) (by rw [hr_]; decide)

/-- THE ONE PURE STATEMENT of grapevinelaw05_PredOnce: yours. -/
def grapevinelaw05_PredOnce.Pure : Prop := ∀ (l0 : List Int) (a1 : Int), l0.length ≤ maxLen → l0.length * 1 ≤ 140737488351232 → (∀ x ∈ l0, (Lit.int .u8 x).wf = true) → (Lit.int .u16 a1).wf = true → ∃ k, grapevinelaw05_PredOnce.f k l0 a1 = some true
theorem grapevinelaw05_PredOnce.walk (P : grapevinelaw05_PredOnce.Pure) (a0 : Option Addr) (len0 cap0 : Nat) (z0 : List Int) (a1 : Int) (w : World) (w0 : (a0 = none ∧ len0 = 0 ∧ cap0 = 0 ∧ z0 = []) ∨ ∃ x, a0 = some x ∧ len0 ≤ cap0 ∧ cap0 ≤ maxLen ∧ z0.length = cap0 ∧ (∀ i, i < z0.length → w.cell? (x.add i) = some (.int .u8 (z0.getD i 0))) ∧ ∀ n ∈ z0, (Lit.int .u8 n).wf = true) (y0 : len0 * 1 ≤ 140737488351232) (w1 : (Lit.int .u16 a1).wf = true) :
  Calls Try.prog 6 #[.slice a0 len0 cap0, .int .u16 a1] w fun e w' => e = .returned (.bool true) ∧ Below w.heap.size w w' := by
 obtain ⟨l0, rfl, hr0, hm0, hw0, hc0⟩ := ReadsInt.ofRowC w0
 obtain ⟨k, h⟩ := P l0 a1 hm0 y0 hw0 w1
 refine (grapevinelaw05_PredOnce.calls k _ _ l0 a1 true w (Kd.C_of_reads (d := (0 : Int)) (h1 := fun _ => rfl) hr0) hc0 h).mono ?_
 rintro e w' ⟨rfl, hd⟩
 exact ⟨rfl, hd⟩

end Go.Proofs.Ytmgljgmieomngaa.Q
