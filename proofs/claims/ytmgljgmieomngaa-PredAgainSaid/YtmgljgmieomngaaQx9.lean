/- Functions of the program as Lean functions, each with its walk: that the Go code comes to just these answers, whatever the memory. Written by a program of this claim (wip/tools). -/
import Derived.Test.YtmgljgmieomngaaMc
import Derived.Test.YtmgljgmieomngaaQx0
import Derived.Test.YtmgljgmieomngaaQx8
namespace Go.Proofs.Ytmgljgmieomngaa.Q
open Go.RowKit Go.Proofs.YtmgljgmieomngaaW.PrintWords Go.Proofs.YtmgljgmieomngaaW.PrintLast Go.Proofs.YtmgljgmieomngaaW.PrintMore
attribute [local go_sem] run_ftoi isSome_setCell bytesLess_total run_store_complex run_store_float max2_int min2_int max_two min_two max_three min_three max_four min_four   -- for this text's walks alone
set_option linter.unusedVariables false
set_option linter.unusedSimpArgs false

/-! ### pred_Check: function 11 -/
mutual
def pred_Check.l0 : Nat → Int → List (S54) → Int → Int → Option (Int)
 | 0, _, _, _, _ => none
 | k + 1, x3, x11, x12, x13 => if x13 < x12 then (if 0 ≤ x13 then (if x13 < (x11.length : Int) then (if ((rd_T54 x11 x13).f0) = 1 then (pred_Check.j1 k x3 0 x11 x12 x13 ((rd_T54 x11 x13).f0) (((rd_T54 x11 x13).f0) == 1) ((rd_T54 x11 x13).f0) ((rd_T54 x11 x13).f1) ((rd_T54 x11 x13).f2) ((rd_T54 x11 x13).f3.f0) ((rd_T54 x11 x13).f3.f1) ((rd_T54 x11 x13).f3.f2) ((rd_T54 x11 x13).f3.f3) ((rd_T54 x11 x13).f3.f4) ((rd_T54 x11 x13).f4)) else (pred_Check.j1 k x3 0 x11 x12 x13 ((rd_T54 x11 x13).f0) (((rd_T54 x11 x13).f0) == 2) ((rd_T54 x11 x13).f0) ((rd_T54 x11 x13).f1) ((rd_T54 x11 x13).f2) ((rd_T54 x11 x13).f3.f0) ((rd_T54 x11 x13).f3.f1) ((rd_T54 x11 x13).f3.f2) ((rd_T54 x11 x13).f3.f3) ((rd_T54 x11 x13).f3.f4) ((rd_T54 x11 x13).f4))) else (none)) else (none)) else (if x3 = 1 then (some 0) else (some 4))
def pred_Check.j2 : Nat → Int → Int → List (S54) → Int → Int → Option (Int)
 | 0, _, _, _, _, _ => none
 | k + 1, x3, x6, x11, x12, x13 => if x3 < x6 then (some 4) else (if (wrap64 (x3 + (wrap64 (1 - x6)))) > 16 then (some 6) else (pred_Check.l0 k (wrap64 (x3 + (wrap64 (1 - x6)))) x11 x12 (wrap64 (x13 + 1))))
def pred_Check.j1 : Nat → Int → Int → List (S54) → Int → Int → Int → Bool → Int → ByteArray → Int → Int → Int → ByteArray → Bool → Cx → Int → Option (Int)
 | 0, _, _, _, _, _, _, _, _, _, _, _, _, _, _, _, _ => none
 | k + 1, x3, x6, x11, x12, x13, x18, x19, x116000, x116001, x116002, x116003, x116004, x116005, x116006, x116007, x116008 => if x19 = true then (pred_Check.j2 k x3 x6 x11 x12 x13) else (if x18 = 3 then ((pred_atom.f k x116000 x116001 x116002 x116003 x116004 x116005 x116006 x116007 x116008).bind fun t116 => (if t116 = 0 then (pred_Check.j2 k x3 x6 x11 x12 x13) else (some t116))) else (if x18 = 4 then (pred_Check.j2 k x3 1 x11 x12 x13) else (if x18 = 5 then (pred_Check.j2 k x3 2 x11 x12 x13) else (if x18 = 6 then (pred_Check.j2 k x3 2 x11 x12 x13) else (some 2)))))
end
def pred_Check.f (k : Nat) (l0 : List (S54)) : Option (Int) := if (l0.length : Int) > 48 then (some 6) else (pred_Check.l0 k 0 l0 (l0.length : Int) 0)
theorem pred_Check.mono_l : ∀ k, (∀ y0 y1 y2 y3, LeO (pred_Check.l0 k y0 y1 y2 y3) (pred_Check.l0 (k + 1) y0 y1 y2 y3)) ∧ (∀ y0 y1 y2 y3 y4, LeO (pred_Check.j2 k y0 y1 y2 y3 y4) (pred_Check.j2 (k + 1) y0 y1 y2 y3 y4)) ∧ (∀ y0 y1 y2 y3 y4 y5 y6 y7 y8 y9 y10 y11 y12 y13 y14 y15, LeO (pred_Check.j1 k y0 y1 y2 y3 y4 y5 y6 y7 y8 y9 y10 y11 y12 y13 y14 y15) (pred_Check.j1 (k + 1) y0 y1 y2 y3 y4 y5 y6 y7 y8 y9 y10 y11 y12 y13 y14 y15))
 | 0 => ⟨fun _ _ _ _ r h => by simp [pred_Check.l0] at h, fun _ _ _ _ _ r h => by simp [pred_Check.j2] at h, fun _ _ _ _ _ _ _ _ _ _ _ _ _ _ _ _ r h => by simp [pred_Check.j1] at h⟩
 | k + 1 => by
  obtain ⟨ih0, ih1, ih2⟩ := pred_Check.mono_l k
  refine ⟨?_, ?_, ?_⟩
  ·intro y0 y1 y2 y3
   unfold pred_Check.l0
   repeat' first
   | (with_reducible exact ih0 _ _ _ _)
   | (with_reducible exact ih1 _ _ _ _ _)
   | (with_reducible exact ih2 _ _ _ _ _ _ _ _ _ _ _ _ _ _ _ _)
   | (with_reducible exact pred_atom.mono _ _ _ _ _ _ _ _ _ _)
   | (with_reducible exact LeO.refl _)
   | (with_reducible exact LeO.none _)
   | (with_reducible refine LeO.ite ?_ ?_)
   | (with_reducible refine LeO.bind ?_ (fun _ => ?_))
   | exact ih0 _ _ _ _
   | exact ih1 _ _ _ _ _
   | exact ih2 _ _ _ _ _ _ _ _ _ _ _ _ _ _ _ _
   | exact pred_atom.mono _ _ _ _ _ _ _ _ _ _
   | exact LeO.none _
   | refine LeO.ite ?_ ?_
   | refine LeO.bind ?_ (fun _ => ?_)
  ·intro y0 y1 y2 y3 y4
   unfold pred_Check.j2
   repeat' first
   | (with_reducible exact ih0 _ _ _ _)
   | (with_reducible exact ih1 _ _ _ _ _)
   | (with_reducible exact ih2 _ _ _ _ _ _ _ _ _ _ _ _ _ _ _ _)
   | (with_reducible exact pred_atom.mono _ _ _ _ _ _ _ _ _ _)
   | (with_reducible exact LeO.refl _)
   | (with_reducible exact LeO.none _)
   | (with_reducible refine LeO.ite ?_ ?_)
   | (with_reducible refine LeO.bind ?_ (fun _ => ?_))
   | exact ih0 _ _ _ _
   | exact ih1 _ _ _ _ _
   | exact ih2 _ _ _ _ _ _ _ _ _ _ _ _ _ _ _ _
   | exact pred_atom.mono _ _ _ _ _ _ _ _ _ _
   | exact LeO.none _
   | refine LeO.ite ?_ ?_
   | refine LeO.bind ?_ (fun _ => ?_)
  ·intro y0 y1 y2 y3 y4 y5 y6 y7 y8 y9 y10 y11 y12 y13 y14 y15
   unfold pred_Check.j1
   repeat' first
   | (with_reducible exact ih0 _ _ _ _)
   | (with_reducible exact ih1 _ _ _ _ _)
   | (with_reducible exact ih2 _ _ _ _ _ _ _ _ _ _ _ _ _ _ _ _)
   | (with_reducible exact pred_atom.mono _ _ _ _ _ _ _ _ _ _)
   | (with_reducible exact LeO.refl _)
   | (with_reducible exact LeO.none _)
   | (with_reducible refine LeO.ite ?_ ?_)
   | (with_reducible refine LeO.bind ?_ (fun _ => ?_))
   | exact ih0 _ _ _ _
   | exact ih1 _ _ _ _ _
   | exact ih2 _ _ _ _ _ _ _ _ _ _ _ _ _ _ _ _
   | exact pred_atom.mono _ _ _ _ _ _ _ _ _ _
   | exact LeO.none _
   | refine LeO.ite ?_ ?_
   | refine LeO.bind ?_ (fun _ => ?_)
theorem pred_Check.mono : ∀ a0 k, LeO (pred_Check.f k a0) (pred_Check.f (k + 1) a0) := by
 intro a0 k
 obtain ⟨ih0, ih1, ih2⟩ := pred_Check.mono_l k
 unfold pred_Check.f
 repeat' first
   | (with_reducible exact ih0 _ _ _ _)
   | (with_reducible exact ih1 _ _ _ _ _)
   | (with_reducible exact ih2 _ _ _ _ _ _ _ _ _ _ _ _ _ _ _ _)
   | (with_reducible exact pred_atom.mono _ _ _ _ _ _ _ _ _ _)
   | (with_reducible exact LeO.refl _)
   | (with_reducible exact LeO.none _)
   | (with_reducible refine LeO.ite ?_ ?_)
   | (with_reducible refine LeO.bind ?_ (fun _ => ?_))
   | exact ih0 _ _ _ _
   | exact ih1 _ _ _ _ _
   | exact ih2 _ _ _ _ _ _ _ _ _ _ _ _ _ _ _ _
   | exact pred_atom.mono _ _ _ _ _ _ _ _ _ _
   | exact LeO.none _
   | refine LeO.ite ?_ ?_
   | refine LeO.bind ?_ (fun _ => ?_)
set_option maxHeartbeats 8000000 in
set_option maxRecDepth 100000 in
theorem pred_Check.calls (k : Nat) (A0 : Option Addr) (c0 : Nat) (l0 : List (S54)) (r : Int) (w : World) (hr0 : Kd.C k54 w A0 l0.length l0) (hc0 : l0.length ≤ c0) (h : pred_Check.f k l0 = some r) :
  Calls Try.prog 11 #[.slice A0 l0.length c0] w fun e w' => e = .returned (.int .i64 r) ∧ Below w.heap.size w w' := by
 have hu54 := Try.underlying54
 have HR0 := Aside0.mk hr0
 have HC0 := Aside0.mk hc0
 clear hr0 hc0
 have HB := Aside0.mk (Below.refl w.heap.size w)
 have H : (if (l0.length : Int) > 48 then (some 6) else (pred_Check.l0 k 0 l0 (l0.length : Int) 0)) = some r := h
 clear h
 by_cases c2 : (l0.length : Int) > 48
 ·rw [if_pos c2] at H
  have c2b0 : decide (48 < (l0.length : Int)) = true := decide_eq_true c2
  have c2b1 : decide (48 < l0.length) = true := decide_eq_true (by omega)
  clear c2
  obtain rfl := Option.some.inj H
  go_enter Try.func11, Try.ntmps11
  go_wp2
  go_ret
  exact ⟨by first | rfl | (simp [errW_none, errW_some] <;> rfl) | (simp [*, errW_none, errW_some] <;> rfl), Bl⟩
 ·rw [if_neg c2] at H
  have c2b0 : decide (48 < (l0.length : Int)) = false := decide_eq_false c2
  have c2b1 : decide (48 < l0.length) = false := decide_eq_false (by omega)
  clear c2
  have H' := Aside0.mk H
  clear H
  go_enter Try.func11, Try.ntmps11
  go_wp2
  go_loopg [3, 13] k (fun kq v3 v13 w' => ∃ (x3_1 : Int) (x13_1 : Int), v3 = .int .i64 x3_1 ∧ v13 = .int .i64 x13_1 ∧ Aside0 (pred_Check.l0 kq x3_1 l0 (l0.length : Int) x13_1 = some r) ∧ Aside0 (kq ≤ k) ∧ Aside0 (Below w.heap.size w w'))
  case atStart => exact ⟨(0), (0), (by first | rfl | (simp; done) | (simp [*]; done)), (by first | rfl | (simp; done) | (simp [*]; done)), H', ⟨Nat.le_refl _⟩, ⟨Bl⟩⟩
  case round =>
   clear H'
   try clear c2b0
   try clear c2b1
   obtain ⟨x3_1, x13_1, rfl, rfl, HA, HK1, HB⟩ := hrel
   cases gk with
   | zero => exact absurd HA.out (by simp [pred_Check.l0])
   | succ k1 =>
    have H := HA.out
    clear HA
    simp only [pred_Check.l0] at H
    by_cases c3 : x13_1 < (l0.length : Int)
    ·rw [if_pos c3] at H
     have c3b0 : decide (x13_1 < (l0.length : Int)) = true := decide_eq_true c3
     clear c3
     by_cases c4 : 0 ≤ x13_1
     ·rw [if_pos c4] at H
      have c4b0 : decide (0 ≤ x13_1) = true := decide_eq_true c4
      clear c4
      by_cases c5 : x13_1 < (l0.length : Int)
      ·rw [if_pos c5] at H
       have c5b0 : decide (x13_1 < (l0.length : Int)) = true := decide_eq_true c5
       clear c5
       have HC6 := Aside0.mk H
       clear H
       have p114 : 0 ≤ (x13_1 : Int) := of_decide_eq_true (As)
       have q114 : x13_1 < (l0.length : Int) := of_decide_eq_true (As)
       obtain ⟨ad114, e114, hx114_0, hx114_1, hx114_2, hx114_3, hx114_4, hx114_5, hx114_6, hx114_7, hx114_8⟩ := at_T54 HR0.out x13_1 p114 q114
       cases e114
       replace hx114_0 := (HB.out.cell (World.block_lt_of_cell? w _ hx114_0)).trans hx114_0
       replace hx114_1 := (HB.out.cell (World.block_lt_of_cell? w _ hx114_1)).trans hx114_1
       replace hx114_2 := (HB.out.cell (World.block_lt_of_cell? w _ hx114_2)).trans hx114_2
       replace hx114_3 := (HB.out.cell (World.block_lt_of_cell? w _ hx114_3)).trans hx114_3
       replace hx114_4 := (HB.out.cell (World.block_lt_of_cell? w _ hx114_4)).trans hx114_4
       replace hx114_5 := (HB.out.cell (World.block_lt_of_cell? w _ hx114_5)).trans hx114_5
       replace hx114_6 := (HB.out.cell (World.block_lt_of_cell? w _ hx114_6)).trans hx114_6
       replace hx114_7 := (HB.out.cell (World.block_lt_of_cell? w _ hx114_7)).trans hx114_7
       replace hx114_8 := (HB.out.cell (World.block_lt_of_cell? w _ hx114_8)).trans hx114_8
       replace p114 := eq_true p114
       replace q114 := eq_true q114
       go_upto_block 2 with (first | ((with_reducible refine gate_dst (N := 5) rfl ?_); refine box_event ?hg (N := 5) ?hd (cs := #[.int .i64 0, .string (⟨#[]⟩ : ByteArray), .int .i64 0, .int .i64 0, .int .i64 0, .string (⟨#[]⟩ : ByteArray), .bool false, .complex .f64 0 0, .int .i64 0]) (t := 54) ?hr ?_; (case hd => rfl); (case hg => rfl); (case hr => first | (go_simp; done) | (go_simp; rfl)); intro gb115 hg w7 hbox hb; have n0_ := Aside0.mk (below_step (Bl) hb); have n1_ := Aside0.mk (hbox); have n2_ := Aside0.mk ((by rw [hg]; exact (below_size (Bl)) : w.heap.size ≤ gb115)); have n3_ := Aside0.mk ((by rw [hg]; exact (below_size (Bl)) : w.heap.size ≤ gb115)); clear HB; have HB := n0_; have BK115 := n1_; have GW115 := n2_; have GE115 := n3_; clear n0_ n1_ n2_ n3_; clear hb hbox hg; obtain ⟨hcz8_0, hcz8_1, hcz8_2, hcz8_3, hcz8_4, hcz8_5, hcz8_6, hcz8_7, hcz8_8⟩ := cz9 BK115.out; obtain ⟨hfz8_0, hfz8_1, hfz8_2, hfz8_3, hfz8_4, hfz8_5, hfz8_6, hfz8_7, hfz8_8⟩ := fz9 BK115.out))
       (try simp only [Act.put, List.setIfInBounds_toArray, List.set_cons_zero, List.set_cons_succ])
       go_cut [6] (fun v6 wc => ∃ (kq : Nat) (x6_5 : Int), v6 = .int .i64 x6_5 ∧ Aside0 (pred_Check.j2 kq x3_1 x6_5 l0 (l0.length : Int) x13_1 = some r) ∧ Aside0 (kq ≤ k1) ∧ Aside0 (wc.heap[gb115]? = some (.cells #[.int .i64 ((rd_T54 l0 x13_1).f0), .string ((rd_T54 l0 x13_1).f1), .int .i64 ((rd_T54 l0 x13_1).f2), .int .i64 ((rd_T54 l0 x13_1).f3.f0), .int .i64 ((rd_T54 l0 x13_1).f3.f1), .string ((rd_T54 l0 x13_1).f3.f2), .bool ((rd_T54 l0 x13_1).f3.f3), .complex .f64 ((rd_T54 l0 x13_1).f3.f4).re ((rd_T54 l0 x13_1).f3.f4).im, .int .i64 ((rd_T54 l0 x13_1).f4)] 54 (0, 0))) ∧ Aside0 (Below w.heap.size w wc))
       case first =>
        have H := HC6.out
        clear HC6
        have HC9 := Aside0.mk H
        clear H
        go_upto_if 19 with (fail)
        go_cut [19] (fun v19 wc => ∃ (kq : Nat) (x19_8 : Bool), v19 = .bool x19_8 ∧ Aside0 (pred_Check.j1 kq x3_1 0 l0 (l0.length : Int) x13_1 ((rd_T54 l0 x13_1).f0) x19_8 ((rd_T54 l0 x13_1).f0) ((rd_T54 l0 x13_1).f1) ((rd_T54 l0 x13_1).f2) ((rd_T54 l0 x13_1).f3.f0) ((rd_T54 l0 x13_1).f3.f1) ((rd_T54 l0 x13_1).f3.f2) ((rd_T54 l0 x13_1).f3.f3) ((rd_T54 l0 x13_1).f3.f4) ((rd_T54 l0 x13_1).f4) = some r) ∧ Aside0 (kq ≤ k1) ∧ Aside0 (wc.heap[gb115]? = some (.cells #[.int .i64 ((rd_T54 l0 x13_1).f0), .string ((rd_T54 l0 x13_1).f1), .int .i64 ((rd_T54 l0 x13_1).f2), .int .i64 ((rd_T54 l0 x13_1).f3.f0), .int .i64 ((rd_T54 l0 x13_1).f3.f1), .string ((rd_T54 l0 x13_1).f3.f2), .bool ((rd_T54 l0 x13_1).f3.f3), .complex .f64 ((rd_T54 l0 x13_1).f3.f4).re ((rd_T54 l0 x13_1).f3.f4).im, .int .i64 ((rd_T54 l0 x13_1).f4)] 54 (0, 0))) ∧ Aside0 (Below w.heap.size w wc))
        case first =>
         have H := HC9.out
         clear HC9
         by_cases c10 : ((rd_T54 l0 x13_1).f0) = 1
         ·rw [if_pos c10] at H
          have c10b0 : (((rd_T54 l0 x13_1).f0) == 1) = true := beq_iff_eq.mpr c10
          have c10b1 : (((rd_T54 l0 x13_1).f0) != 1) = false := bne_eq_false_iff_eq.mpr c10
          clear c10
          (first | rw [c10b0] | (simp only [i64_w, i32_w]; rw [c10b0]) | skip)
          have H' := Aside0.mk H
          clear H
          go_wp2
          go_meet
          case rel => exact ⟨_, ((((rd_T54 l0 x13_1).f0) == 1)), (by first | rfl | (simp; done) | (simp [*]; done)), H', ⟨by have := HK1.out; first | omega | exact Nat.le_refl _⟩, ⟨by (with_reducible repeat (first | refine blk_drewN ?_ _ | refine blk_drew ?_ | refine blk_alloc ?_ _)); refine blk_put (cs := #[.int .i64 ((rd_T54 l0 x13_1).f0), .string ((rd_T54 l0 x13_1).f1), .int .i64 ((rd_T54 l0 x13_1).f2), .int .i64 ((rd_T54 l0 x13_1).f3.f0), .int .i64 ((rd_T54 l0 x13_1).f3.f1), .string ((rd_T54 l0 x13_1).f3.f2), .bool ((rd_T54 l0 x13_1).f3.f3), .complex .f64 ((rd_T54 l0 x13_1).f3.f4).re ((rd_T54 l0 x13_1).f3.f4).im, .int .i64 0]) ?_ 8 _ rfl; (with_reducible repeat (first | refine blk_drewN ?_ _ | refine blk_drew ?_ | refine blk_alloc ?_ _)); refine blk_put (cs := #[.int .i64 ((rd_T54 l0 x13_1).f0), .string ((rd_T54 l0 x13_1).f1), .int .i64 ((rd_T54 l0 x13_1).f2), .int .i64 ((rd_T54 l0 x13_1).f3.f0), .int .i64 ((rd_T54 l0 x13_1).f3.f1), .string ((rd_T54 l0 x13_1).f3.f2), .bool ((rd_T54 l0 x13_1).f3.f3), .complex .f64 0 0, .int .i64 0]) ?_ 7 _ rfl; (with_reducible repeat (first | refine blk_drewN ?_ _ | refine blk_drew ?_ | refine blk_alloc ?_ _)); refine blk_put (cs := #[.int .i64 ((rd_T54 l0 x13_1).f0), .string ((rd_T54 l0 x13_1).f1), .int .i64 ((rd_T54 l0 x13_1).f2), .int .i64 ((rd_T54 l0 x13_1).f3.f0), .int .i64 ((rd_T54 l0 x13_1).f3.f1), .string ((rd_T54 l0 x13_1).f3.f2), .bool false, .complex .f64 0 0, .int .i64 0]) ?_ 6 _ rfl; (with_reducible repeat (first | refine blk_drewN ?_ _ | refine blk_drew ?_ | refine blk_alloc ?_ _)); refine blk_put (cs := #[.int .i64 ((rd_T54 l0 x13_1).f0), .string ((rd_T54 l0 x13_1).f1), .int .i64 ((rd_T54 l0 x13_1).f2), .int .i64 ((rd_T54 l0 x13_1).f3.f0), .int .i64 ((rd_T54 l0 x13_1).f3.f1), .string (⟨#[]⟩ : ByteArray), .bool false, .complex .f64 0 0, .int .i64 0]) ?_ 5 _ rfl; (with_reducible repeat (first | refine blk_drewN ?_ _ | refine blk_drew ?_ | refine blk_alloc ?_ _)); refine blk_put (cs := #[.int .i64 ((rd_T54 l0 x13_1).f0), .string ((rd_T54 l0 x13_1).f1), .int .i64 ((rd_T54 l0 x13_1).f2), .int .i64 ((rd_T54 l0 x13_1).f3.f0), .int .i64 0, .string (⟨#[]⟩ : ByteArray), .bool false, .complex .f64 0 0, .int .i64 0]) ?_ 4 _ rfl; (with_reducible repeat (first | refine blk_drewN ?_ _ | refine blk_drew ?_ | refine blk_alloc ?_ _)); refine blk_put (cs := #[.int .i64 ((rd_T54 l0 x13_1).f0), .string ((rd_T54 l0 x13_1).f1), .int .i64 ((rd_T54 l0 x13_1).f2), .int .i64 0, .int .i64 0, .string (⟨#[]⟩ : ByteArray), .bool false, .complex .f64 0 0, .int .i64 0]) ?_ 3 _ rfl; (with_reducible repeat (first | refine blk_drewN ?_ _ | refine blk_drew ?_ | refine blk_alloc ?_ _)); refine blk_put (cs := #[.int .i64 ((rd_T54 l0 x13_1).f0), .string ((rd_T54 l0 x13_1).f1), .int .i64 0, .int .i64 0, .int .i64 0, .string (⟨#[]⟩ : ByteArray), .bool false, .complex .f64 0 0, .int .i64 0]) ?_ 2 _ rfl; (with_reducible repeat (first | refine blk_drewN ?_ _ | refine blk_drew ?_ | refine blk_alloc ?_ _)); refine blk_put (cs := #[.int .i64 ((rd_T54 l0 x13_1).f0), .string (⟨#[]⟩ : ByteArray), .int .i64 0, .int .i64 0, .int .i64 0, .string (⟨#[]⟩ : ByteArray), .bool false, .complex .f64 0 0, .int .i64 0]) ?_ 1 _ rfl; (with_reducible repeat (first | refine blk_drewN ?_ _ | refine blk_drew ?_ | refine blk_alloc ?_ _)); refine blk_put (cs := #[.int .i64 0, .string (⟨#[]⟩ : ByteArray), .int .i64 0, .int .i64 0, .int .i64 0, .string (⟨#[]⟩ : ByteArray), .bool false, .complex .f64 0 0, .int .i64 0]) ?_ 0 _ rfl; (with_reducible repeat (first | refine blk_drewN ?_ _ | refine blk_drew ?_ | refine blk_alloc ?_ _)); exact BK115.out⟩, ⟨Bl⟩⟩
         ·rw [if_neg c10] at H
          have c10b0 : (((rd_T54 l0 x13_1).f0) == 1) = false := beq_eq_false_iff_ne.mpr c10
          have c10b1 : (((rd_T54 l0 x13_1).f0) != 1) = true := bne_iff_ne.mpr c10
          (first | rw [c10b0] | (simp only [i64_w, i32_w]; rw [c10b0]) | skip)
          have H' := Aside0.mk H
          clear H
          go_wp2
          go_meet
          case rel => exact ⟨_, ((((rd_T54 l0 x13_1).f0) == 2)), (by first | rfl | (simp; done) | (simp [*]; done)), H', ⟨by have := HK1.out; first | omega | exact Nat.le_refl _⟩, ⟨by (with_reducible repeat (first | refine blk_drewN ?_ _ | refine blk_drew ?_ | refine blk_alloc ?_ _)); refine blk_put (cs := #[.int .i64 ((rd_T54 l0 x13_1).f0), .string ((rd_T54 l0 x13_1).f1), .int .i64 ((rd_T54 l0 x13_1).f2), .int .i64 ((rd_T54 l0 x13_1).f3.f0), .int .i64 ((rd_T54 l0 x13_1).f3.f1), .string ((rd_T54 l0 x13_1).f3.f2), .bool ((rd_T54 l0 x13_1).f3.f3), .complex .f64 ((rd_T54 l0 x13_1).f3.f4).re ((rd_T54 l0 x13_1).f3.f4).im, .int .i64 0]) ?_ 8 _ rfl; (with_reducible repeat (first | refine blk_drewN ?_ _ | refine blk_drew ?_ | refine blk_alloc ?_ _)); refine blk_put (cs := #[.int .i64 ((rd_T54 l0 x13_1).f0), .string ((rd_T54 l0 x13_1).f1), .int .i64 ((rd_T54 l0 x13_1).f2), .int .i64 ((rd_T54 l0 x13_1).f3.f0), .int .i64 ((rd_T54 l0 x13_1).f3.f1), .string ((rd_T54 l0 x13_1).f3.f2), .bool ((rd_T54 l0 x13_1).f3.f3), .complex .f64 0 0, .int .i64 0]) ?_ 7 _ rfl; (with_reducible repeat (first | refine blk_drewN ?_ _ | refine blk_drew ?_ | refine blk_alloc ?_ _)); refine blk_put (cs := #[.int .i64 ((rd_T54 l0 x13_1).f0), .string ((rd_T54 l0 x13_1).f1), .int .i64 ((rd_T54 l0 x13_1).f2), .int .i64 ((rd_T54 l0 x13_1).f3.f0), .int .i64 ((rd_T54 l0 x13_1).f3.f1), .string ((rd_T54 l0 x13_1).f3.f2), .bool false, .complex .f64 0 0, .int .i64 0]) ?_ 6 _ rfl; (with_reducible repeat (first | refine blk_drewN ?_ _ | refine blk_drew ?_ | refine blk_alloc ?_ _)); refine blk_put (cs := #[.int .i64 ((rd_T54 l0 x13_1).f0), .string ((rd_T54 l0 x13_1).f1), .int .i64 ((rd_T54 l0 x13_1).f2), .int .i64 ((rd_T54 l0 x13_1).f3.f0), .int .i64 ((rd_T54 l0 x13_1).f3.f1), .string (⟨#[]⟩ : ByteArray), .bool false, .complex .f64 0 0, .int .i64 0]) ?_ 5 _ rfl; (with_reducible repeat (first | refine blk_drewN ?_ _ | refine blk_drew ?_ | refine blk_alloc ?_ _)); refine blk_put (cs := #[.int .i64 ((rd_T54 l0 x13_1).f0), .string ((rd_T54 l0 x13_1).f1), .int .i64 ((rd_T54 l0 x13_1).f2), .int .i64 ((rd_T54 l0 x13_1).f3.f0), .int .i64 0, .string (⟨#[]⟩ : ByteArray), .bool false, .complex .f64 0 0, .int .i64 0]) ?_ 4 _ rfl; (with_reducible repeat (first | refine blk_drewN ?_ _ | refine blk_drew ?_ | refine blk_alloc ?_ _)); refine blk_put (cs := #[.int .i64 ((rd_T54 l0 x13_1).f0), .string ((rd_T54 l0 x13_1).f1), .int .i64 ((rd_T54 l0 x13_1).f2), .int .i64 0, .int .i64 0, .string (⟨#[]⟩ : ByteArray), .bool false, .complex .f64 0 0, .int .i64 0]) ?_ 3 _ rfl; (with_reducible repeat (first | refine blk_drewN ?_ _ | refine blk_drew ?_ | refine blk_alloc ?_ _)); refine blk_put (cs := #[.int .i64 ((rd_T54 l0 x13_1).f0), .string ((rd_T54 l0 x13_1).f1), .int .i64 0, .int .i64 0, .int .i64 0, .string (⟨#[]⟩ : ByteArray), .bool false, .complex .f64 0 0, .int .i64 0]) ?_ 2 _ rfl; (with_reducible repeat (first | refine blk_drewN ?_ _ | refine blk_drew ?_ | refine blk_alloc ?_ _)); refine blk_put (cs := #[.int .i64 ((rd_T54 l0 x13_1).f0), .string (⟨#[]⟩ : ByteArray), .int .i64 0, .int .i64 0, .int .i64 0, .string (⟨#[]⟩ : ByteArray), .bool false, .complex .f64 0 0, .int .i64 0]) ?_ 1 _ rfl; (with_reducible repeat (first | refine blk_drewN ?_ _ | refine blk_drew ?_ | refine blk_alloc ?_ _)); refine blk_put (cs := #[.int .i64 0, .string (⟨#[]⟩ : ByteArray), .int .i64 0, .int .i64 0, .int .i64 0, .string (⟨#[]⟩ : ByteArray), .bool false, .complex .f64 0 0, .int .i64 0]) ?_ 0 _ rfl; (with_reducible repeat (first | refine blk_drewN ?_ _ | refine blk_drew ?_ | refine blk_alloc ?_ _)); exact BK115.out⟩, ⟨Bl⟩⟩
        case rest =>
         clear HC9
         try clear c3b0
         try clear c4b0
         try clear c5b0
         try clear hcz8_0
         try clear hcz8_1
         try clear hcz8_2
         try clear hcz8_3
         try clear hcz8_4
         try clear hcz8_5
         try clear hcz8_6
         try clear hcz8_7
         try clear hcz8_8
         try clear hfz8_0
         try clear hfz8_1
         try clear hfz8_2
         try clear hfz8_3
         try clear hfz8_4
         try clear hfz8_5
         try clear hfz8_6
         try clear hfz8_7
         try clear hfz8_8
         try clear hx114_0
         try clear hx114_1
         try clear hx114_2
         try clear hx114_3
         try clear hx114_4
         try clear hx114_5
         try clear hx114_6
         try clear hx114_7
         try clear hx114_8
         try clear p114
         try clear q114
         obtain ⟨kq, x19_8, rfl, HA, HJ8, BK115, HB⟩ := hcut
         cases kq with
         | zero => exact absurd HA.out (by simp [pred_Check.j1])
         | succ kj8 =>
          have H := HA.out
          clear HA
          simp only [pred_Check.j1] at H
          by_cases c11 : x19_8 = true
          ·subst c11
           have H1 : (pred_Check.j2 kj8 x3_1 0 l0 (l0.length : Int) x13_1) = some r := by rw [if_pos rfl] at H; exact H
           clear H
           have H := H1
           clear H1
           have H' := Aside0.mk H
           clear H
           go_wp2
           go_meet
           case rel => exact ⟨_, (0), (by first | rfl | (simp; done) | (simp [*]; done)), H', ⟨by have := HK1.out; have := HJ8.out; first | omega | exact Nat.le_refl _⟩, ⟨Bk BK115.out⟩, ⟨Bl⟩⟩
          ·replace c11 := Bool.eq_false_iff.mpr c11
           subst c11
           have H1 : (if ((rd_T54 l0 x13_1).f0) = 3 then ((pred_atom.f kj8 ((rd_T54 l0 x13_1).f0) ((rd_T54 l0 x13_1).f1) ((rd_T54 l0 x13_1).f2) ((rd_T54 l0 x13_1).f3.f0) ((rd_T54 l0 x13_1).f3.f1) ((rd_T54 l0 x13_1).f3.f2) ((rd_T54 l0 x13_1).f3.f3) ((rd_T54 l0 x13_1).f3.f4) ((rd_T54 l0 x13_1).f4)).bind fun t116 => (if t116 = 0 then (pred_Check.j2 kj8 x3_1 0 l0 (l0.length : Int) x13_1) else (some t116))) else (if ((rd_T54 l0 x13_1).f0) = 4 then (pred_Check.j2 kj8 x3_1 1 l0 (l0.length : Int) x13_1) else (if ((rd_T54 l0 x13_1).f0) = 5 then (pred_Check.j2 kj8 x3_1 2 l0 (l0.length : Int) x13_1) else (if ((rd_T54 l0 x13_1).f0) = 6 then (pred_Check.j2 kj8 x3_1 2 l0 (l0.length : Int) x13_1) else (some 2))))) = some r := by rw [if_neg (show ¬ (false = true) by decide)] at H; exact H
           clear H
           have H := H1
           clear H1
           by_cases c12 : ((rd_T54 l0 x13_1).f0) = 3
           ·rw [if_pos c12] at H
            have c12b0 : (((rd_T54 l0 x13_1).f0) == 3) = true := beq_iff_eq.mpr c12
            have c12b1 : (((rd_T54 l0 x13_1).f0) != 3) = false := bne_eq_false_iff_eq.mpr c12
            clear c12
            replace H := Option.bind_eq_some_iff.mp H
            obtain ⟨t116, A130, H⟩ := H
            replace H : (if t116 = 0 then (pred_Check.j2 kj8 x3_1 0 l0 (l0.length : Int) x13_1) else (some t116)) = some r := H
            have A13 := Aside0.mk A130
            clear A130
            by_cases c14 : t116 = 0
            ·rw [if_pos c14] at H
             have c14b0 : (t116 == 0) = true := beq_iff_eq.mpr c14
             have c14b1 : (t116 != 0) = false := bne_eq_false_iff_eq.mpr c14
             clear c14
             have H' := Aside0.mk H
             clear H
             obtain ⟨_, _, _, _, _, _, _, _, _⟩ := cz9 BK115.out
             obtain ⟨_, _, _, _, _, _, _, _, _⟩ := fz9 BK115.out
             go_wp2_with (first | ((with_reducible refine gate_callee (f := 23) rfl ?_); refine goesL_ (some 25) rfl rfl Try.func23 (by kernel_rfl) rfl #[.agg #[.int .i64 ((rd_T54 l0 x13_1).f0), .string ((rd_T54 l0 x13_1).f1), .int .i64 ((rd_T54 l0 x13_1).f2), .int .i64 ((rd_T54 l0 x13_1).f3.f0), .int .i64 ((rd_T54 l0 x13_1).f3.f1), .string ((rd_T54 l0 x13_1).f3.f2), .bool ((rd_T54 l0 x13_1).f3.f3), .complex .f64 ((rd_T54 l0 x13_1).f3.f4).re ((rd_T54 l0 x13_1).f3.f4).im, .int .i64 ((rd_T54 l0 x13_1).f4)]] rfl (Mp) ?_; (with_reducible refine (pred_atom.calls kj8 ((rd_T54 l0 x13_1).f0) ((rd_T54 l0 x13_1).f1) ((rd_T54 l0 x13_1).f2) ((rd_T54 l0 x13_1).f3.f0) ((rd_T54 l0 x13_1).f3.f1) ((rd_T54 l0 x13_1).f3.f2) ((rd_T54 l0 x13_1).f3.f3) ((rd_T54 l0 x13_1).f3.f4) ((rd_T54 l0 x13_1).f4) t116 _ A13.out).mono ?_); rintro e w16 ⟨rfl, hb⟩; refine ⟨_, rfl, ?_⟩; have n0_ := Aside0.mk (blk_below (g := gb115) (o := .cells #[.int .i64 ((rd_T54 l0 x13_1).f0), .string ((rd_T54 l0 x13_1).f1), .int .i64 ((rd_T54 l0 x13_1).f2), .int .i64 ((rd_T54 l0 x13_1).f3.f0), .int .i64 ((rd_T54 l0 x13_1).f3.f1), .string ((rd_T54 l0 x13_1).f3.f2), .bool ((rd_T54 l0 x13_1).f3.f3), .complex .f64 ((rd_T54 l0 x13_1).f3.f4).re ((rd_T54 l0 x13_1).f3.f4).im, .int .i64 ((rd_T54 l0 x13_1).f4)] 54 (0, 0)) (Bk BK115.out) hb); have n1_ := Aside0.mk (below_step (Bl) hb); clear BK115; clear HB; have BK115 := n0_; have HB := n1_; clear n0_ n1_; (try clear hb); (try clear hb2); (try clear hk); (try clear hi)))
             go_meet
             case rel => exact ⟨_, (0), (by first | rfl | (simp; done) | (simp [*]; done)), H', ⟨by have := HK1.out; have := HJ8.out; first | omega | exact Nat.le_refl _⟩, ⟨Bk BK115.out⟩, ⟨Bl⟩⟩
            ·rw [if_neg c14] at H
             have c14b0 : (t116 == 0) = false := beq_eq_false_iff_ne.mpr c14
             have c14b1 : (t116 != 0) = true := bne_iff_ne.mpr c14
             obtain rfl := Option.some.inj H
             obtain ⟨_, _, _, _, _, _, _, _, _⟩ := cz9 BK115.out
             obtain ⟨_, _, _, _, _, _, _, _, _⟩ := fz9 BK115.out
             go_wp2_with (first | ((with_reducible refine gate_callee (f := 23) rfl ?_); refine goesL_ (some 25) rfl rfl Try.func23 (by kernel_rfl) rfl #[.agg #[.int .i64 ((rd_T54 l0 x13_1).f0), .string ((rd_T54 l0 x13_1).f1), .int .i64 ((rd_T54 l0 x13_1).f2), .int .i64 ((rd_T54 l0 x13_1).f3.f0), .int .i64 ((rd_T54 l0 x13_1).f3.f1), .string ((rd_T54 l0 x13_1).f3.f2), .bool ((rd_T54 l0 x13_1).f3.f3), .complex .f64 ((rd_T54 l0 x13_1).f3.f4).re ((rd_T54 l0 x13_1).f3.f4).im, .int .i64 ((rd_T54 l0 x13_1).f4)]] rfl (Mp) ?_; (with_reducible refine (pred_atom.calls kj8 ((rd_T54 l0 x13_1).f0) ((rd_T54 l0 x13_1).f1) ((rd_T54 l0 x13_1).f2) ((rd_T54 l0 x13_1).f3.f0) ((rd_T54 l0 x13_1).f3.f1) ((rd_T54 l0 x13_1).f3.f2) ((rd_T54 l0 x13_1).f3.f3) ((rd_T54 l0 x13_1).f3.f4) ((rd_T54 l0 x13_1).f4) t116 _ A13.out).mono ?_); rintro e w18 ⟨rfl, hb⟩; refine ⟨_, rfl, ?_⟩; have n0_ := Aside0.mk (blk_below (g := gb115) (o := .cells #[.int .i64 ((rd_T54 l0 x13_1).f0), .string ((rd_T54 l0 x13_1).f1), .int .i64 ((rd_T54 l0 x13_1).f2), .int .i64 ((rd_T54 l0 x13_1).f3.f0), .int .i64 ((rd_T54 l0 x13_1).f3.f1), .string ((rd_T54 l0 x13_1).f3.f2), .bool ((rd_T54 l0 x13_1).f3.f3), .complex .f64 ((rd_T54 l0 x13_1).f3.f4).re ((rd_T54 l0 x13_1).f3.f4).im, .int .i64 ((rd_T54 l0 x13_1).f4)] 54 (0, 0)) (Bk BK115.out) hb); have n1_ := Aside0.mk (below_step (Bl) hb); clear BK115; clear HB; have BK115 := n0_; have HB := n1_; clear n0_ n1_; (try clear hb); (try clear hb2); (try clear hk); (try clear hi)))
             go_ret
             exact ⟨by first | rfl | (simp [errW_none, errW_some] <;> rfl) | (simp [*, errW_none, errW_some] <;> rfl), Bl⟩
           ·rw [if_neg c12] at H
            have c12b0 : (((rd_T54 l0 x13_1).f0) == 3) = false := beq_eq_false_iff_ne.mpr c12
            have c12b1 : (((rd_T54 l0 x13_1).f0) != 3) = true := bne_iff_ne.mpr c12
            by_cases c19 : ((rd_T54 l0 x13_1).f0) = 4
            ·rw [if_pos c19] at H
             have c19b0 : (((rd_T54 l0 x13_1).f0) == 4) = true := beq_iff_eq.mpr c19
             have c19b1 : (((rd_T54 l0 x13_1).f0) != 4) = false := bne_eq_false_iff_eq.mpr c19
             clear c19
             have H' := Aside0.mk H
             clear H
             go_wp2
             go_meet
             case rel => exact ⟨_, (1), (by first | rfl | (simp; done) | (simp [*]; done)), H', ⟨by have := HK1.out; have := HJ8.out; first | omega | exact Nat.le_refl _⟩, ⟨Bk BK115.out⟩, ⟨Bl⟩⟩
            ·rw [if_neg c19] at H
             have c19b0 : (((rd_T54 l0 x13_1).f0) == 4) = false := beq_eq_false_iff_ne.mpr c19
             have c19b1 : (((rd_T54 l0 x13_1).f0) != 4) = true := bne_iff_ne.mpr c19
             by_cases c20 : ((rd_T54 l0 x13_1).f0) = 5
             ·rw [if_pos c20] at H
              have c20b0 : (((rd_T54 l0 x13_1).f0) == 5) = true := beq_iff_eq.mpr c20
              have c20b1 : (((rd_T54 l0 x13_1).f0) != 5) = false := bne_eq_false_iff_eq.mpr c20
              clear c20
              have H' := Aside0.mk H
              clear H
              go_wp2
              go_meet
              case rel => exact ⟨_, (2), (by first | rfl | (simp; done) | (simp [*]; done)), H', ⟨by have := HK1.out; have := HJ8.out; first | omega | exact Nat.le_refl _⟩, ⟨Bk BK115.out⟩, ⟨Bl⟩⟩
             ·rw [if_neg c20] at H
              have c20b0 : (((rd_T54 l0 x13_1).f0) == 5) = false := beq_eq_false_iff_ne.mpr c20
              have c20b1 : (((rd_T54 l0 x13_1).f0) != 5) = true := bne_iff_ne.mpr c20
              by_cases c21 : ((rd_T54 l0 x13_1).f0) = 6
              ·rw [if_pos c21] at H
               have c21b0 : (((rd_T54 l0 x13_1).f0) == 6) = true := beq_iff_eq.mpr c21
               have c21b1 : (((rd_T54 l0 x13_1).f0) != 6) = false := bne_eq_false_iff_eq.mpr c21
               clear c21
               have H' := Aside0.mk H
               clear H
               go_wp2
               go_meet
               case rel => exact ⟨_, (2), (by first | rfl | (simp; done) | (simp [*]; done)), H', ⟨by have := HK1.out; have := HJ8.out; first | omega | exact Nat.le_refl _⟩, ⟨Bk BK115.out⟩, ⟨Bl⟩⟩
              ·rw [if_neg c21] at H
               have c21b0 : (((rd_T54 l0 x13_1).f0) == 6) = false := beq_eq_false_iff_ne.mpr c21
               have c21b1 : (((rd_T54 l0 x13_1).f0) != 6) = true := bne_iff_ne.mpr c21
               obtain rfl := Option.some.inj H
               go_wp2
               go_ret
               exact ⟨by first | rfl | (simp [errW_none, errW_some] <;> rfl) | (simp [*, errW_none, errW_some] <;> rfl), Bl⟩
       case rest =>
        clear HC6
        try clear c3b0
        try clear c4b0
        try clear c5b0
        try clear hcz8_0
        try clear hcz8_1
        try clear hcz8_2
        try clear hcz8_3
        try clear hcz8_4
        try clear hcz8_5
        try clear hcz8_6
        try clear hcz8_7
        try clear hcz8_8
        try clear hfz8_0
        try clear hfz8_1
        try clear hfz8_2
        try clear hfz8_3
        try clear hfz8_4
        try clear hfz8_5
        try clear hfz8_6
        try clear hfz8_7
        try clear hfz8_8
        try clear hx114_0
        try clear hx114_1
        try clear hx114_2
        try clear hx114_3
        try clear hx114_4
        try clear hx114_5
        try clear hx114_6
        try clear hx114_7
        try clear hx114_8
        try clear p114
        try clear q114
        obtain ⟨kq, x6_5, rfl, HA, HJ5, BK115, HB⟩ := hcut
        cases kq with
        | zero => exact absurd HA.out (by simp [pred_Check.j2])
        | succ kj5 =>
         have H := HA.out
         clear HA
         simp only [pred_Check.j2] at H
         by_cases c22 : x3_1 < x6_5
         ·rw [if_pos c22] at H
          have c22b0 : decide (x3_1 < x6_5) = true := decide_eq_true c22
          clear c22
          obtain rfl := Option.some.inj H
          go_wp2
          go_ret
          exact ⟨by first | rfl | (simp [errW_none, errW_some] <;> rfl) | (simp [*, errW_none, errW_some] <;> rfl), Bl⟩
         ·rw [if_neg c22] at H
          have c22b0 : decide (x3_1 < x6_5) = false := decide_eq_false c22
          clear c22
          by_cases c23 : (wrap64 (x3_1 + (wrap64 (1 - x6_5)))) > 16
          ·rw [if_pos c23] at H
           have c23b0 : decide (16 < (wrap64 (x3_1 + (wrap64 (1 - x6_5))))) = true := decide_eq_true c23
           clear c23
           obtain rfl := Option.some.inj H
           go_wp2
           go_ret
           exact ⟨by first | rfl | (simp [errW_none, errW_some] <;> rfl) | (simp [*, errW_none, errW_some] <;> rfl), Bl⟩
          ·rw [if_neg c23] at H
           have c23b0 : decide (16 < (wrap64 (x3_1 + (wrap64 (1 - x6_5))))) = false := decide_eq_false c23
           clear c23
           have H' := Aside0.mk H
           clear H
           go_wp2
           go_roundg kj5
           case measure => have := HK1.out; have := HJ5.out; omega
           case rel => exact ⟨(wrap64 (x3_1 + (wrap64 (1 - x6_5)))), (wrap64 (x13_1 + 1)), (by first | rfl | (simp; done) | (simp [*]; done)), (by first | rfl | (simp; done) | (simp [*]; done)), H', ⟨by have := HK1.out; have := HJ5.out; omega⟩, ⟨Bl⟩⟩
      ·rw [if_neg c5] at H
       exact absurd H (by simp)
     ·rw [if_neg c4] at H
      exact absurd H (by simp)
    ·rw [if_neg c3] at H
     have c3b0 : decide (x13_1 < (l0.length : Int)) = false := decide_eq_false c3
     clear c3
     by_cases c24 : x3_1 = 1
     ·rw [if_pos c24] at H
      have c24b0 : (x3_1 == 1) = true := beq_iff_eq.mpr c24
      have c24b1 : (x3_1 != 1) = false := bne_eq_false_iff_eq.mpr c24
      clear c24
      obtain rfl := Option.some.inj H
      go_wp2
      go_ret
      exact ⟨by first | rfl | (simp [errW_none, errW_some] <;> rfl) | (simp [*, errW_none, errW_some] <;> rfl), Bl⟩
     ·rw [if_neg c24] at H
      have c24b0 : (x3_1 == 1) = false := beq_eq_false_iff_ne.mpr c24
      have c24b1 : (x3_1 != 1) = true := bne_iff_ne.mpr c24
      obtain rfl := Option.some.inj H
      go_wp2
      go_ret
      exact ⟨by first | rfl | (simp [errW_none, errW_some] <;> rfl) | (simp [*, errW_none, errW_some] <;> rfl), Bl⟩

end Go.Proofs.Ytmgljgmieomngaa.Q
