/- Functions of the program as Lean functions, each with its walk: that the Go code comes to just these answers, whatever the memory. Written by a program of this claim (wip/tools). -/
import Derived.Test.YtmgljgmieomngaaMc
import Derived.Test.YtmgljgmieomngaaQx0
import Derived.Test.YtmgljgmieomngaaQx9
import Derived.Test.YtmgljgmieomngaaQx48
import Derived.Test.YtmgljgmieomngaaQx49
namespace Go.Proofs.Ytmgljgmieomngaa.Q
open Go.RowKit Go.Proofs.YtmgljgmieomngaaW.PrintWords Go.Proofs.YtmgljgmieomngaaW.PrintLast Go.Proofs.YtmgljgmieomngaaW.PrintMore
attribute [local go_sem] run_ftoi isSome_setCell bytesLess_total run_store_complex run_store_float max2_int min2_int max_two min_two max_three min_three max_four min_four   -- for this text's walks alone
set_option linter.unusedVariables false
set_option linter.unusedSimpArgs false

/-! ### pred_Print: function 10 -/
def pred_Print.l0 : Nat → List (S66) → List (S54) → Int → Int → Option (ByteArray × Int)
 | 0, _, _, _, _ => none
 | k + 1, x5, x14, x15, x16 => if x16 < x15 then (if 0 ≤ x16 then (if x16 < (x14.length : Int) then (if ((rd_T54 x14 x16).f0) = 1 then (if x5.length < 5864062014805 then (pred_Print.l0 k (x5 ++ [(⟨(⟨#[42]⟩ : ByteArray), 2⟩ : S66)]) x14 x15 (wrap64 (x16 + 1))) else (none)) else (if ((rd_T54 x14 x16).f0) = 2 then (if x5.length < 5864062014805 then (pred_Print.l0 k (x5 ++ [(⟨(⟨#[35]⟩ : ByteArray), 2⟩ : S66)]) x14 x15 (wrap64 (x16 + 1))) else (none)) else (if ((rd_T54 x14 x16).f0) = 3 then ((pred_one.f k ((rd_T54 x14 x16).f0) ((rd_T54 x14 x16).f1) ((rd_T54 x14 x16).f2) ((rd_T54 x14 x16).f3.f0) ((rd_T54 x14 x16).f3.f1) ((rd_T54 x14 x16).f3.f2) ((rd_T54 x14 x16).f3.f3) ((rd_T54 x14 x16).f3.f4) ((rd_T54 x14 x16).f4)).bind fun t291 => (if x5.length < 5864062014805 then (pred_Print.l0 k (x5 ++ [(⟨t291, 2⟩ : S66)]) x14 x15 (wrap64 (x16 + 1))) else (none))) else (if ((rd_T54 x14 x16).f0) = 4 then (if 0 ≤ (wrap64 ((x5.length : Int) - 1)) then (if (wrap64 ((x5.length : Int) - 1)) < (x5.length : Int) then ((pred_printed_within.f ((rd_T66 x5 (wrap64 ((x5.length : Int) - 1))).f0) ((rd_T66 x5 (wrap64 ((x5.length : Int) - 1))).f1) 2).bind fun t296 => (if 1 + t296.size ≤ 9223372036854775807 then (pred_Print.l0 k (x5.set ((wrap64 ((x5.length : Int) - 1)) : Int).toNat (⟨(⟨#[33]⟩ : ByteArray) ++ t296, 2⟩ : S66)) x14 x15 (wrap64 (x16 + 1))) else (none))) else (none)) else (none)) else (if ((rd_T54 x14 x16).f0) = 5 then (if 0 ≤ (wrap64 ((wrap64 ((x5.length : Int) - 1)) - 1)) then (if (wrap64 ((wrap64 ((x5.length : Int) - 1)) - 1)) < (x5.length : Int) then ((pred_printed_within.f ((rd_T66 x5 (wrap64 ((wrap64 ((x5.length : Int) - 1)) - 1))).f0) ((rd_T66 x5 (wrap64 ((wrap64 ((x5.length : Int) - 1)) - 1))).f1) 1).bind fun t299 => (if t299.size + 3 ≤ 9223372036854775807 then (if 0 ≤ (wrap64 ((x5.length : Int) - 1)) then (if (wrap64 ((x5.length : Int) - 1)) < (x5.length : Int) then ((pred_printed_within.f ((rd_T66 x5 (wrap64 ((x5.length : Int) - 1))).f0) ((rd_T66 x5 (wrap64 ((x5.length : Int) - 1))).f1) 2).bind fun t301 => (if (t299 ++ (⟨#[32, 38, 32]⟩ : ByteArray)).size + t301.size ≤ 9223372036854775807 then (if (wrap64 ((x5.length : Int) - 1)) ≤ (x5.length : Int) then (pred_Print.l0 k ((x5.set ((wrap64 ((wrap64 ((x5.length : Int) - 1)) - 1)) : Int).toNat (⟨(t299 ++ (⟨#[32, 38, 32]⟩ : ByteArray)) ++ t301, 1⟩ : S66)).take ((wrap64 ((x5.length : Int) - 1)) : Int).toNat) x14 x15 (wrap64 (x16 + 1))) else (none)) else (none))) else (none)) else (none)) else (none))) else (none)) else (none)) else (if ((rd_T54 x14 x16).f0) = 6 then (if 0 ≤ (wrap64 ((wrap64 ((x5.length : Int) - 1)) - 1)) then (if (wrap64 ((wrap64 ((x5.length : Int) - 1)) - 1)) < (x5.length : Int) then ((pred_printed_within.f ((rd_T66 x5 (wrap64 ((wrap64 ((x5.length : Int) - 1)) - 1))).f0) ((rd_T66 x5 (wrap64 ((wrap64 ((x5.length : Int) - 1)) - 1))).f1) 0).bind fun t307 => (if t307.size + 3 ≤ 9223372036854775807 then (if 0 ≤ (wrap64 ((x5.length : Int) - 1)) then (if (wrap64 ((x5.length : Int) - 1)) < (x5.length : Int) then ((pred_printed_within.f ((rd_T66 x5 (wrap64 ((x5.length : Int) - 1))).f0) ((rd_T66 x5 (wrap64 ((x5.length : Int) - 1))).f1) 1).bind fun t309 => (if (t307 ++ (⟨#[32, 124, 32]⟩ : ByteArray)).size + t309.size ≤ 9223372036854775807 then (if (wrap64 ((x5.length : Int) - 1)) ≤ (x5.length : Int) then (pred_Print.l0 k ((x5.set ((wrap64 ((wrap64 ((x5.length : Int) - 1)) - 1)) : Int).toNat (⟨(t307 ++ (⟨#[32, 124, 32]⟩ : ByteArray)) ++ t309, 0⟩ : S66)).take ((wrap64 ((x5.length : Int) - 1)) : Int).toNat) x14 x15 (wrap64 (x16 + 1))) else (none)) else (none))) else (none)) else (none)) else (none))) else (none)) else (none)) else (pred_Print.l0 k x5 x14 x15 (wrap64 (x16 + 1))))))))) else (none)) else (none)) else (if 0 < (x5.length : Int) then (if (((rd_T66 x5 0).f0).size : Int) > 300 then (some ((⟨#[]⟩ : ByteArray), 6)) else (some ((rd_T66 x5 0).f0, 0))) else (none))
def pred_Print.f (k : Nat) (l0 : List (S54)) : Option (ByteArray × Int) := (pred_Check.f k l0).bind fun t280 => (if t280 = 0 then (pred_Print.l0 k ([] : List (S66)) l0 (l0.length : Int) 0) else (some ((⟨#[]⟩ : ByteArray), t280)))
theorem pred_Print.mono_l : ∀ k, (∀ y0 y1 y2 y3, LeO (pred_Print.l0 k y0 y1 y2 y3) (pred_Print.l0 (k + 1) y0 y1 y2 y3))
 | 0 => fun _ _ _ _ r h => by simp [pred_Print.l0] at h
 | k + 1 => by
  have ih0 := pred_Print.mono_l k
  ·intro y0 y1 y2 y3
   unfold pred_Print.l0
   repeat' first
   | (with_reducible exact ih0 _ _ _ _)
   | (with_reducible exact pred_Check.mono _ _)
   | (with_reducible exact pred_one.mono _ _ _ _ _ _ _ _ _ _)
   | (with_reducible exact LeO.refl _)
   | (with_reducible exact LeO.none _)
   | (with_reducible refine LeO.ite ?_ ?_)
   | (with_reducible refine LeO.bind ?_ (fun _ => ?_))
   | exact ih0 _ _ _ _
   | exact pred_Check.mono _ _
   | exact pred_one.mono _ _ _ _ _ _ _ _ _ _
   | exact LeO.none _
   | refine LeO.ite ?_ ?_
   | refine LeO.bind ?_ (fun _ => ?_)
theorem pred_Print.mono : ∀ a0 k, LeO (pred_Print.f k a0) (pred_Print.f (k + 1) a0) := by
 intro a0 k
 have ih0 := pred_Print.mono_l k
 unfold pred_Print.f
 repeat' first
   | (with_reducible exact ih0 _ _ _ _)
   | (with_reducible exact pred_Check.mono _ _)
   | (with_reducible exact pred_one.mono _ _ _ _ _ _ _ _ _ _)
   | (with_reducible exact LeO.refl _)
   | (with_reducible exact LeO.none _)
   | (with_reducible refine LeO.ite ?_ ?_)
   | (with_reducible refine LeO.bind ?_ (fun _ => ?_))
   | exact ih0 _ _ _ _
   | exact pred_Check.mono _ _
   | exact pred_one.mono _ _ _ _ _ _ _ _ _ _
   | exact LeO.none _
   | refine LeO.ite ?_ ?_
   | refine LeO.bind ?_ (fun _ => ?_)
def pred_Print.T19 : Bool × List (List Nat × List Nat) := (true, [([], []), ([], []), ([1], [1]), ([], []), ([], []), ([4], [4]), ([3, 5], [3, 5]), ([6], [6]), ([7], [7]), ([8], [8]), ([], []), ([], []), ([10, 11], [10, 11]), ([12], [12]), ([13, 8], [13]), ([9, 14], [9, 14]), ([15], [15]), ([0, 2, 0, 1, 2, 3, 4, 5, 6, 7, 8, 9, 10, 11, 12, 13, 14, 15, 16], [0, 2]), ([17, 16, 14, 0, 1, 2, 3, 4, 5, 6, 7, 8, 9, 10, 11, 12, 13, 14, 15, 16], [16, 17])])
def pred_Print.B19 : List Nat := [0, 0, 2, 0, 0, 16, 56, 120, 248, 504, 0, 0, 3072, 7168, 15864, 32760, 65528, 131071, 262143]
theorem pred_Print.tab19 : rtab .any (opsOf Try.f10 19) = pred_Print.T19 := by kernel_rfl
theorem pred_Print.bits19 : waitsOk pred_Print.T19.2 pred_Print.B19 = true := by kernel_rfl
def pred_Print.T22 : Bool × List (List Nat × List Nat) := (true, [([], []), ([], []), ([1], [1]), ([], []), ([], []), ([4], [4]), ([3, 5], [3, 5]), ([6], [6]), ([7], [7]), ([8], [8]), ([], []), ([], []), ([10, 11], [10, 11]), ([12], [12]), ([13, 8], [13]), ([9, 14], [9, 14]), ([15], [15]), ([0, 2, 0, 1, 2, 3, 4, 5, 6, 7, 8, 9, 10, 11, 12, 13, 14, 15, 16], [0, 2]), ([17, 16, 14, 0, 1, 2, 3, 4, 5, 6, 7, 8, 9, 10, 11, 12, 13, 14, 15, 16], [16, 17])])
def pred_Print.B22 : List Nat := [0, 0, 2, 0, 0, 16, 56, 120, 248, 504, 0, 0, 3072, 7168, 15864, 32760, 65528, 131071, 262143]
theorem pred_Print.tab22 : rtab .any (opsOf Try.f10 22) = pred_Print.T22 := by kernel_rfl
theorem pred_Print.bits22 : waitsOk pred_Print.T22.2 pred_Print.B22 = true := by kernel_rfl
set_option maxHeartbeats 8000000 in
set_option maxRecDepth 100000 in
theorem pred_Print.calls (k : Nat) (A0 : Option Addr) (c0 : Nat) (l0 : List (S54)) (r1 : ByteArray) (r2 : Int) (w : World) (hr0 : Kd.C k54 w A0 l0.length l0) (hc0 : l0.length ≤ c0) (h : pred_Print.f k l0 = some (r1, r2)) :
  Calls Try.prog 10 #[.slice A0 l0.length c0] w fun e w' => e = .returned (.tuple #[.string r1, .int .i64 r2]) ∧ Below w.heap.size w w' := by
 have hu54 := Try.underlying54
 have hu66 := Try.underlying66
 have HR0 := Aside0.mk hr0
 have HC0 := Aside0.mk hc0
 clear hr0 hc0
 have HB := Aside0.mk (Below.refl w.heap.size w)
 have H : ((pred_Check.f k l0).bind fun t280 => (if t280 = 0 then (pred_Print.l0 k ([] : List (S66)) l0 (l0.length : Int) 0) else (some ((⟨#[]⟩ : ByteArray), t280)))) = some (r1, r2) := h
 clear h
 replace H := Option.bind_eq_some_iff.mp H
 obtain ⟨t280, A20, H⟩ := H
 replace H : (if t280 = 0 then (pred_Print.l0 k ([] : List (S66)) l0 (l0.length : Int) 0) else (some ((⟨#[]⟩ : ByteArray), t280))) = some (r1, r2) := H
 have A2 := Aside0.mk A20
 clear A20
 by_cases c3 : t280 = 0
 ·rw [if_pos c3] at H
  have c3b0 : (t280 == 0) = true := beq_iff_eq.mpr c3
  have c3b1 : (t280 != 0) = false := bne_eq_false_iff_eq.mpr c3
  clear c3
  have H' := Aside0.mk H
  clear H
  go_enter Try.func10, Try.ntmps10
  go_wp2_with (first | ((with_reducible refine gate_callee (f := 11) rfl ?_); refine goesL_ (some 10) rfl rfl Try.func11 (by kernel_rfl) rfl #[.slice A0 l0.length c0] rfl (Mp) ?_; (with_reducible refine (pred_Check.calls k _ _ l0 t280 _ ?side1 ?side2 A2.out).mono ?_); (case side1 => repeat (first | exact HR0.out | (with_reducible refine Kd.C_alloc ?_ _) | (with_reducible refine Kd.C_drewN ?_ _) | (with_reducible refine Kd.C_drew ?_))); (case side2 => exact HC0.out); rintro e w4 ⟨rfl, hb⟩; refine ⟨_, rfl, ?_⟩; have n0_ := Aside0.mk (below_step (Bl) hb); clear HB; have HB := n0_; clear n0_; (try clear hb); (try clear hb2); (try clear hk); (try clear hi)))
  go_loopg [5, 16] k (fun kq v5 v16 w' => ∃ (x5_1 : List (S66)) (x16_1 : Int), v16 = .int .i64 x16_1 ∧ Aside0 (pred_Print.l0 kq x5_1 l0 (l0.length : Int) x16_1 = some (r1, r2)) ∧ Aside0 (kq ≤ k) ∧ Aside0 (Kd.R k66 66 w' w.heap.size (fun _ => True) v5 x5_1) ∧ Aside0 (Below w.heap.size w w'))
  case atStart => exact ⟨(([] : List (S66))), (0), (by first | rfl | (simp; done) | (simp [*]; done)), H', ⟨Nat.le_refl _⟩, ⟨by first | exact Kd.R_nil _ _ _ _ _ | exact Kd.N_nil _ _ _ _ _ | exact Kd.V_nil _ _ _ _ _ | exact Kd.Q_nil _ _ _ _ _ | exact Kd.S_nil _ _ _ _ _⟩, ⟨Bl⟩⟩
  case round =>
   clear H'
   try clear c3b0
   try clear c3b1
   obtain ⟨x5_1, x16_1, rfl, HA, HK1, HO_5, HB⟩ := hrel
   cases gk with
   | zero => exact absurd HA.out (by simp [pred_Print.l0])
   | succ k1 =>
    have H := HA.out
    clear HA
    simp only [pred_Print.l0] at H
    by_cases c5 : x16_1 < (l0.length : Int)
    ·rw [if_pos c5] at H
     have c5b0 : decide (x16_1 < (l0.length : Int)) = true := decide_eq_true c5
     clear c5
     by_cases c6 : 0 ≤ x16_1
     ·rw [if_pos c6] at H
      have c6b0 : decide (0 ≤ x16_1) = true := decide_eq_true c6
      clear c6
      by_cases c7 : x16_1 < (l0.length : Int)
      ·rw [if_pos c7] at H
       have c7b0 : decide (x16_1 < (l0.length : Int)) = true := decide_eq_true c7
       clear c7
       by_cases c8 : ((rd_T54 l0 x16_1).f0) = 1
       ·rw [if_pos c8] at H
        have c8b0 : (((rd_T54 l0 x16_1).f0) == 1) = true := beq_iff_eq.mpr c8
        have c8b1 : (((rd_T54 l0 x16_1).f0) != 1) = false := bne_eq_false_iff_eq.mpr c8
        clear c8
        by_cases c9 : x5_1.length < 5864062014805
        ·rw [if_pos c9] at H
         have LMc9 := Aside0.mk c9
         clear c9
         obtain ⟨y285, hy285⟩ : ∃ y_ : List (S66), y_ = (x5_1 ++ [(⟨(⟨#[42]⟩ : ByteArray), 2⟩ : S66)]) := ⟨_, rfl⟩
         replace H : (pred_Print.l0 k1 y285 l0 (l0.length : Int) (wrap64 (x16_1 + 1))) = some (r1, r2) := by first | (rw [hy285]; with_reducible exact H) | (have H2_ := (Option.bind_some _ _).symm.trans H; rw [hy285]; with_reducible exact H2_) | (have H2_ := (Option.bind_some _ _).symm.trans H; with_reducible exact H2_) | with_reducible exact H | (rw [hy285]; exact H) | exact H
         have Ny285 := Aside0.mk hy285
         clear hy285
         have H' := Aside0.mk H
         clear H
         have p283 : 0 ≤ (x16_1 : Int) := of_decide_eq_true (As)
         have q283 : x16_1 < (l0.length : Int) := of_decide_eq_true (As)
         obtain ⟨ad283, e283, hx283_0, hx283_1, hx283_2, hx283_3, hx283_4, hx283_5, hx283_6, hx283_7, hx283_8⟩ := at_T54 HR0.out x16_1 p283 q283
         cases e283
         replace hx283_0 := (HB.out.cell (World.block_lt_of_cell? w _ hx283_0)).trans hx283_0
         replace hx283_1 := (HB.out.cell (World.block_lt_of_cell? w _ hx283_1)).trans hx283_1
         replace hx283_2 := (HB.out.cell (World.block_lt_of_cell? w _ hx283_2)).trans hx283_2
         replace hx283_3 := (HB.out.cell (World.block_lt_of_cell? w _ hx283_3)).trans hx283_3
         replace hx283_4 := (HB.out.cell (World.block_lt_of_cell? w _ hx283_4)).trans hx283_4
         replace hx283_5 := (HB.out.cell (World.block_lt_of_cell? w _ hx283_5)).trans hx283_5
         replace hx283_6 := (HB.out.cell (World.block_lt_of_cell? w _ hx283_6)).trans hx283_6
         replace hx283_7 := (HB.out.cell (World.block_lt_of_cell? w _ hx283_7)).trans hx283_7
         replace hx283_8 := (HB.out.cell (World.block_lt_of_cell? w _ hx283_8)).trans hx283_8
         replace p283 := eq_true p283
         replace q283 := eq_true q283
         go_wp2_with (first | ((with_reducible refine gate_dst (N := 7) rfl ?_); refine box_event ?hg (N := 7) ?hd (cs := #[.int .i64 0, .string (⟨#[]⟩ : ByteArray), .int .i64 0, .int .i64 0, .int .i64 0, .string (⟨#[]⟩ : ByteArray), .bool false, .complex .f64 0 0, .int .i64 0]) (t := 54) ?hr ?_; (case hd => rfl); (case hg => rfl); (case hr => first | (go_simp; done) | (go_simp; rfl)); intro gb284 hg w10 hbox hb; have n0_ := Aside0.mk (Kd.R_below (Rw HO_5.out) hb); have n1_ := Aside0.mk (below_step (Bl) hb); have n2_ := Aside0.mk (hbox); have n3_ := Aside0.mk ((by rw [hg]; exact (below_size (Bl)) : w.heap.size ≤ gb284)); have n4_ := Aside0.mk ((by rw [hg]; exact (below_size (Bl)) : w.heap.size ≤ gb284)); clear HO_5; clear HB; have HO_5 := n0_; have HB := n1_; have BK284 := n2_; have GW284 := n3_; have GE284 := n4_; clear n0_ n1_ n2_ n3_ n4_; clear hb hbox hg; obtain ⟨_, _, _, _, _, _, _, _, _⟩ := cz9 BK284.out; obtain ⟨_, _, _, _, _, _, _, _, _⟩ := fz9 BK284.out; obtain ⟨Ao12, co12, eo12⟩ := Kd.R_slice HO_5.out; subst eo12) | ((with_reducible refine gate_builtin (b := .append) (xs := #[.tmp 27, .tmp 29]) rfl ?_); at_builtin; refine Kd.R_append k66 (w0 := w) w.heap.size rfl (.tmp 27) (.tmp 29) 64 66 (.agg #[(.string ⟨#[]⟩), (.int .i64 0)]) 24 rfl Try.underlying64 info66 rfl (by decide) (by omega) (.slice Ao12 x5_1.length co12) x5_1 (⟨(⟨#[42]⟩ : ByteArray), 2⟩ : S66) [.string (⟨#[42]⟩ : ByteArray), .int .i64 2] (fun _ => True) (fun _ => False) rfl (by first | (go_simp; done) | (go_simp; rfl)) ?aP (fun _ hk => hk.elim) ?aF ?aO ?aB ?aS ?aL ?_; (case aP => exact k66_mkM _ _ _ (⟨(⟨#[42]⟩ : ByteArray), 2⟩ : S66)); (case aB => exact (Bl)); (case aF => exact (fun _ _ => trivial)); (case aO => exact (by (with_reducible repeat (first | apply Kd.R_alloc | apply Kd.R_drewN | apply Kd.R_drew)); exact Kd.R_mono (Kd.R_far (p := ⟨gb284, 8, none⟩) (Kd.R_far (p := ⟨gb284, 7, none⟩) (Kd.R_far (p := ⟨gb284, 6, none⟩) (Kd.R_far (p := ⟨gb284, 5, none⟩) (Kd.R_far (p := ⟨gb284, 4, none⟩) (Kd.R_far (p := ⟨gb284, 3, none⟩) (Kd.R_far (p := ⟨gb284, 2, none⟩) (Kd.R_far (p := ⟨gb284, 1, none⟩) (Kd.R_far (p := ⟨gb284, 0, none⟩) (Kd.R_types HO_5.out BK284.out (by decide)) (fun _ hk => hk.2) (.int .i64 ((rd_T54 l0 x16_1).f0))) (fun _ hk => hk.2) (.string ((rd_T54 l0 x16_1).f1))) (fun _ hk => hk.2) (.int .i64 ((rd_T54 l0 x16_1).f2))) (fun _ hk => hk.2) (.int .i64 ((rd_T54 l0 x16_1).f3.f0))) (fun _ hk => hk.2) (.int .i64 ((rd_T54 l0 x16_1).f3.f1))) (fun _ hk => hk.2) (.string ((rd_T54 l0 x16_1).f3.f2))) (fun _ hk => hk.2) (.bool ((rd_T54 l0 x16_1).f3.f3))) (fun _ hk => hk.2) (.complex .f64 ((rd_T54 l0 x16_1).f3.f4).re ((rd_T54 l0 x16_1).f3.f4).im)) (fun _ hk => hk.2) (.int .i64 ((rd_T54 l0 x16_1).f4))) (fun _ hk => trivial))); (case aS => exact (below_size (Bl))); (case aL => have := LMc9.out; omega); intro v286 w13 ho hb hg hat; rw [← Ny285.out] at ho; have n0_ := Aside0.mk (blk_grown (g := gb284) (o := .cells #[.int .i64 ((rd_T54 l0 x16_1).f0), .string ((rd_T54 l0 x16_1).f1), .int .i64 ((rd_T54 l0 x16_1).f2), .int .i64 ((rd_T54 l0 x16_1).f3.f0), .int .i64 ((rd_T54 l0 x16_1).f3.f1), .string ((rd_T54 l0 x16_1).f3.f2), .bool ((rd_T54 l0 x16_1).f3.f3), .complex .f64 ((rd_T54 l0 x16_1).f3.f4).re ((rd_T54 l0 x16_1).f3.f4).im, .int .i64 ((rd_T54 l0 x16_1).f4)] 54 (0, 0)) (by (with_reducible repeat (first | refine blk_drewN ?_ _ | refine blk_drew ?_ | refine blk_alloc ?_ _)); refine blk_put (cs := #[.int .i64 ((rd_T54 l0 x16_1).f0), .string ((rd_T54 l0 x16_1).f1), .int .i64 ((rd_T54 l0 x16_1).f2), .int .i64 ((rd_T54 l0 x16_1).f3.f0), .int .i64 ((rd_T54 l0 x16_1).f3.f1), .string ((rd_T54 l0 x16_1).f3.f2), .bool ((rd_T54 l0 x16_1).f3.f3), .complex .f64 ((rd_T54 l0 x16_1).f3.f4).re ((rd_T54 l0 x16_1).f3.f4).im, .int .i64 0]) ?_ 8 _ rfl; (with_reducible repeat (first | refine blk_drewN ?_ _ | refine blk_drew ?_ | refine blk_alloc ?_ _)); refine blk_put (cs := #[.int .i64 ((rd_T54 l0 x16_1).f0), .string ((rd_T54 l0 x16_1).f1), .int .i64 ((rd_T54 l0 x16_1).f2), .int .i64 ((rd_T54 l0 x16_1).f3.f0), .int .i64 ((rd_T54 l0 x16_1).f3.f1), .string ((rd_T54 l0 x16_1).f3.f2), .bool ((rd_T54 l0 x16_1).f3.f3), .complex .f64 0 0, .int .i64 0]) ?_ 7 _ rfl; (with_reducible repeat (first | refine blk_drewN ?_ _ | refine blk_drew ?_ | refine blk_alloc ?_ _)); refine blk_put (cs := #[.int .i64 ((rd_T54 l0 x16_1).f0), .string ((rd_T54 l0 x16_1).f1), .int .i64 ((rd_T54 l0 x16_1).f2), .int .i64 ((rd_T54 l0 x16_1).f3.f0), .int .i64 ((rd_T54 l0 x16_1).f3.f1), .string ((rd_T54 l0 x16_1).f3.f2), .bool false, .complex .f64 0 0, .int .i64 0]) ?_ 6 _ rfl; (with_reducible repeat (first | refine blk_drewN ?_ _ | refine blk_drew ?_ | refine blk_alloc ?_ _)); refine blk_put (cs := #[.int .i64 ((rd_T54 l0 x16_1).f0), .string ((rd_T54 l0 x16_1).f1), .int .i64 ((rd_T54 l0 x16_1).f2), .int .i64 ((rd_T54 l0 x16_1).f3.f0), .int .i64 ((rd_T54 l0 x16_1).f3.f1), .string (⟨#[]⟩ : ByteArray), .bool false, .complex .f64 0 0, .int .i64 0]) ?_ 5 _ rfl; (with_reducible repeat (first | refine blk_drewN ?_ _ | refine blk_drew ?_ | refine blk_alloc ?_ _)); refine blk_put (cs := #[.int .i64 ((rd_T54 l0 x16_1).f0), .string ((rd_T54 l0 x16_1).f1), .int .i64 ((rd_T54 l0 x16_1).f2), .int .i64 ((rd_T54 l0 x16_1).f3.f0), .int .i64 0, .string (⟨#[]⟩ : ByteArray), .bool false, .complex .f64 0 0, .int .i64 0]) ?_ 4 _ rfl; (with_reducible repeat (first | refine blk_drewN ?_ _ | refine blk_drew ?_ | refine blk_alloc ?_ _)); refine blk_put (cs := #[.int .i64 ((rd_T54 l0 x16_1).f0), .string ((rd_T54 l0 x16_1).f1), .int .i64 ((rd_T54 l0 x16_1).f2), .int .i64 0, .int .i64 0, .string (⟨#[]⟩ : ByteArray), .bool false, .complex .f64 0 0, .int .i64 0]) ?_ 3 _ rfl; (with_reducible repeat (first | refine blk_drewN ?_ _ | refine blk_drew ?_ | refine blk_alloc ?_ _)); refine blk_put (cs := #[.int .i64 ((rd_T54 l0 x16_1).f0), .string ((rd_T54 l0 x16_1).f1), .int .i64 0, .int .i64 0, .int .i64 0, .string (⟨#[]⟩ : ByteArray), .bool false, .complex .f64 0 0, .int .i64 0]) ?_ 2 _ rfl; (with_reducible repeat (first | refine blk_drewN ?_ _ | refine blk_drew ?_ | refine blk_alloc ?_ _)); refine blk_put (cs := #[.int .i64 ((rd_T54 l0 x16_1).f0), .string (⟨#[]⟩ : ByteArray), .int .i64 0, .int .i64 0, .int .i64 0, .string (⟨#[]⟩ : ByteArray), .bool false, .complex .f64 0 0, .int .i64 0]) ?_ 1 _ rfl; (with_reducible repeat (first | refine blk_drewN ?_ _ | refine blk_drew ?_ | refine blk_alloc ?_ _)); refine blk_put (cs := #[.int .i64 0, .string (⟨#[]⟩ : ByteArray), .int .i64 0, .int .i64 0, .int .i64 0, .string (⟨#[]⟩ : ByteArray), .bool false, .complex .f64 0 0, .int .i64 0]) ?_ 0 _ rfl; (with_reducible repeat (first | refine blk_drewN ?_ _ | refine blk_drew ?_ | refine blk_alloc ?_ _)); exact BK284.out) hg (Kd.R_ne HO_5.out BK284.out (by decide))); have n1_ := Aside0.mk (hb); have n2_ := Aside0.mk (ho); clear BK284; clear HB; clear HO_5; have BK284 := n0_; have HB := n1_; have HO287 := n2_; clear n0_ n1_ n2_; clear ho hb hg hat))
         go_roundg k1
         case measure => have := HK1.out; omega
         case rel => exact ⟨(y285), (wrap64 (x16_1 + 1)), (by first | rfl | (simp; done) | (simp [*]; done)), H', ⟨by have := HK1.out; omega⟩, ⟨Rw HO287.out⟩, ⟨Bl⟩⟩
        ·rw [if_neg c9] at H
         exact absurd H (by simp)
       ·rw [if_neg c8] at H
        have c8b0 : (((rd_T54 l0 x16_1).f0) == 1) = false := beq_eq_false_iff_ne.mpr c8
        have c8b1 : (((rd_T54 l0 x16_1).f0) != 1) = true := bne_iff_ne.mpr c8
        by_cases c14 : ((rd_T54 l0 x16_1).f0) = 2
        ·rw [if_pos c14] at H
         have c14b0 : (((rd_T54 l0 x16_1).f0) == 2) = true := beq_iff_eq.mpr c14
         have c14b1 : (((rd_T54 l0 x16_1).f0) != 2) = false := bne_eq_false_iff_eq.mpr c14
         clear c14
         by_cases c15 : x5_1.length < 5864062014805
         ·rw [if_pos c15] at H
          have LMc15 := Aside0.mk c15
          clear c15
          obtain ⟨y288, hy288⟩ : ∃ y_ : List (S66), y_ = (x5_1 ++ [(⟨(⟨#[35]⟩ : ByteArray), 2⟩ : S66)]) := ⟨_, rfl⟩
          replace H : (pred_Print.l0 k1 y288 l0 (l0.length : Int) (wrap64 (x16_1 + 1))) = some (r1, r2) := by first | (rw [hy288]; with_reducible exact H) | (have H2_ := (Option.bind_some _ _).symm.trans H; rw [hy288]; with_reducible exact H2_) | (have H2_ := (Option.bind_some _ _).symm.trans H; with_reducible exact H2_) | with_reducible exact H | (rw [hy288]; exact H) | exact H
          have Ny288 := Aside0.mk hy288
          clear hy288
          have H' := Aside0.mk H
          clear H
          have p283 : 0 ≤ (x16_1 : Int) := of_decide_eq_true (As)
          have q283 : x16_1 < (l0.length : Int) := of_decide_eq_true (As)
          obtain ⟨ad283, e283, hx283_0, hx283_1, hx283_2, hx283_3, hx283_4, hx283_5, hx283_6, hx283_7, hx283_8⟩ := at_T54 HR0.out x16_1 p283 q283
          cases e283
          replace hx283_0 := (HB.out.cell (World.block_lt_of_cell? w _ hx283_0)).trans hx283_0
          replace hx283_1 := (HB.out.cell (World.block_lt_of_cell? w _ hx283_1)).trans hx283_1
          replace hx283_2 := (HB.out.cell (World.block_lt_of_cell? w _ hx283_2)).trans hx283_2
          replace hx283_3 := (HB.out.cell (World.block_lt_of_cell? w _ hx283_3)).trans hx283_3
          replace hx283_4 := (HB.out.cell (World.block_lt_of_cell? w _ hx283_4)).trans hx283_4
          replace hx283_5 := (HB.out.cell (World.block_lt_of_cell? w _ hx283_5)).trans hx283_5
          replace hx283_6 := (HB.out.cell (World.block_lt_of_cell? w _ hx283_6)).trans hx283_6
          replace hx283_7 := (HB.out.cell (World.block_lt_of_cell? w _ hx283_7)).trans hx283_7
          replace hx283_8 := (HB.out.cell (World.block_lt_of_cell? w _ hx283_8)).trans hx283_8
          replace p283 := eq_true p283
          replace q283 := eq_true q283
          go_wp2_with (first | ((with_reducible refine gate_dst (N := 7) rfl ?_); refine box_event ?hg (N := 7) ?hd (cs := #[.int .i64 0, .string (⟨#[]⟩ : ByteArray), .int .i64 0, .int .i64 0, .int .i64 0, .string (⟨#[]⟩ : ByteArray), .bool false, .complex .f64 0 0, .int .i64 0]) (t := 54) ?hr ?_; (case hd => rfl); (case hg => rfl); (case hr => first | (go_simp; done) | (go_simp; rfl)); intro gb284 hg w16 hbox hb; have n0_ := Aside0.mk (Kd.R_below (Rw HO_5.out) hb); have n1_ := Aside0.mk (below_step (Bl) hb); have n2_ := Aside0.mk (hbox); have n3_ := Aside0.mk ((by rw [hg]; exact (below_size (Bl)) : w.heap.size ≤ gb284)); have n4_ := Aside0.mk ((by rw [hg]; exact (below_size (Bl)) : w.heap.size ≤ gb284)); clear HO_5; clear HB; have HO_5 := n0_; have HB := n1_; have BK284 := n2_; have GW284 := n3_; have GE284 := n4_; clear n0_ n1_ n2_ n3_ n4_; clear hb hbox hg; obtain ⟨_, _, _, _, _, _, _, _, _⟩ := cz9 BK284.out; obtain ⟨_, _, _, _, _, _, _, _, _⟩ := fz9 BK284.out; obtain ⟨Ao18, co18, eo18⟩ := Kd.R_slice HO_5.out; subst eo18) | ((with_reducible refine gate_builtin (b := .append) (xs := #[.tmp 33, .tmp 35]) rfl ?_); at_builtin; refine Kd.R_append k66 (w0 := w) w.heap.size rfl (.tmp 33) (.tmp 35) 64 66 (.agg #[(.string ⟨#[]⟩), (.int .i64 0)]) 24 rfl Try.underlying64 info66 rfl (by decide) (by omega) (.slice Ao18 x5_1.length co18) x5_1 (⟨(⟨#[35]⟩ : ByteArray), 2⟩ : S66) [.string (⟨#[35]⟩ : ByteArray), .int .i64 2] (fun _ => True) (fun _ => False) rfl (by first | (go_simp; done) | (go_simp; rfl)) ?aP (fun _ hk => hk.elim) ?aF ?aO ?aB ?aS ?aL ?_; (case aP => exact k66_mkM _ _ _ (⟨(⟨#[35]⟩ : ByteArray), 2⟩ : S66)); (case aB => exact (Bl)); (case aF => exact (fun _ _ => trivial)); (case aO => exact (by (with_reducible repeat (first | apply Kd.R_alloc | apply Kd.R_drewN | apply Kd.R_drew)); exact Kd.R_mono (Kd.R_far (p := ⟨gb284, 8, none⟩) (Kd.R_far (p := ⟨gb284, 7, none⟩) (Kd.R_far (p := ⟨gb284, 6, none⟩) (Kd.R_far (p := ⟨gb284, 5, none⟩) (Kd.R_far (p := ⟨gb284, 4, none⟩) (Kd.R_far (p := ⟨gb284, 3, none⟩) (Kd.R_far (p := ⟨gb284, 2, none⟩) (Kd.R_far (p := ⟨gb284, 1, none⟩) (Kd.R_far (p := ⟨gb284, 0, none⟩) (Kd.R_types HO_5.out BK284.out (by decide)) (fun _ hk => hk.2) (.int .i64 ((rd_T54 l0 x16_1).f0))) (fun _ hk => hk.2) (.string ((rd_T54 l0 x16_1).f1))) (fun _ hk => hk.2) (.int .i64 ((rd_T54 l0 x16_1).f2))) (fun _ hk => hk.2) (.int .i64 ((rd_T54 l0 x16_1).f3.f0))) (fun _ hk => hk.2) (.int .i64 ((rd_T54 l0 x16_1).f3.f1))) (fun _ hk => hk.2) (.string ((rd_T54 l0 x16_1).f3.f2))) (fun _ hk => hk.2) (.bool ((rd_T54 l0 x16_1).f3.f3))) (fun _ hk => hk.2) (.complex .f64 ((rd_T54 l0 x16_1).f3.f4).re ((rd_T54 l0 x16_1).f3.f4).im)) (fun _ hk => hk.2) (.int .i64 ((rd_T54 l0 x16_1).f4))) (fun _ hk => trivial))); (case aS => exact (below_size (Bl))); (case aL => have := LMc15.out; omega); intro v289 w19 ho hb hg hat; rw [← Ny288.out] at ho; have n0_ := Aside0.mk (blk_grown (g := gb284) (o := .cells #[.int .i64 ((rd_T54 l0 x16_1).f0), .string ((rd_T54 l0 x16_1).f1), .int .i64 ((rd_T54 l0 x16_1).f2), .int .i64 ((rd_T54 l0 x16_1).f3.f0), .int .i64 ((rd_T54 l0 x16_1).f3.f1), .string ((rd_T54 l0 x16_1).f3.f2), .bool ((rd_T54 l0 x16_1).f3.f3), .complex .f64 ((rd_T54 l0 x16_1).f3.f4).re ((rd_T54 l0 x16_1).f3.f4).im, .int .i64 ((rd_T54 l0 x16_1).f4)] 54 (0, 0)) (by (with_reducible repeat (first | refine blk_drewN ?_ _ | refine blk_drew ?_ | refine blk_alloc ?_ _)); refine blk_put (cs := #[.int .i64 ((rd_T54 l0 x16_1).f0), .string ((rd_T54 l0 x16_1).f1), .int .i64 ((rd_T54 l0 x16_1).f2), .int .i64 ((rd_T54 l0 x16_1).f3.f0), .int .i64 ((rd_T54 l0 x16_1).f3.f1), .string ((rd_T54 l0 x16_1).f3.f2), .bool ((rd_T54 l0 x16_1).f3.f3), .complex .f64 ((rd_T54 l0 x16_1).f3.f4).re ((rd_T54 l0 x16_1).f3.f4).im, .int .i64 0]) ?_ 8 _ rfl; (with_reducible repeat (first | refine blk_drewN ?_ _ | refine blk_drew ?_ | refine blk_alloc ?_ _)); refine blk_put (cs := #[.int .i64 ((rd_T54 l0 x16_1).f0), .string ((rd_T54 l0 x16_1).f1), .int .i64 ((rd_T54 l0 x16_1).f2), .int .i64 ((rd_T54 l0 x16_1).f3.f0), .int .i64 ((rd_T54 l0 x16_1).f3.f1), .string ((rd_T54 l0 x16_1).f3.f2), .bool ((rd_T54 l0 x16_1).f3.f3), .complex .f64 0 0, .int .i64 0]) ?_ 7 _ rfl; (with_reducible repeat (first | refine blk_drewN ?_ _ | refine blk_drew ?_ | refine blk_alloc ?_ _)); refine blk_put (cs := #[.int .i64 ((rd_T54 l0 x16_1).f0), .string ((rd_T54 l0 x16_1).f1), .int .i64 ((rd_T54 l0 x16_1).f2), .int .i64 ((rd_T54 l0 x16_1).f3.f0), .int .i64 ((rd_T54 l0 x16_1).f3.f1), .string ((rd_T54 l0 x16_1).f3.f2), .bool false, .complex .f64 0 0, .int .i64 0]) ?_ 6 _ rfl; (with_reducible repeat (first | refine blk_drewN ?_ _ | refine blk_drew ?_ | refine blk_alloc ?_ _)); refine blk_put (cs := #[.int .i64 ((rd_T54 l0 x16_1).f0), .string ((rd_T54 l0 x16_1).f1), .int .i64 ((rd_T54 l0 x16_1).f2), .int .i64 ((rd_T54 l0 x16_1).f3.f0), .int .i64 ((rd_T54 l0 x16_1).f3.f1), .string (⟨#[]⟩ : ByteArray), .bool false, .complex .f64 0 0, .int .i64 0]) ?_ 5 _ rfl; (with_reducible repeat (first | refine blk_drewN ?_ _ | refine blk_drew ?_ | refine blk_alloc ?_ _)); refine blk_put (cs := #[.int .i64 ((rd_T54 l0 x16_1).f0), .string ((rd_T54 l0 x16_1).f1), .int .i64 ((rd_T54 l0 x16_1).f2), .int .i64 ((rd_T54 l0 x16_1).f3.f0), .int .i64 0, .string (⟨#[]⟩ : ByteArray), .bool false, .complex .f64 0 0, .int .i64 0]) ?_ 4 _ rfl; (with_reducible repeat (first | refine blk_drewN ?_ _ | refine blk_drew ?_ | refine blk_alloc ?_ _)); refine blk_put (cs := #[.int .i64 ((rd_T54 l0 x16_1).f0), .string ((rd_T54 l0 x16_1).f1), .int .i64 ((rd_T54 l0 x16_1).f2), .int .i64 0, .int .i64 0, .string (⟨#[]⟩ : ByteArray), .bool false, .complex .f64 0 0, .int .i64 0]) ?_ 3 _ rfl; (with_reducible repeat (first | refine blk_drewN ?_ _ | refine blk_drew ?_ | refine blk_alloc ?_ _)); refine blk_put (cs := #[.int .i64 ((rd_T54 l0 x16_1).f0), .string ((rd_T54 l0 x16_1).f1), .int .i64 0, .int .i64 0, .int .i64 0, .string (⟨#[]⟩ : ByteArray), .bool false, .complex .f64 0 0, .int .i64 0]) ?_ 2 _ rfl; (with_reducible repeat (first | refine blk_drewN ?_ _ | refine blk_drew ?_ | refine blk_alloc ?_ _)); refine blk_put (cs := #[.int .i64 ((rd_T54 l0 x16_1).f0), .string (⟨#[]⟩ : ByteArray), .int .i64 0, .int .i64 0, .int .i64 0, .string (⟨#[]⟩ : ByteArray), .bool false, .complex .f64 0 0, .int .i64 0]) ?_ 1 _ rfl; (with_reducible repeat (first | refine blk_drewN ?_ _ | refine blk_drew ?_ | refine blk_alloc ?_ _)); refine blk_put (cs := #[.int .i64 0, .string (⟨#[]⟩ : ByteArray), .int .i64 0, .int .i64 0, .int .i64 0, .string (⟨#[]⟩ : ByteArray), .bool false, .complex .f64 0 0, .int .i64 0]) ?_ 0 _ rfl; (with_reducible repeat (first | refine blk_drewN ?_ _ | refine blk_drew ?_ | refine blk_alloc ?_ _)); exact BK284.out) hg (Kd.R_ne HO_5.out BK284.out (by decide))); have n1_ := Aside0.mk (hb); have n2_ := Aside0.mk (ho); clear BK284; clear HB; clear HO_5; have BK284 := n0_; have HB := n1_; have HO290 := n2_; clear n0_ n1_ n2_; clear ho hb hg hat))
          go_roundg k1
          case measure => have := HK1.out; omega
          case rel => exact ⟨(y288), (wrap64 (x16_1 + 1)), (by first | rfl | (simp; done) | (simp [*]; done)), H', ⟨by have := HK1.out; omega⟩, ⟨Rw HO290.out⟩, ⟨Bl⟩⟩
         ·rw [if_neg c15] at H
          exact absurd H (by simp)
        ·rw [if_neg c14] at H
         have c14b0 : (((rd_T54 l0 x16_1).f0) == 2) = false := beq_eq_false_iff_ne.mpr c14
         have c14b1 : (((rd_T54 l0 x16_1).f0) != 2) = true := bne_iff_ne.mpr c14
         by_cases c20 : ((rd_T54 l0 x16_1).f0) = 3
         ·rw [if_pos c20] at H
          have c20b0 : (((rd_T54 l0 x16_1).f0) == 3) = true := beq_iff_eq.mpr c20
          have c20b1 : (((rd_T54 l0 x16_1).f0) != 3) = false := bne_eq_false_iff_eq.mpr c20
          clear c20
          replace H := Option.bind_eq_some_iff.mp H
          obtain ⟨t291, A210, H⟩ := H
          replace H : (if x5_1.length < 5864062014805 then (pred_Print.l0 k1 (x5_1 ++ [(⟨t291, 2⟩ : S66)]) l0 (l0.length : Int) (wrap64 (x16_1 + 1))) else (none)) = some (r1, r2) := H
          have A21 := Aside0.mk A210
          clear A210
          by_cases c22 : x5_1.length < 5864062014805
          ·rw [if_pos c22] at H
           have LMc22 := Aside0.mk c22
           clear c22
           obtain ⟨y292, hy292⟩ : ∃ y_ : List (S66), y_ = (x5_1 ++ [(⟨t291, 2⟩ : S66)]) := ⟨_, rfl⟩
           replace H : (pred_Print.l0 k1 y292 l0 (l0.length : Int) (wrap64 (x16_1 + 1))) = some (r1, r2) := by first | (rw [hy292]; with_reducible exact H) | (have H2_ := (Option.bind_some _ _).symm.trans H; rw [hy292]; with_reducible exact H2_) | (have H2_ := (Option.bind_some _ _).symm.trans H; with_reducible exact H2_) | with_reducible exact H | (rw [hy292]; exact H) | exact H
           have Ny292 := Aside0.mk hy292
           clear hy292
           have H' := Aside0.mk H
           clear H
           have p283 : 0 ≤ (x16_1 : Int) := of_decide_eq_true (As)
           have q283 : x16_1 < (l0.length : Int) := of_decide_eq_true (As)
           obtain ⟨ad283, e283, hx283_0, hx283_1, hx283_2, hx283_3, hx283_4, hx283_5, hx283_6, hx283_7, hx283_8⟩ := at_T54 HR0.out x16_1 p283 q283
           cases e283
           replace hx283_0 := (HB.out.cell (World.block_lt_of_cell? w _ hx283_0)).trans hx283_0
           replace hx283_1 := (HB.out.cell (World.block_lt_of_cell? w _ hx283_1)).trans hx283_1
           replace hx283_2 := (HB.out.cell (World.block_lt_of_cell? w _ hx283_2)).trans hx283_2
           replace hx283_3 := (HB.out.cell (World.block_lt_of_cell? w _ hx283_3)).trans hx283_3
           replace hx283_4 := (HB.out.cell (World.block_lt_of_cell? w _ hx283_4)).trans hx283_4
           replace hx283_5 := (HB.out.cell (World.block_lt_of_cell? w _ hx283_5)).trans hx283_5
           replace hx283_6 := (HB.out.cell (World.block_lt_of_cell? w _ hx283_6)).trans hx283_6
           replace hx283_7 := (HB.out.cell (World.block_lt_of_cell? w _ hx283_7)).trans hx283_7
           replace hx283_8 := (HB.out.cell (World.block_lt_of_cell? w _ hx283_8)).trans hx283_8
           replace p283 := eq_true p283
           replace q283 := eq_true q283
           go_wp2_with (first | ((with_reducible refine gate_dst (N := 7) rfl ?_); refine box_event ?hg (N := 7) ?hd (cs := #[.int .i64 0, .string (⟨#[]⟩ : ByteArray), .int .i64 0, .int .i64 0, .int .i64 0, .string (⟨#[]⟩ : ByteArray), .bool false, .complex .f64 0 0, .int .i64 0]) (t := 54) ?hr ?_; (case hd => rfl); (case hg => rfl); (case hr => first | (go_simp; done) | (go_simp; rfl)); intro gb284 hg w23 hbox hb; have n0_ := Aside0.mk (Kd.R_below (Rw HO_5.out) hb); have n1_ := Aside0.mk (below_step (Bl) hb); have n2_ := Aside0.mk (hbox); have n3_ := Aside0.mk ((by rw [hg]; exact (below_size (Bl)) : w.heap.size ≤ gb284)); have n4_ := Aside0.mk ((by rw [hg]; exact (below_size (Bl)) : w.heap.size ≤ gb284)); clear HO_5; clear HB; have HO_5 := n0_; have HB := n1_; have BK284 := n2_; have GW284 := n3_; have GE284 := n4_; clear n0_ n1_ n2_ n3_ n4_; clear hb hbox hg; obtain ⟨_, _, _, _, _, _, _, _, _⟩ := cz9 BK284.out; obtain ⟨_, _, _, _, _, _, _, _, _⟩ := fz9 BK284.out; obtain ⟨Ao25, co25, eo25⟩ := Kd.R_slice HO_5.out; subst eo25) | ((with_reducible refine gate_callee (f := 21) rfl ?_); refine goesL_ (some 41) rfl rfl Try.func21 (by kernel_rfl) rfl #[.agg #[.int .i64 ((rd_T54 l0 x16_1).f0), .string ((rd_T54 l0 x16_1).f1), .int .i64 ((rd_T54 l0 x16_1).f2), .int .i64 ((rd_T54 l0 x16_1).f3.f0), .int .i64 ((rd_T54 l0 x16_1).f3.f1), .string ((rd_T54 l0 x16_1).f3.f2), .bool ((rd_T54 l0 x16_1).f3.f3), .complex .f64 ((rd_T54 l0 x16_1).f3.f4).re ((rd_T54 l0 x16_1).f3.f4).im, .int .i64 ((rd_T54 l0 x16_1).f4)]] rfl (Mp) ?_; (with_reducible refine (pred_one.calls k1 ((rd_T54 l0 x16_1).f0) ((rd_T54 l0 x16_1).f1) ((rd_T54 l0 x16_1).f2) ((rd_T54 l0 x16_1).f3.f0) ((rd_T54 l0 x16_1).f3.f1) ((rd_T54 l0 x16_1).f3.f2) ((rd_T54 l0 x16_1).f3.f3) ((rd_T54 l0 x16_1).f3.f4) ((rd_T54 l0 x16_1).f4) t291 _ A21.out).mono ?_); rintro e w26 ⟨rfl, hb⟩; refine ⟨_, rfl, ?_⟩; have n0_ := Aside0.mk (Kd.R_below (by (with_reducible repeat (first | apply Kd.R_alloc | apply Kd.R_drewN | apply Kd.R_drew)); exact (Kd.R_mono (Kd.R_far (p := ⟨gb284, 8, none⟩) (Kd.R_far (p := ⟨gb284, 7, none⟩) (Kd.R_far (p := ⟨gb284, 6, none⟩) (Kd.R_far (p := ⟨gb284, 5, none⟩) (Kd.R_far (p := ⟨gb284, 4, none⟩) (Kd.R_far (p := ⟨gb284, 3, none⟩) (Kd.R_far (p := ⟨gb284, 2, none⟩) (Kd.R_far (p := ⟨gb284, 1, none⟩) (Kd.R_far (p := ⟨gb284, 0, none⟩) (Kd.R_types HO_5.out BK284.out (by decide)) (fun _ hk => hk.2) (.int .i64 ((rd_T54 l0 x16_1).f0))) (fun _ hk => hk.2) (.string ((rd_T54 l0 x16_1).f1))) (fun _ hk => hk.2) (.int .i64 ((rd_T54 l0 x16_1).f2))) (fun _ hk => hk.2) (.int .i64 ((rd_T54 l0 x16_1).f3.f0))) (fun _ hk => hk.2) (.int .i64 ((rd_T54 l0 x16_1).f3.f1))) (fun _ hk => hk.2) (.string ((rd_T54 l0 x16_1).f3.f2))) (fun _ hk => hk.2) (.bool ((rd_T54 l0 x16_1).f3.f3))) (fun _ hk => hk.2) (.complex .f64 ((rd_T54 l0 x16_1).f3.f4).re ((rd_T54 l0 x16_1).f3.f4).im)) (fun _ hk => hk.2) (.int .i64 ((rd_T54 l0 x16_1).f4))) (fun _ h_ => h_.1))) hb); have n1_ := Aside0.mk (blk_below (g := gb284) (o := .cells #[.int .i64 ((rd_T54 l0 x16_1).f0), .string ((rd_T54 l0 x16_1).f1), .int .i64 ((rd_T54 l0 x16_1).f2), .int .i64 ((rd_T54 l0 x16_1).f3.f0), .int .i64 ((rd_T54 l0 x16_1).f3.f1), .string ((rd_T54 l0 x16_1).f3.f2), .bool ((rd_T54 l0 x16_1).f3.f3), .complex .f64 ((rd_T54 l0 x16_1).f3.f4).re ((rd_T54 l0 x16_1).f3.f4).im, .int .i64 ((rd_T54 l0 x16_1).f4)] 54 (0, 0)) (by (with_reducible repeat (first | refine blk_drewN ?_ _ | refine blk_drew ?_ | refine blk_alloc ?_ _)); refine blk_put (cs := #[.int .i64 ((rd_T54 l0 x16_1).f0), .string ((rd_T54 l0 x16_1).f1), .int .i64 ((rd_T54 l0 x16_1).f2), .int .i64 ((rd_T54 l0 x16_1).f3.f0), .int .i64 ((rd_T54 l0 x16_1).f3.f1), .string ((rd_T54 l0 x16_1).f3.f2), .bool ((rd_T54 l0 x16_1).f3.f3), .complex .f64 ((rd_T54 l0 x16_1).f3.f4).re ((rd_T54 l0 x16_1).f3.f4).im, .int .i64 0]) ?_ 8 _ rfl; (with_reducible repeat (first | refine blk_drewN ?_ _ | refine blk_drew ?_ | refine blk_alloc ?_ _)); refine blk_put (cs := #[.int .i64 ((rd_T54 l0 x16_1).f0), .string ((rd_T54 l0 x16_1).f1), .int .i64 ((rd_T54 l0 x16_1).f2), .int .i64 ((rd_T54 l0 x16_1).f3.f0), .int .i64 ((rd_T54 l0 x16_1).f3.f1), .string ((rd_T54 l0 x16_1).f3.f2), .bool ((rd_T54 l0 x16_1).f3.f3), .complex .f64 0 0, .int .i64 0]) ?_ 7 _ rfl; (with_reducible repeat (first | refine blk_drewN ?_ _ | refine blk_drew ?_ | refine blk_alloc ?_ _)); refine blk_put (cs := #[.int .i64 ((rd_T54 l0 x16_1).f0), .string ((rd_T54 l0 x16_1).f1), .int .i64 ((rd_T54 l0 x16_1).f2), .int .i64 ((rd_T54 l0 x16_1).f3.f0), .int .i64 ((rd_T54 l0 x16_1).f3.f1), .string ((rd_T54 l0 x16_1).f3.f2), .bool false, .complex .f64 0 0, .int .i64 0]) ?_ 6 _ rfl; (with_reducible repeat (first | refine blk_drewN ?_ _ | refine blk_drew ?_ | refine blk_alloc ?_ _)); refine blk_put (cs := #[.int .i64 ((rd_T54 l0 x16_1).f0), .string ((rd_T54 l0 x16_1).f1), .int .i64 ((rd_T54 l0 x16_1).f2), .int .i64 ((rd_T54 l0 x16_1).f3.f0), .int .i64 ((rd_T54 l0 x16_1).f3.f1), .string (⟨#[]⟩ : ByteArray), .bool false, .complex .f64 0 0, .int .i64 0]) ?_ 5 _ rfl; (with_reducible repeat (first | refine blk_drewN ?_ _ | refine blk_drew ?_ | refine blk_alloc ?_ _)); refine blk_put (cs := #[.int .i64 ((rd_T54 l0 x16_1).f0), .string ((rd_T54 l0 x16_1).f1), .int .i64 ((rd_T54 l0 x16_1).f2), .int .i64 ((rd_T54 l0 x16_1).f3.f0), .int .i64 0, .string (⟨#[]⟩ : ByteArray), .bool false, .complex .f64 0 0, .int .i64 0]) ?_ 4 _ rfl; (with_reducible repeat (first | refine blk_drewN ?_ _ | refine blk_drew ?_ | refine blk_alloc ?_ _)); refine blk_put (cs := #[.int .i64 ((rd_T54 l0 x16_1).f0), .string ((rd_T54 l0 x16_1).f1), .int .i64 ((rd_T54 l0 x16_1).f2), .int .i64 0, .int .i64 0, .string (⟨#[]⟩ : ByteArray), .bool false, .complex .f64 0 0, .int .i64 0]) ?_ 3 _ rfl; (with_reducible repeat (first | refine blk_drewN ?_ _ | refine blk_drew ?_ | refine blk_alloc ?_ _)); refine blk_put (cs := #[.int .i64 ((rd_T54 l0 x16_1).f0), .string ((rd_T54 l0 x16_1).f1), .int .i64 0, .int .i64 0, .int .i64 0, .string (⟨#[]⟩ : ByteArray), .bool false, .complex .f64 0 0, .int .i64 0]) ?_ 2 _ rfl; (with_reducible repeat (first | refine blk_drewN ?_ _ | refine blk_drew ?_ | refine blk_alloc ?_ _)); refine blk_put (cs := #[.int .i64 ((rd_T54 l0 x16_1).f0), .string (⟨#[]⟩ : ByteArray), .int .i64 0, .int .i64 0, .int .i64 0, .string (⟨#[]⟩ : ByteArray), .bool false, .complex .f64 0 0, .int .i64 0]) ?_ 1 _ rfl; (with_reducible repeat (first | refine blk_drewN ?_ _ | refine blk_drew ?_ | refine blk_alloc ?_ _)); refine blk_put (cs := #[.int .i64 0, .string (⟨#[]⟩ : ByteArray), .int .i64 0, .int .i64 0, .int .i64 0, .string (⟨#[]⟩ : ByteArray), .bool false, .complex .f64 0 0, .int .i64 0]) ?_ 0 _ rfl; (with_reducible repeat (first | refine blk_drewN ?_ _ | refine blk_drew ?_ | refine blk_alloc ?_ _)); exact BK284.out) hb); have n2_ := Aside0.mk (below_step (Bl) hb); clear HO_5; clear BK284; clear HB; have HO_5 := n0_; have BK284 := n1_; have HB := n2_; clear n0_ n1_ n2_; (try clear hb); (try clear hb2); (try clear hk); (try clear hi)) | ((with_reducible refine gate_builtin (b := .append) (xs := #[.tmp 39, .tmp 43]) rfl ?_); at_builtin; refine Kd.R_append k66 (w0 := w) w.heap.size rfl (.tmp 39) (.tmp 43) 64 66 (.agg #[(.string ⟨#[]⟩), (.int .i64 0)]) 24 rfl Try.underlying64 info66 rfl (by decide) (by omega) (.slice Ao25 x5_1.length co25) x5_1 (⟨t291, 2⟩ : S66) [.string t291, .int .i64 2] (fun _ => True) (fun _ => False) rfl rfl ?aP (fun _ hk => hk.elim) ?aF ?aO ?aB ?aS ?aL ?_; (case aP => exact k66_mkM _ _ _ (⟨t291, 2⟩ : S66)); (case aB => exact (Bl)); (case aF => exact (fun _ _ => trivial)); (case aO => exact (Rw HO_5.out)); (case aS => exact (below_size (Bl))); (case aL => have := LMc22.out; omega); intro v293 w27 ho hb hg hat; rw [← Ny292.out] at ho; have n0_ := Aside0.mk (blk_grown (g := gb284) (o := .cells #[.int .i64 ((rd_T54 l0 x16_1).f0), .string ((rd_T54 l0 x16_1).f1), .int .i64 ((rd_T54 l0 x16_1).f2), .int .i64 ((rd_T54 l0 x16_1).f3.f0), .int .i64 ((rd_T54 l0 x16_1).f3.f1), .string ((rd_T54 l0 x16_1).f3.f2), .bool ((rd_T54 l0 x16_1).f3.f3), .complex .f64 ((rd_T54 l0 x16_1).f3.f4).re ((rd_T54 l0 x16_1).f3.f4).im, .int .i64 ((rd_T54 l0 x16_1).f4)] 54 (0, 0)) (Bk BK284.out) hg (Kd.R_ne HO_5.out BK284.out (by decide))); have n1_ := Aside0.mk (hb); have n2_ := Aside0.mk (ho); clear BK284; clear HB; clear HO_5; have BK284 := n0_; have HB := n1_; have HO294 := n2_; clear n0_ n1_ n2_; clear ho hb hg hat))
           go_roundg k1
           case measure => have := HK1.out; omega
           case rel => exact ⟨(y292), (wrap64 (x16_1 + 1)), (by first | rfl | (simp; done) | (simp [*]; done)), H', ⟨by have := HK1.out; omega⟩, ⟨Rw HO294.out⟩, ⟨Bl⟩⟩
          ·rw [if_neg c22] at H
           exact absurd H (by simp)
         ·rw [if_neg c20] at H
          have c20b0 : (((rd_T54 l0 x16_1).f0) == 3) = false := beq_eq_false_iff_ne.mpr c20
          have c20b1 : (((rd_T54 l0 x16_1).f0) != 3) = true := bne_iff_ne.mpr c20
          by_cases c28 : ((rd_T54 l0 x16_1).f0) = 4
          ·rw [if_pos c28] at H
           have c28b0 : (((rd_T54 l0 x16_1).f0) == 4) = true := beq_iff_eq.mpr c28
           have c28b1 : (((rd_T54 l0 x16_1).f0) != 4) = false := bne_eq_false_iff_eq.mpr c28
           clear c28
           obtain ⟨ji29, hji29⟩ : ∃ j_ : Int, (wrap64 ((x5_1.length : Int) - 1)) = j_ := ⟨_, rfl⟩
           replace H : (if 0 ≤ (ji29) then (if (ji29) < (x5_1.length : Int) then ((pred_printed_within.f ((rd_T66 x5_1 (ji29)).f0) ((rd_T66 x5_1 (ji29)).f1) 2).bind fun t296 => (if 1 + t296.size ≤ 9223372036854775807 then (pred_Print.l0 k1 (x5_1.set ((ji29) : Int).toNat (⟨(⟨#[33]⟩ : ByteArray) ++ t296, 2⟩ : S66)) l0 (l0.length : Int) (wrap64 (x16_1 + 1))) else (none))) else (none)) else (none)) = some (r1, r2) := by first | (rw [hji29] at H; exact H) | (simp only [hji29] at H ⊢; exact H)
           have hji29w : (IntKind.i64.wrap ((x5_1.length : Int) - 1)) = ji29 := (i64_w _).trans hji29
           by_cases c30 : 0 ≤ (ji29)
           ·rw [if_pos c30] at H
            have c30b0 : decide (0 ≤ (ji29)) = true := decide_eq_true c30
            clear c30
            by_cases c31 : (ji29) < (x5_1.length : Int)
            ·rw [if_pos c31] at H
             have c31b0 : decide ((ji29) < (x5_1.length : Int)) = true := decide_eq_true c31
             clear c31
             replace H := Option.bind_eq_some_iff.mp H
             obtain ⟨t296, A320, H⟩ := H
             replace H : (if 1 + t296.size ≤ 9223372036854775807 then (pred_Print.l0 k1 (x5_1.set ((ji29) : Int).toNat (⟨(⟨#[33]⟩ : ByteArray) ++ t296, 2⟩ : S66)) l0 (l0.length : Int) (wrap64 (x16_1 + 1))) else (none)) = some (r1, r2) := H
             have A32 := Aside0.mk A320
             clear A320
             by_cases c33 : 1 + t296.size ≤ 9223372036854775807
             ·rw [if_pos c33] at H
              have c33b0 := eq_true c33
              have c33b1 : decide (1 + t296.size ≤ 9223372036854775807) = true := decide_eq_true c33
              try have c33b2 : (9223372036854775807 < 1 + t296.size) = False := eq_false (Nat.not_lt.2 c33)
              obtain ⟨y297, hy297⟩ : ∃ y_ : List (S66), y_ = (x5_1.set ((ji29) : Int).toNat (⟨(⟨#[33]⟩ : ByteArray) ++ t296, 2⟩ : S66)) := ⟨_, rfl⟩
              have ly297 : y297.length = x5_1.length := by rw [hy297, List.length_set]
              replace H : (pred_Print.l0 k1 y297 l0 (l0.length : Int) (wrap64 (x16_1 + 1))) = some (r1, r2) := by first | (rw [hy297]; with_reducible exact H) | (have H2_ := (Option.bind_some _ _).symm.trans H; rw [hy297]; with_reducible exact H2_) | (have H2_ := (Option.bind_some _ _).symm.trans H; with_reducible exact H2_) | with_reducible exact H | (rw [hy297]; exact H) | exact H
              have Ny297 := Aside0.mk hy297
              clear hy297
              have H' := Aside0.mk H
              clear H
              have p283 : 0 ≤ (x16_1 : Int) := of_decide_eq_true (As)
              have q283 : x16_1 < (l0.length : Int) := of_decide_eq_true (As)
              obtain ⟨ad283, e283, hx283_0, hx283_1, hx283_2, hx283_3, hx283_4, hx283_5, hx283_6, hx283_7, hx283_8⟩ := at_T54 HR0.out x16_1 p283 q283
              cases e283
              replace hx283_0 := (HB.out.cell (World.block_lt_of_cell? w _ hx283_0)).trans hx283_0
              replace hx283_1 := (HB.out.cell (World.block_lt_of_cell? w _ hx283_1)).trans hx283_1
              replace hx283_2 := (HB.out.cell (World.block_lt_of_cell? w _ hx283_2)).trans hx283_2
              replace hx283_3 := (HB.out.cell (World.block_lt_of_cell? w _ hx283_3)).trans hx283_3
              replace hx283_4 := (HB.out.cell (World.block_lt_of_cell? w _ hx283_4)).trans hx283_4
              replace hx283_5 := (HB.out.cell (World.block_lt_of_cell? w _ hx283_5)).trans hx283_5
              replace hx283_6 := (HB.out.cell (World.block_lt_of_cell? w _ hx283_6)).trans hx283_6
              replace hx283_7 := (HB.out.cell (World.block_lt_of_cell? w _ hx283_7)).trans hx283_7
              replace hx283_8 := (HB.out.cell (World.block_lt_of_cell? w _ hx283_8)).trans hx283_8
              replace p283 := eq_true p283
              replace q283 := eq_true q283
              go_wp2_with (first | ((with_reducible refine gate_dst (N := 7) rfl ?_); refine box_event ?hg (N := 7) ?hd (cs := #[.int .i64 0, .string (⟨#[]⟩ : ByteArray), .int .i64 0, .int .i64 0, .int .i64 0, .string (⟨#[]⟩ : ByteArray), .bool false, .complex .f64 0 0, .int .i64 0]) (t := 54) ?hr ?_; (case hd => rfl); (case hg => rfl); (case hr => first | (go_simp; done) | (go_simp; rfl)); intro gb284 hg w35 hbox hb; have n0_ := Aside0.mk (Kd.R_below (Rw HO_5.out) hb); have n1_ := Aside0.mk (below_step (Bl) hb); have n2_ := Aside0.mk (hbox); have n3_ := Aside0.mk ((by rw [hg]; exact (below_size (Bl)) : w.heap.size ≤ gb284)); have n4_ := Aside0.mk ((by rw [hg]; exact (below_size (Bl)) : w.heap.size ≤ gb284)); clear HO_5; clear HB; have HO_5 := n0_; have HB := n1_; have BK284 := n2_; have GW284 := n3_; have GE284 := n4_; clear n0_ n1_ n2_ n3_ n4_; clear hb hbox hg; obtain ⟨_, _, _, _, _, _, _, _, _⟩ := cz9 BK284.out; obtain ⟨_, _, _, _, _, _, _, _, _⟩ := fz9 BK284.out; obtain ⟨Ao37, co37, eo37⟩ := Kd.R_slice HO_5.out; subst eo37; have p295 : 0 ≤ ((ji29) : Int) := of_decide_eq_true (As); have q295 : (ji29) < (x5_1.length : Int) := of_decide_eq_true (As); obtain ⟨ad295, e295, hx295_0, hx295_1⟩ := at_T66 (Kd.R_reads' HO_5.out).2.2 (ji29) p295 q295; cases e295; have hn295_0 : ad295.block ≠ gb284 := Kd.own_blk (Kd.R_ne HO_5.out BK284.out (by decide)); have hn295_1 : ad295.block ≠ gb284 := Kd.own_blk (Kd.R_ne HO_5.out BK284.out (by decide)); have hn295_2 : ad295.block ≠ gb284 := Kd.own_blk (Kd.R_ne HO_5.out BK284.out (by decide)); have hn295_3 : ad295.block ≠ gb284 := Kd.own_blk (Kd.R_ne HO_5.out BK284.out (by decide)); have hn295_4 : ad295.block ≠ gb284 := Kd.own_blk (Kd.R_ne HO_5.out BK284.out (by decide)); have hn295_5 : ad295.block ≠ gb284 := Kd.own_blk (Kd.R_ne HO_5.out BK284.out (by decide)); have hn295_6 : ad295.block ≠ gb284 := Kd.own_blk (Kd.R_ne HO_5.out BK284.out (by decide)); have hn295_7 : ad295.block ≠ gb284 := Kd.own_blk (Kd.R_ne HO_5.out BK284.out (by decide)); have hn295_8 : ad295.block ≠ gb284 := Kd.own_blk (Kd.R_ne HO_5.out BK284.out (by decide)); replace hx295_0 := (cell_far (p := ⟨gb284, 0, none⟩) (by first | (rw [add_block]; exact hn295_0) | (show (Addr.add _ _).block ≠ _; rw [add_block]; exact hn295_0) | exact hn295_0) (.int .i64 ((rd_T54 l0 x16_1).f0))).trans hx295_0; replace hx295_1 := (cell_far (p := ⟨gb284, 0, none⟩) (by first | (rw [add_block]; exact hn295_0) | (show (Addr.add _ _).block ≠ _; rw [add_block]; exact hn295_0) | exact hn295_0) (.int .i64 ((rd_T54 l0 x16_1).f0))).trans hx295_1; replace hx295_0 := (cell_far (p := ⟨gb284, 1, none⟩) (by first | (rw [add_block]; exact hn295_1) | (show (Addr.add _ _).block ≠ _; rw [add_block]; exact hn295_1) | exact hn295_1) (.string ((rd_T54 l0 x16_1).f1))).trans hx295_0; replace hx295_1 := (cell_far (p := ⟨gb284, 1, none⟩) (by first | (rw [add_block]; exact hn295_1) | (show (Addr.add _ _).block ≠ _; rw [add_block]; exact hn295_1) | exact hn295_1) (.string ((rd_T54 l0 x16_1).f1))).trans hx295_1; replace hx295_0 := (cell_far (p := ⟨gb284, 2, none⟩) (by first | (rw [add_block]; exact hn295_2) | (show (Addr.add _ _).block ≠ _; rw [add_block]; exact hn295_2) | exact hn295_2) (.int .i64 ((rd_T54 l0 x16_1).f2))).trans hx295_0; replace hx295_1 := (cell_far (p := ⟨gb284, 2, none⟩) (by first | (rw [add_block]; exact hn295_2) | (show (Addr.add _ _).block ≠ _; rw [add_block]; exact hn295_2) | exact hn295_2) (.int .i64 ((rd_T54 l0 x16_1).f2))).trans hx295_1; replace hx295_0 := (cell_far (p := ⟨gb284, 3, none⟩) (by first | (rw [add_block]; exact hn295_3) | (show (Addr.add _ _).block ≠ _; rw [add_block]; exact hn295_3) | exact hn295_3) (.int .i64 ((rd_T54 l0 x16_1).f3.f0))).trans hx295_0; replace hx295_1 := (cell_far (p := ⟨gb284, 3, none⟩) (by first | (rw [add_block]; exact hn295_3) | (show (Addr.add _ _).block ≠ _; rw [add_block]; exact hn295_3) | exact hn295_3) (.int .i64 ((rd_T54 l0 x16_1).f3.f0))).trans hx295_1; replace hx295_0 := (cell_far (p := ⟨gb284, 4, none⟩) (by first | (rw [add_block]; exact hn295_4) | (show (Addr.add _ _).block ≠ _; rw [add_block]; exact hn295_4) | exact hn295_4) (.int .i64 ((rd_T54 l0 x16_1).f3.f1))).trans hx295_0; replace hx295_1 := (cell_far (p := ⟨gb284, 4, none⟩) (by first | (rw [add_block]; exact hn295_4) | (show (Addr.add _ _).block ≠ _; rw [add_block]; exact hn295_4) | exact hn295_4) (.int .i64 ((rd_T54 l0 x16_1).f3.f1))).trans hx295_1; replace hx295_0 := (cell_far (p := ⟨gb284, 5, none⟩) (by first | (rw [add_block]; exact hn295_5) | (show (Addr.add _ _).block ≠ _; rw [add_block]; exact hn295_5) | exact hn295_5) (.string ((rd_T54 l0 x16_1).f3.f2))).trans hx295_0; replace hx295_1 := (cell_far (p := ⟨gb284, 5, none⟩) (by first | (rw [add_block]; exact hn295_5) | (show (Addr.add _ _).block ≠ _; rw [add_block]; exact hn295_5) | exact hn295_5) (.string ((rd_T54 l0 x16_1).f3.f2))).trans hx295_1; replace hx295_0 := (cell_far (p := ⟨gb284, 6, none⟩) (by first | (rw [add_block]; exact hn295_6) | (show (Addr.add _ _).block ≠ _; rw [add_block]; exact hn295_6) | exact hn295_6) (.bool ((rd_T54 l0 x16_1).f3.f3))).trans hx295_0; replace hx295_1 := (cell_far (p := ⟨gb284, 6, none⟩) (by first | (rw [add_block]; exact hn295_6) | (show (Addr.add _ _).block ≠ _; rw [add_block]; exact hn295_6) | exact hn295_6) (.bool ((rd_T54 l0 x16_1).f3.f3))).trans hx295_1; replace hx295_0 := (cell_far (p := ⟨gb284, 7, none⟩) (by first | (rw [add_block]; exact hn295_7) | (show (Addr.add _ _).block ≠ _; rw [add_block]; exact hn295_7) | exact hn295_7) (.complex .f64 ((rd_T54 l0 x16_1).f3.f4).re ((rd_T54 l0 x16_1).f3.f4).im)).trans hx295_0; replace hx295_1 := (cell_far (p := ⟨gb284, 7, none⟩) (by first | (rw [add_block]; exact hn295_7) | (show (Addr.add _ _).block ≠ _; rw [add_block]; exact hn295_7) | exact hn295_7) (.complex .f64 ((rd_T54 l0 x16_1).f3.f4).re ((rd_T54 l0 x16_1).f3.f4).im)).trans hx295_1; replace hx295_0 := (cell_far (p := ⟨gb284, 8, none⟩) (by first | (rw [add_block]; exact hn295_8) | (show (Addr.add _ _).block ≠ _; rw [add_block]; exact hn295_8) | exact hn295_8) (.int .i64 ((rd_T54 l0 x16_1).f4))).trans hx295_0; replace hx295_1 := (cell_far (p := ⟨gb284, 8, none⟩) (by first | (rw [add_block]; exact hn295_8) | (show (Addr.add _ _).block ≠ _; rw [add_block]; exact hn295_8) | exact hn295_8) (.int .i64 ((rd_T54 l0 x16_1).f4))).trans hx295_1; clear hn295_0; clear hn295_1; clear hn295_2; clear hn295_3; clear hn295_4; clear hn295_5; clear hn295_6; clear hn295_7; clear hn295_8; replace p295 := eq_true p295; replace q295 := eq_true q295) | ((with_reducible refine gate_callee (f := 22) rfl ?_); refine goesL_ (some 53) rfl rfl Try.func22 (by kernel_rfl) rfl #[.agg #[.string ((rd_T66 x5_1 (ji29)).f0), .int .i64 ((rd_T66 x5_1 (ji29)).f1)], .int .i64 2] rfl (by (try simp only [List.map_toArray, List.map_cons, List.map_nil]); first | done | (simp only [hji29]; rfl) | rfl | (simp only [List.length_drop, List.length_take]; rfl)) ?_; (with_reducible refine (pred_printed_within.calls ((rd_T66 x5_1 (ji29)).f0) ((rd_T66 x5_1 (ji29)).f1) 2 t296 _ A32.out).mono ?_); rintro e w38 ⟨rfl, hb⟩; refine ⟨_, rfl, ?_⟩; have n0_ := Aside0.mk (Kd.R_below (by (with_reducible repeat (first | apply Kd.R_alloc | apply Kd.R_drewN | apply Kd.R_drew)); exact (Kd.R_mono (Kd.R_far (p := ⟨gb284, 8, none⟩) (Kd.R_far (p := ⟨gb284, 7, none⟩) (Kd.R_far (p := ⟨gb284, 6, none⟩) (Kd.R_far (p := ⟨gb284, 5, none⟩) (Kd.R_far (p := ⟨gb284, 4, none⟩) (Kd.R_far (p := ⟨gb284, 3, none⟩) (Kd.R_far (p := ⟨gb284, 2, none⟩) (Kd.R_far (p := ⟨gb284, 1, none⟩) (Kd.R_far (p := ⟨gb284, 0, none⟩) (Kd.R_types HO_5.out BK284.out (by decide)) (fun _ hk => hk.2) (.int .i64 ((rd_T54 l0 x16_1).f0))) (fun _ hk => hk.2) (.string ((rd_T54 l0 x16_1).f1))) (fun _ hk => hk.2) (.int .i64 ((rd_T54 l0 x16_1).f2))) (fun _ hk => hk.2) (.int .i64 ((rd_T54 l0 x16_1).f3.f0))) (fun _ hk => hk.2) (.int .i64 ((rd_T54 l0 x16_1).f3.f1))) (fun _ hk => hk.2) (.string ((rd_T54 l0 x16_1).f3.f2))) (fun _ hk => hk.2) (.bool ((rd_T54 l0 x16_1).f3.f3))) (fun _ hk => hk.2) (.complex .f64 ((rd_T54 l0 x16_1).f3.f4).re ((rd_T54 l0 x16_1).f3.f4).im)) (fun _ hk => hk.2) (.int .i64 ((rd_T54 l0 x16_1).f4))) (fun _ h_ => h_.1))) hb); have n1_ := Aside0.mk (blk_below (g := gb284) (o := .cells #[.int .i64 ((rd_T54 l0 x16_1).f0), .string ((rd_T54 l0 x16_1).f1), .int .i64 ((rd_T54 l0 x16_1).f2), .int .i64 ((rd_T54 l0 x16_1).f3.f0), .int .i64 ((rd_T54 l0 x16_1).f3.f1), .string ((rd_T54 l0 x16_1).f3.f2), .bool ((rd_T54 l0 x16_1).f3.f3), .complex .f64 ((rd_T54 l0 x16_1).f3.f4).re ((rd_T54 l0 x16_1).f3.f4).im, .int .i64 ((rd_T54 l0 x16_1).f4)] 54 (0, 0)) (by (with_reducible repeat (first | refine blk_drewN ?_ _ | refine blk_drew ?_ | refine blk_alloc ?_ _)); refine blk_put (cs := #[.int .i64 ((rd_T54 l0 x16_1).f0), .string ((rd_T54 l0 x16_1).f1), .int .i64 ((rd_T54 l0 x16_1).f2), .int .i64 ((rd_T54 l0 x16_1).f3.f0), .int .i64 ((rd_T54 l0 x16_1).f3.f1), .string ((rd_T54 l0 x16_1).f3.f2), .bool ((rd_T54 l0 x16_1).f3.f3), .complex .f64 ((rd_T54 l0 x16_1).f3.f4).re ((rd_T54 l0 x16_1).f3.f4).im, .int .i64 0]) ?_ 8 _ rfl; (with_reducible repeat (first | refine blk_drewN ?_ _ | refine blk_drew ?_ | refine blk_alloc ?_ _)); refine blk_put (cs := #[.int .i64 ((rd_T54 l0 x16_1).f0), .string ((rd_T54 l0 x16_1).f1), .int .i64 ((rd_T54 l0 x16_1).f2), .int .i64 ((rd_T54 l0 x16_1).f3.f0), .int .i64 ((rd_T54 l0 x16_1).f3.f1), .string ((rd_T54 l0 x16_1).f3.f2), .bool ((rd_T54 l0 x16_1).f3.f3), .complex .f64 0 0, .int .i64 0]) ?_ 7 _ rfl; (with_reducible repeat (first | refine blk_drewN ?_ _ | refine blk_drew ?_ | refine blk_alloc ?_ _)); refine blk_put (cs := #[.int .i64 ((rd_T54 l0 x16_1).f0), .string ((rd_T54 l0 x16_1).f1), .int .i64 ((rd_T54 l0 x16_1).f2), .int .i64 ((rd_T54 l0 x16_1).f3.f0), .int .i64 ((rd_T54 l0 x16_1).f3.f1), .string ((rd_T54 l0 x16_1).f3.f2), .bool false, .complex .f64 0 0, .int .i64 0]) ?_ 6 _ rfl; (with_reducible repeat (first | refine blk_drewN ?_ _ | refine blk_drew ?_ | refine blk_alloc ?_ _)); refine blk_put (cs := #[.int .i64 ((rd_T54 l0 x16_1).f0), .string ((rd_T54 l0 x16_1).f1), .int .i64 ((rd_T54 l0 x16_1).f2), .int .i64 ((rd_T54 l0 x16_1).f3.f0), .int .i64 ((rd_T54 l0 x16_1).f3.f1), .string (⟨#[]⟩ : ByteArray), .bool false, .complex .f64 0 0, .int .i64 0]) ?_ 5 _ rfl; (with_reducible repeat (first | refine blk_drewN ?_ _ | refine blk_drew ?_ | refine blk_alloc ?_ _)); refine blk_put (cs := #[.int .i64 ((rd_T54 l0 x16_1).f0), .string ((rd_T54 l0 x16_1).f1), .int .i64 ((rd_T54 l0 x16_1).f2), .int .i64 ((rd_T54 l0 x16_1).f3.f0), .int .i64 0, .string (⟨#[]⟩ : ByteArray), .bool false, .complex .f64 0 0, .int .i64 0]) ?_ 4 _ rfl; (with_reducible repeat (first | refine blk_drewN ?_ _ | refine blk_drew ?_ | refine blk_alloc ?_ _)); refine blk_put (cs := #[.int .i64 ((rd_T54 l0 x16_1).f0), .string ((rd_T54 l0 x16_1).f1), .int .i64 ((rd_T54 l0 x16_1).f2), .int .i64 0, .int .i64 0, .string (⟨#[]⟩ : ByteArray), .bool false, .complex .f64 0 0, .int .i64 0]) ?_ 3 _ rfl; (with_reducible repeat (first | refine blk_drewN ?_ _ | refine blk_drew ?_ | refine blk_alloc ?_ _)); refine blk_put (cs := #[.int .i64 ((rd_T54 l0 x16_1).f0), .string ((rd_T54 l0 x16_1).f1), .int .i64 0, .int .i64 0, .int .i64 0, .string (⟨#[]⟩ : ByteArray), .bool false, .complex .f64 0 0, .int .i64 0]) ?_ 2 _ rfl; (with_reducible repeat (first | refine blk_drewN ?_ _ | refine blk_drew ?_ | refine blk_alloc ?_ _)); refine blk_put (cs := #[.int .i64 ((rd_T54 l0 x16_1).f0), .string (⟨#[]⟩ : ByteArray), .int .i64 0, .int .i64 0, .int .i64 0, .string (⟨#[]⟩ : ByteArray), .bool false, .complex .f64 0 0, .int .i64 0]) ?_ 1 _ rfl; (with_reducible repeat (first | refine blk_drewN ?_ _ | refine blk_drew ?_ | refine blk_alloc ?_ _)); refine blk_put (cs := #[.int .i64 0, .string (⟨#[]⟩ : ByteArray), .int .i64 0, .int .i64 0, .int .i64 0, .string (⟨#[]⟩ : ByteArray), .bool false, .complex .f64 0 0, .int .i64 0]) ?_ 0 _ rfl; (with_reducible repeat (first | refine blk_drewN ?_ _ | refine blk_drew ?_ | refine blk_alloc ?_ _)); exact BK284.out) hb); have n2_ := Aside0.mk (below_step (Bl) hb); clear HO_5; clear BK284; clear HB; have HO_5 := n0_; have BK284 := n1_; have HB := n2_; clear n0_ n1_ n2_; (try clear hb); (try clear hb2); (try clear hk); (try clear hi); have p34 : 0 ≤ ((ji29) : Int) := of_decide_eq_true (As); have q34 : ((ji29) : Int) < ((x5_1.length : Int) : Int) := of_decide_eq_true (As); obtain ⟨go34, co34, eo34, gb34, gl34, cl34, HG34⟩ := Kd.R_form HO_5.out (by omega); (first | cases eo34 | (injection eo34 with ea_ en_ ec_; (first | subst ea_ | (injection ea_ with ea_; subst ea_)); subst ec_; clear en_)); have GB34 := Aside0.mk gb34; have GG34 := Aside0.mk HG34; clear gb34 gl34 HG34; (first | simp only [add_plain] at hx295_0 | skip); (first | simp only [add_plain] at hx295_1 | skip); obtain ⟨ce34, hcl34, hM34, hcc34, hfr34⟩ := Kd.R_elem HO_5.out z66 ((ji29) : Int) p34 q34; obtain rfl := k66_openM hM34; have hx34_0 : w38.cell? ⟨go34, ((ji29) : Int).toNat * 2, none⟩ = some (.string ((rd_T66 x5_1 (ji29)).f0)) := hcc34 0 _ rfl; have hx34_1 : w38.cell? ⟨go34, ((ji29) : Int).toNat * 2 + 1, none⟩ = some (.int .i64 ((rd_T66 x5_1 (ji29)).f1)) := hcc34 1 _ rfl; have hf34_0 : w38.frozen? ⟨go34, ((ji29) : Int).toNat * 2, none⟩ = false := hfr34 0; have hf34_1 : w38.frozen? ⟨go34, ((ji29) : Int).toNat * 2 + 1, none⟩ = false := hfr34 1; clear hcl34 hcc34 hfr34; (try clear hM34); replace p34 := eq_true p34; replace q34 := eq_true q34; have HX39 := Aside0.mk (show Kd.R k66 66 w38 w.heap.size (fun _ => True) (.slice (some ⟨go34, 0, none⟩) x5_1.length co37) x5_1 from (Rw HO_5.out)); obtain ⟨ce39, hcl39, hM39, hcc39, hfr39⟩ := Kd.R_elem HX39.out z66 ((ji29) : Int) (of_decide_eq_true (As)) (by have h_ : ((ji29) : Int) < ((x5_1.length : Int) : Int) := of_decide_eq_true (As); first | exact h_ | (have e_ := (Kd.R_reads' HO_5.out).1; omega) | simpa using h_); obtain rfl := k66_openM hM39; have HP39 := Kd.R_seg HX39.out ((ji29) : Int) (of_decide_eq_true (As)) (by have h_ : ((ji29) : Int) < ((x5_1.length : Int) : Int) := of_decide_eq_true (As); first | exact h_ | (have e_ := (Kd.R_reads' HO_5.out).1; omega) | simpa using h_) (seg := [.string ((⟨#[33]⟩ : ByteArray) ++ t296), .int .i64 2]) (j := 0) hcl39 hcc39 (show 2 ≤ 2 from by decide) (x' := (⟨(⟨#[33]⟩ : ByteArray) ++ t296, 2⟩ : S66)) (k66_mkM _ _ _ (⟨(⟨#[33]⟩ : ByteArray) ++ t296, 2⟩ : S66) ) (fun _ hk => hk); have hx39_0 := hcc39 0 _ rfl; (try simp only [show (k66).sz = 2 from rfl, Nat.mul_one, Nat.add_zero] at hx39_0); have hf39_0 := hfr39 0; (try simp only [show (k66).sz = 2 from rfl, Nat.mul_one, Nat.add_zero] at hf39_0); have hx39_1 := hcc39 1 _ rfl; (try simp only [show (k66).sz = 2 from rfl, Nat.mul_one, Nat.add_zero] at hx39_1); have hf39_1 := hfr39 1; (try simp only [show (k66).sz = 2 from rfl, Nat.mul_one, Nat.add_zero] at hf39_1); clear hcl39 hcc39 hfr39; (try clear hM39)) | ((with_reducible refine gate_store (t := 66) (p := 56) rfl ?_); refine store_event (t := 66) (p := 56) (v := ?vo_w40) (w1 := ((w38.setCell ⟨go34, ((ji29) : Int).toNat * 2, none⟩ (.string ((⟨#[33]⟩ : ByteArray) ++ t296))).setCell ⟨go34, ((ji29) : Int).toNat * 2 + 1, none⟩ (.int .i64 2))) ?hg ?ho ?hn ?hr ?_; (case ho => rfl); (case hg => rfl); (case hn => rfl); (case hr => first | (go_simp; done) | (go_simp; rfl)); intro w40 hw; have hg : w38.grownBy w40 (some go34) := (by rw [hw]; exact HP39.2); have hp_ : Kd.R k66 66 w40 w.heap.size (fun _ => True) (.slice (some ⟨go34, 0, none⟩) x5_1.length co37) y297 := (by rw [hw, Ny297.out]; exact HP39.1); clear HP39; have n0_ := Aside0.mk (hp_); have n1_ := Aside0.mk (blk_grown (g := gb284) (o := .cells #[.int .i64 ((rd_T54 l0 x16_1).f0), .string ((rd_T54 l0 x16_1).f1), .int .i64 ((rd_T54 l0 x16_1).f2), .int .i64 ((rd_T54 l0 x16_1).f3.f0), .int .i64 ((rd_T54 l0 x16_1).f3.f1), .string ((rd_T54 l0 x16_1).f3.f2), .bool ((rd_T54 l0 x16_1).f3.f3), .complex .f64 ((rd_T54 l0 x16_1).f3.f4).re ((rd_T54 l0 x16_1).f3.f4).im, .int .i64 ((rd_T54 l0 x16_1).f4)] 54 (0, 0)) (Bk BK284.out) hg (Kd.R_ne HO_5.out BK284.out (by decide))); have n2_ := Aside0.mk ((by rw [hw]; exact below_set (below_set (HB.out) GB34.out) GB34.out : Below w.heap.size w w40)); clear HO_5; clear BK284; clear HB; have HO_5 := n0_; have BK284 := n1_; have HB := n2_; clear n0_ n1_ n2_; clear hg hw hp_))
              go_roundg k1
              case measure => have := HK1.out; omega
              case rel => exact ⟨(y297), (wrap64 (x16_1 + 1)), (by first | rfl | (simp; done) | (simp [*]; done)), H', ⟨by have := HK1.out; omega⟩, ⟨Rw HO_5.out⟩, ⟨Bl⟩⟩
             ·rw [if_neg c33] at H
              exact absurd H (by simp)
            ·rw [if_neg c31] at H
             exact absurd H (by simp)
           ·rw [if_neg c30] at H
            exact absurd H (by simp)
          ·rw [if_neg c28] at H
           have c28b0 : (((rd_T54 l0 x16_1).f0) == 4) = false := beq_eq_false_iff_ne.mpr c28
           have c28b1 : (((rd_T54 l0 x16_1).f0) != 4) = true := bne_iff_ne.mpr c28
           by_cases c41 : ((rd_T54 l0 x16_1).f0) = 5
           ·rw [if_pos c41] at H
            have c41b0 : (((rd_T54 l0 x16_1).f0) == 5) = true := beq_iff_eq.mpr c41
            have c41b1 : (((rd_T54 l0 x16_1).f0) != 5) = false := bne_eq_false_iff_eq.mpr c41
            clear c41
            obtain ⟨ji42, hji42⟩ : ∃ j_ : Int, (wrap64 ((wrap64 ((x5_1.length : Int) - 1)) - 1)) = j_ := ⟨_, rfl⟩
            replace H : (if 0 ≤ (ji42) then (if (ji42) < (x5_1.length : Int) then ((pred_printed_within.f ((rd_T66 x5_1 (ji42)).f0) ((rd_T66 x5_1 (ji42)).f1) 1).bind fun t299 => (if t299.size + 3 ≤ 9223372036854775807 then (if 0 ≤ (wrap64 ((x5_1.length : Int) - 1)) then (if (wrap64 ((x5_1.length : Int) - 1)) < (x5_1.length : Int) then ((pred_printed_within.f ((rd_T66 x5_1 (wrap64 ((x5_1.length : Int) - 1))).f0) ((rd_T66 x5_1 (wrap64 ((x5_1.length : Int) - 1))).f1) 2).bind fun t301 => (if (t299 ++ (⟨#[32, 38, 32]⟩ : ByteArray)).size + t301.size ≤ 9223372036854775807 then (if (wrap64 ((x5_1.length : Int) - 1)) ≤ (x5_1.length : Int) then (pred_Print.l0 k1 ((x5_1.set ((ji42) : Int).toNat (⟨(t299 ++ (⟨#[32, 38, 32]⟩ : ByteArray)) ++ t301, 1⟩ : S66)).take ((wrap64 ((x5_1.length : Int) - 1)) : Int).toNat) l0 (l0.length : Int) (wrap64 (x16_1 + 1))) else (none)) else (none))) else (none)) else (none)) else (none))) else (none)) else (none)) = some (r1, r2) := by first | (rw [hji42] at H; exact H) | (simp only [hji42] at H ⊢; exact H)
            have hji42w : (IntKind.i64.wrap ((wrap64 ((x5_1.length : Int) - 1)) - 1)) = ji42 := (i64_w _).trans hji42
            by_cases c43 : 0 ≤ (ji42)
            ·rw [if_pos c43] at H
             have c43b0 : decide (0 ≤ (ji42)) = true := decide_eq_true c43
             clear c43
             by_cases c44 : (ji42) < (x5_1.length : Int)
             ·rw [if_pos c44] at H
              have c44b0 : decide ((ji42) < (x5_1.length : Int)) = true := decide_eq_true c44
              clear c44
              replace H := Option.bind_eq_some_iff.mp H
              obtain ⟨t299, A450, H⟩ := H
              replace H : (if t299.size + 3 ≤ 9223372036854775807 then (if 0 ≤ (wrap64 ((x5_1.length : Int) - 1)) then (if (wrap64 ((x5_1.length : Int) - 1)) < (x5_1.length : Int) then ((pred_printed_within.f ((rd_T66 x5_1 (wrap64 ((x5_1.length : Int) - 1))).f0) ((rd_T66 x5_1 (wrap64 ((x5_1.length : Int) - 1))).f1) 2).bind fun t301 => (if (t299 ++ (⟨#[32, 38, 32]⟩ : ByteArray)).size + t301.size ≤ 9223372036854775807 then (if (wrap64 ((x5_1.length : Int) - 1)) ≤ (x5_1.length : Int) then (pred_Print.l0 k1 ((x5_1.set ((ji42) : Int).toNat (⟨(t299 ++ (⟨#[32, 38, 32]⟩ : ByteArray)) ++ t301, 1⟩ : S66)).take ((wrap64 ((x5_1.length : Int) - 1)) : Int).toNat) l0 (l0.length : Int) (wrap64 (x16_1 + 1))) else (none)) else (none))) else (none)) else (none)) else (none)) = some (r1, r2) := H
              have A45 := Aside0.mk A450
              clear A450
              by_cases c46 : t299.size + 3 ≤ 9223372036854775807
              ·rw [if_pos c46] at H
               have c46b0 := eq_true c46
               have c46b1 : decide (t299.size + 3 ≤ 9223372036854775807) = true := decide_eq_true c46
               try have c46b2 : (9223372036854775807 < t299.size + 3) = False := eq_false (Nat.not_lt.2 c46)
               obtain ⟨ji47, hji47⟩ : ∃ j_ : Int, (wrap64 ((x5_1.length : Int) - 1)) = j_ := ⟨_, rfl⟩
               replace H : (if 0 ≤ (ji47) then (if (ji47) < (x5_1.length : Int) then ((pred_printed_within.f ((rd_T66 x5_1 (ji47)).f0) ((rd_T66 x5_1 (ji47)).f1) 2).bind fun t301 => (if (t299 ++ (⟨#[32, 38, 32]⟩ : ByteArray)).size + t301.size ≤ 9223372036854775807 then (if (ji47) ≤ (x5_1.length : Int) then (pred_Print.l0 k1 ((x5_1.set ((ji42) : Int).toNat (⟨(t299 ++ (⟨#[32, 38, 32]⟩ : ByteArray)) ++ t301, 1⟩ : S66)).take ((ji47) : Int).toNat) l0 (l0.length : Int) (wrap64 (x16_1 + 1))) else (none)) else (none))) else (none)) else (none)) = some (r1, r2) := by first | (rw [hji47] at H; exact H) | (simp only [hji47] at H ⊢; exact H)
               (try rw [hji47] at A45)
               have hji47w : (IntKind.i64.wrap ((x5_1.length : Int) - 1)) = ji47 := (i64_w _).trans hji47
               have hji42x : (wrap64 (ji47 - 1)) = ji42 := by rw [← hji47]; exact hji42
               have hji42y : (IntKind.i64.wrap (ji47 - 1)) = ji42 := (i64_w _).trans hji42x
               by_cases c48 : 0 ≤ (ji47)
               ·rw [if_pos c48] at H
                have c48b0 : decide (0 ≤ (ji47)) = true := decide_eq_true c48
                clear c48
                by_cases c49 : (ji47) < (x5_1.length : Int)
                ·rw [if_pos c49] at H
                 have c49b0 : decide ((ji47) < (x5_1.length : Int)) = true := decide_eq_true c49
                 clear c49
                 replace H := Option.bind_eq_some_iff.mp H
                 obtain ⟨t301, A500, H⟩ := H
                 replace H : (if (t299 ++ (⟨#[32, 38, 32]⟩ : ByteArray)).size + t301.size ≤ 9223372036854775807 then (if (ji47) ≤ (x5_1.length : Int) then (pred_Print.l0 k1 ((x5_1.set ((ji42) : Int).toNat (⟨(t299 ++ (⟨#[32, 38, 32]⟩ : ByteArray)) ++ t301, 1⟩ : S66)).take ((ji47) : Int).toNat) l0 (l0.length : Int) (wrap64 (x16_1 + 1))) else (none)) else (none)) = some (r1, r2) := H
                 have A50 := Aside0.mk A500
                 clear A500
                 by_cases c51 : (t299 ++ (⟨#[32, 38, 32]⟩ : ByteArray)).size + t301.size ≤ 9223372036854775807
                 ·rw [if_pos c51] at H
                  have c51b0 := eq_true c51
                  have c51b1 : decide ((t299 ++ (⟨#[32, 38, 32]⟩ : ByteArray)).size + t301.size ≤ 9223372036854775807) = true := decide_eq_true c51
                  try have c51b2 : (9223372036854775807 < (t299 ++ (⟨#[32, 38, 32]⟩ : ByteArray)).size + t301.size) = False := eq_false (Nat.not_lt.2 c51)
                  have c51b3 : (9223372036854775807 < t299.size + 3 + t301.size) = False := eq_false (Nat.not_lt.2 (by have h_ := c51; simp only [ByteArray.size_append] at h_; exact h_))
                  obtain ⟨y302, hy302⟩ : ∃ y_ : List (S66), y_ = (x5_1.set ((ji42) : Int).toNat (⟨(t299 ++ (⟨#[32, 38, 32]⟩ : ByteArray)) ++ t301, 1⟩ : S66)) := ⟨_, rfl⟩
                  have ly302 : y302.length = x5_1.length := by rw [hy302, List.length_set]
                  replace H : (if (ji47) ≤ (x5_1.length : Int) then (pred_Print.l0 k1 (y302.take ((ji47) : Int).toNat) l0 (l0.length : Int) (wrap64 (x16_1 + 1))) else (none)) = some (r1, r2) := by first | (rw [hy302]; with_reducible exact H) | (have H2_ := (Option.bind_some _ _).symm.trans H; rw [hy302]; with_reducible exact H2_) | (have H2_ := (Option.bind_some _ _).symm.trans H; with_reducible exact H2_) | with_reducible exact H | (rw [hy302]; exact H) | exact H
                  have Ny302 := Aside0.mk hy302
                  clear hy302
                  by_cases c53 : (ji47) ≤ (x5_1.length : Int)
                  ·rw [if_pos c53] at H
                   have c53b0 := eq_true c53
                   have c53b1 : decide ((ji47) ≤ (x5_1.length : Int)) = true := decide_eq_true c53
                   clear c53
                   obtain ⟨y303, hy303⟩ : ∃ y_ : List (S66), y_ = (y302.take ((ji47) : Int).toNat) := ⟨_, rfl⟩
                   replace H : (pred_Print.l0 k1 y303 l0 (l0.length : Int) (wrap64 (x16_1 + 1))) = some (r1, r2) := by first | (rw [hy303]; with_reducible exact H) | (have H2_ := (Option.bind_some _ _).symm.trans H; rw [hy303]; with_reducible exact H2_) | (have H2_ := (Option.bind_some _ _).symm.trans H; with_reducible exact H2_) | with_reducible exact H | (rw [hy303]; exact H) | exact H
                   have Ny303 := Aside0.mk hy303
                   clear hy303
                   have H' := Aside0.mk H
                   clear H
                   have p283 : 0 ≤ (x16_1 : Int) := of_decide_eq_true (As)
                   have q283 : x16_1 < (l0.length : Int) := of_decide_eq_true (As)
                   obtain ⟨ad283, e283, hx283_0, hx283_1, hx283_2, hx283_3, hx283_4, hx283_5, hx283_6, hx283_7, hx283_8⟩ := at_T54 HR0.out x16_1 p283 q283
                   cases e283
                   replace hx283_0 := (HB.out.cell (World.block_lt_of_cell? w _ hx283_0)).trans hx283_0
                   replace hx283_1 := (HB.out.cell (World.block_lt_of_cell? w _ hx283_1)).trans hx283_1
                   replace hx283_2 := (HB.out.cell (World.block_lt_of_cell? w _ hx283_2)).trans hx283_2
                   replace hx283_3 := (HB.out.cell (World.block_lt_of_cell? w _ hx283_3)).trans hx283_3
                   replace hx283_4 := (HB.out.cell (World.block_lt_of_cell? w _ hx283_4)).trans hx283_4
                   replace hx283_5 := (HB.out.cell (World.block_lt_of_cell? w _ hx283_5)).trans hx283_5
                   replace hx283_6 := (HB.out.cell (World.block_lt_of_cell? w _ hx283_6)).trans hx283_6
                   replace hx283_7 := (HB.out.cell (World.block_lt_of_cell? w _ hx283_7)).trans hx283_7
                   replace hx283_8 := (HB.out.cell (World.block_lt_of_cell? w _ hx283_8)).trans hx283_8
                   replace p283 := eq_true p283
                   replace q283 := eq_true q283
                   try go_wp2_with (first | ((with_reducible refine gate_dst (N := 7) rfl ?_); refine box_event ?hg (N := 7) ?hd (cs := #[.int .i64 0, .string (⟨#[]⟩ : ByteArray), .int .i64 0, .int .i64 0, .int .i64 0, .string (⟨#[]⟩ : ByteArray), .bool false, .complex .f64 0 0, .int .i64 0]) (t := 54) ?hr ?_; (case hd => rfl); (case hg => rfl); (case hr => first | (go_simp; done) | (go_simp; rfl)); intro gb284 hg w54 hbox hb; have n0_ := Aside0.mk (Kd.R_below (Rw HO_5.out) hb); have n1_ := Aside0.mk (below_step (Bl) hb); have n2_ := Aside0.mk (hbox); have n3_ := Aside0.mk ((by rw [hg]; exact (below_size (Bl)) : w.heap.size ≤ gb284)); have n4_ := Aside0.mk ((by rw [hg]; exact (below_size (Bl)) : w.heap.size ≤ gb284)); clear HO_5; clear HB; have HO_5 := n0_; have HB := n1_; have BK284 := n2_; have GW284 := n3_; have GE284 := n4_; clear n0_ n1_ n2_ n3_ n4_; clear hb hbox hg; obtain ⟨_, _, _, _, _, _, _, _, _⟩ := cz9 BK284.out; obtain ⟨_, _, _, _, _, _, _, _, _⟩ := fz9 BK284.out; obtain ⟨Ao56, co56, eo56⟩ := Kd.R_slice HO_5.out; subst eo56))
                   have n0_ : Aside0 (Kd.R k66 66 (((((((((w54.setCell ⟨gb284, 0, none⟩ (.int .i64 ((rd_T54 l0 x16_1).f0))).setCell ⟨gb284, 1, none⟩ (.string ((rd_T54 l0 x16_1).f1))).setCell ⟨gb284, 2, none⟩ (.int .i64 ((rd_T54 l0 x16_1).f2))).setCell ⟨gb284, 3, none⟩ (.int .i64 ((rd_T54 l0 x16_1).f3.f0))).setCell ⟨gb284, 4, none⟩ (.int .i64 ((rd_T54 l0 x16_1).f3.f1))).setCell ⟨gb284, 5, none⟩ (.string ((rd_T54 l0 x16_1).f3.f2))).setCell ⟨gb284, 6, none⟩ (.bool ((rd_T54 l0 x16_1).f3.f3))).setCell ⟨gb284, 7, none⟩ (.complex .f64 ((rd_T54 l0 x16_1).f3.f4).re ((rd_T54 l0 x16_1).f3.f4).im)).setCell ⟨gb284, 8, none⟩ (.int .i64 ((rd_T54 l0 x16_1).f4))) w.heap.size (fun _ => True) (.slice Ao56 x5_1.length co56) x5_1) := ⟨by (with_reducible repeat (first | apply Kd.R_alloc | apply Kd.R_drewN | apply Kd.R_drew)); exact Kd.R_mono (Kd.R_far (p := ⟨gb284, 8, none⟩) (Kd.R_far (p := ⟨gb284, 7, none⟩) (Kd.R_far (p := ⟨gb284, 6, none⟩) (Kd.R_far (p := ⟨gb284, 5, none⟩) (Kd.R_far (p := ⟨gb284, 4, none⟩) (Kd.R_far (p := ⟨gb284, 3, none⟩) (Kd.R_far (p := ⟨gb284, 2, none⟩) (Kd.R_far (p := ⟨gb284, 1, none⟩) (Kd.R_far (p := ⟨gb284, 0, none⟩) (Kd.R_types HO_5.out BK284.out (by decide)) (fun _ hk => hk.2) (.int .i64 ((rd_T54 l0 x16_1).f0))) (fun _ hk => hk.2) (.string ((rd_T54 l0 x16_1).f1))) (fun _ hk => hk.2) (.int .i64 ((rd_T54 l0 x16_1).f2))) (fun _ hk => hk.2) (.int .i64 ((rd_T54 l0 x16_1).f3.f0))) (fun _ hk => hk.2) (.int .i64 ((rd_T54 l0 x16_1).f3.f1))) (fun _ hk => hk.2) (.string ((rd_T54 l0 x16_1).f3.f2))) (fun _ hk => hk.2) (.bool ((rd_T54 l0 x16_1).f3.f3))) (fun _ hk => hk.2) (.complex .f64 ((rd_T54 l0 x16_1).f3.f4).re ((rd_T54 l0 x16_1).f3.f4).im)) (fun _ hk => hk.2) (.int .i64 ((rd_T54 l0 x16_1).f4))) (fun _ hk => trivial)⟩
                   have n1_ : Aside0 ((((((((((w54.setCell ⟨gb284, 0, none⟩ (.int .i64 ((rd_T54 l0 x16_1).f0))).setCell ⟨gb284, 1, none⟩ (.string ((rd_T54 l0 x16_1).f1))).setCell ⟨gb284, 2, none⟩ (.int .i64 ((rd_T54 l0 x16_1).f2))).setCell ⟨gb284, 3, none⟩ (.int .i64 ((rd_T54 l0 x16_1).f3.f0))).setCell ⟨gb284, 4, none⟩ (.int .i64 ((rd_T54 l0 x16_1).f3.f1))).setCell ⟨gb284, 5, none⟩ (.string ((rd_T54 l0 x16_1).f3.f2))).setCell ⟨gb284, 6, none⟩ (.bool ((rd_T54 l0 x16_1).f3.f3))).setCell ⟨gb284, 7, none⟩ (.complex .f64 ((rd_T54 l0 x16_1).f3.f4).re ((rd_T54 l0 x16_1).f3.f4).im)).setCell ⟨gb284, 8, none⟩ (.int .i64 ((rd_T54 l0 x16_1).f4))).heap[gb284]? = some (.cells #[.int .i64 ((rd_T54 l0 x16_1).f0), .string ((rd_T54 l0 x16_1).f1), .int .i64 ((rd_T54 l0 x16_1).f2), .int .i64 ((rd_T54 l0 x16_1).f3.f0), .int .i64 ((rd_T54 l0 x16_1).f3.f1), .string ((rd_T54 l0 x16_1).f3.f2), .bool ((rd_T54 l0 x16_1).f3.f3), .complex .f64 ((rd_T54 l0 x16_1).f3.f4).re ((rd_T54 l0 x16_1).f3.f4).im, .int .i64 ((rd_T54 l0 x16_1).f4)] 54 (0, 0))) := ⟨by (with_reducible repeat (first | refine blk_drewN ?_ _ | refine blk_drew ?_ | refine blk_alloc ?_ _)); refine blk_put (cs := #[.int .i64 ((rd_T54 l0 x16_1).f0), .string ((rd_T54 l0 x16_1).f1), .int .i64 ((rd_T54 l0 x16_1).f2), .int .i64 ((rd_T54 l0 x16_1).f3.f0), .int .i64 ((rd_T54 l0 x16_1).f3.f1), .string ((rd_T54 l0 x16_1).f3.f2), .bool ((rd_T54 l0 x16_1).f3.f3), .complex .f64 ((rd_T54 l0 x16_1).f3.f4).re ((rd_T54 l0 x16_1).f3.f4).im, .int .i64 0]) ?_ 8 _ rfl; (with_reducible repeat (first | refine blk_drewN ?_ _ | refine blk_drew ?_ | refine blk_alloc ?_ _)); refine blk_put (cs := #[.int .i64 ((rd_T54 l0 x16_1).f0), .string ((rd_T54 l0 x16_1).f1), .int .i64 ((rd_T54 l0 x16_1).f2), .int .i64 ((rd_T54 l0 x16_1).f3.f0), .int .i64 ((rd_T54 l0 x16_1).f3.f1), .string ((rd_T54 l0 x16_1).f3.f2), .bool ((rd_T54 l0 x16_1).f3.f3), .complex .f64 0 0, .int .i64 0]) ?_ 7 _ rfl; (with_reducible repeat (first | refine blk_drewN ?_ _ | refine blk_drew ?_ | refine blk_alloc ?_ _)); refine blk_put (cs := #[.int .i64 ((rd_T54 l0 x16_1).f0), .string ((rd_T54 l0 x16_1).f1), .int .i64 ((rd_T54 l0 x16_1).f2), .int .i64 ((rd_T54 l0 x16_1).f3.f0), .int .i64 ((rd_T54 l0 x16_1).f3.f1), .string ((rd_T54 l0 x16_1).f3.f2), .bool false, .complex .f64 0 0, .int .i64 0]) ?_ 6 _ rfl; (with_reducible repeat (first | refine blk_drewN ?_ _ | refine blk_drew ?_ | refine blk_alloc ?_ _)); refine blk_put (cs := #[.int .i64 ((rd_T54 l0 x16_1).f0), .string ((rd_T54 l0 x16_1).f1), .int .i64 ((rd_T54 l0 x16_1).f2), .int .i64 ((rd_T54 l0 x16_1).f3.f0), .int .i64 ((rd_T54 l0 x16_1).f3.f1), .string (⟨#[]⟩ : ByteArray), .bool false, .complex .f64 0 0, .int .i64 0]) ?_ 5 _ rfl; (with_reducible repeat (first | refine blk_drewN ?_ _ | refine blk_drew ?_ | refine blk_alloc ?_ _)); refine blk_put (cs := #[.int .i64 ((rd_T54 l0 x16_1).f0), .string ((rd_T54 l0 x16_1).f1), .int .i64 ((rd_T54 l0 x16_1).f2), .int .i64 ((rd_T54 l0 x16_1).f3.f0), .int .i64 0, .string (⟨#[]⟩ : ByteArray), .bool false, .complex .f64 0 0, .int .i64 0]) ?_ 4 _ rfl; (with_reducible repeat (first | refine blk_drewN ?_ _ | refine blk_drew ?_ | refine blk_alloc ?_ _)); refine blk_put (cs := #[.int .i64 ((rd_T54 l0 x16_1).f0), .string ((rd_T54 l0 x16_1).f1), .int .i64 ((rd_T54 l0 x16_1).f2), .int .i64 0, .int .i64 0, .string (⟨#[]⟩ : ByteArray), .bool false, .complex .f64 0 0, .int .i64 0]) ?_ 3 _ rfl; (with_reducible repeat (first | refine blk_drewN ?_ _ | refine blk_drew ?_ | refine blk_alloc ?_ _)); refine blk_put (cs := #[.int .i64 ((rd_T54 l0 x16_1).f0), .string ((rd_T54 l0 x16_1).f1), .int .i64 0, .int .i64 0, .int .i64 0, .string (⟨#[]⟩ : ByteArray), .bool false, .complex .f64 0 0, .int .i64 0]) ?_ 2 _ rfl; (with_reducible repeat (first | refine blk_drewN ?_ _ | refine blk_drew ?_ | refine blk_alloc ?_ _)); refine blk_put (cs := #[.int .i64 ((rd_T54 l0 x16_1).f0), .string (⟨#[]⟩ : ByteArray), .int .i64 0, .int .i64 0, .int .i64 0, .string (⟨#[]⟩ : ByteArray), .bool false, .complex .f64 0 0, .int .i64 0]) ?_ 1 _ rfl; (with_reducible repeat (first | refine blk_drewN ?_ _ | refine blk_drew ?_ | refine blk_alloc ?_ _)); refine blk_put (cs := #[.int .i64 0, .string (⟨#[]⟩ : ByteArray), .int .i64 0, .int .i64 0, .int .i64 0, .string (⟨#[]⟩ : ByteArray), .bool false, .complex .f64 0 0, .int .i64 0]) ?_ 0 _ rfl; (with_reducible repeat (first | refine blk_drewN ?_ _ | refine blk_drew ?_ | refine blk_alloc ?_ _)); exact BK284.out⟩
                   have n2_ : Aside0 (Below w.heap.size w (((((((((w54.setCell ⟨gb284, 0, none⟩ (.int .i64 ((rd_T54 l0 x16_1).f0))).setCell ⟨gb284, 1, none⟩ (.string ((rd_T54 l0 x16_1).f1))).setCell ⟨gb284, 2, none⟩ (.int .i64 ((rd_T54 l0 x16_1).f2))).setCell ⟨gb284, 3, none⟩ (.int .i64 ((rd_T54 l0 x16_1).f3.f0))).setCell ⟨gb284, 4, none⟩ (.int .i64 ((rd_T54 l0 x16_1).f3.f1))).setCell ⟨gb284, 5, none⟩ (.string ((rd_T54 l0 x16_1).f3.f2))).setCell ⟨gb284, 6, none⟩ (.bool ((rd_T54 l0 x16_1).f3.f3))).setCell ⟨gb284, 7, none⟩ (.complex .f64 ((rd_T54 l0 x16_1).f3.f4).re ((rd_T54 l0 x16_1).f3.f4).im)).setCell ⟨gb284, 8, none⟩ (.int .i64 ((rd_T54 l0 x16_1).f4)))) := ⟨Bl⟩
                   (try clear HO_5)
                   (try clear BK284)
                   (try clear HB)
                   generalize (((((((((w54.setCell ⟨gb284, 0, none⟩ (.int .i64 ((rd_T54 l0 x16_1).f0))).setCell ⟨gb284, 1, none⟩ (.string ((rd_T54 l0 x16_1).f1))).setCell ⟨gb284, 2, none⟩ (.int .i64 ((rd_T54 l0 x16_1).f2))).setCell ⟨gb284, 3, none⟩ (.int .i64 ((rd_T54 l0 x16_1).f3.f0))).setCell ⟨gb284, 4, none⟩ (.int .i64 ((rd_T54 l0 x16_1).f3.f1))).setCell ⟨gb284, 5, none⟩ (.string ((rd_T54 l0 x16_1).f3.f2))).setCell ⟨gb284, 6, none⟩ (.bool ((rd_T54 l0 x16_1).f3.f3))).setCell ⟨gb284, 7, none⟩ (.complex .f64 ((rd_T54 l0 x16_1).f3.f4).re ((rd_T54 l0 x16_1).f3.f4).im)).setCell ⟨gb284, 8, none⟩ (.int .i64 ((rd_T54 l0 x16_1).f4))) = w57 at n0_ n1_ n2_ ⊢
                   have HO_5 := n0_
                   have BK284 := n1_
                   have HB := n2_
                   clear n0_ n1_ n2_
                   have n0_ := Aside0.mk (Kd.R_drew HO_5.out)
                   have n1_ := Aside0.mk (blk_drew BK284.out)
                   have n2_ := Aside0.mk (below_drew1 HB.out)
                   clear HO_5
                   clear BK284
                   clear HB
                   have HO_5 := n0_
                   have BK284 := n1_
                   have HB := n2_
                   clear n0_ n1_ n2_
                   have p298 : 0 ≤ ((ji42) : Int) := of_decide_eq_true (As)
                   have q298 : (ji42) < (x5_1.length : Int) := of_decide_eq_true (As)
                   obtain ⟨ad298, e298, hx298_0, hx298_1⟩ := at_T66 (Kd.R_reads' HO_5.out).2.2 (ji42) p298 q298
                   cases e298
                   replace p298 := eq_true p298
                   replace q298 := eq_true q298
                   have p300 : 0 ≤ ((ji47) : Int) := of_decide_eq_true (As)
                   have q300 : (ji47) < (x5_1.length : Int) := of_decide_eq_true (As)
                   obtain ⟨ad300, e300, hx300_0, hx300_1⟩ := at_T66 (Kd.R_reads' HO_5.out).2.2 (ji47) p300 q300
                   obtain rfl : ad298 = ad300 := (by injection e300)
                   replace p300 := eq_true p300
                   replace q300 := eq_true q300
                   refine start_ (n := 19) (S := fun w' => w'.cell? (ad298.add (((ji42)).toNat * 2)) = some (.string ((rd_T66 x5_1 (ji42)).f0)) ∧ w'.cell? ⟨(ad298.add (((ji42)).toNat * 2)).block, (ad298.add (((ji42)).toNat * 2)).off + 1, none⟩ = some (.int .i64 ((rd_T66 x5_1 (ji42)).f1)) ∧ w'.cell? (ad298.add (((ji47)).toNat * 2)) = some (.string ((rd_T66 x5_1 (ji47)).f0)) ∧ w'.cell? ⟨(ad298.add (((ji47)).toNat * 2)).block, (ad298.add (((ji47)).toNat * 2)).off + 1, none⟩ = some (.int .i64 ((rd_T66 x5_1 (ji47)).f1))) (ds := [18]) #[false, false, false, false, false, false, false, false, false, false, false, false, false, false, false, false, false, false, false] (by kernel_rfl) rfl rfl ⟨hx298_0, hx298_1, hx300_0, hx300_1⟩ (fun hHeld => ?_); refine with_tabW pred_Print.tab19 pred_Print.bits19 (fun HT_ HW_ => ?_)
                   generalize w57.drew = w58 at HO_5 BK284 HB hx298_0 hx298_1 hx300_0 hx300_1 hHeld ⊢
                   refine pure_ (i := 0) (N := some 59) (v := ?_) (a' := ?_) #[true, false, false, false, false, false, false, false, false, false, false, false, false, false, false, false, false, false, false] rfl rfl (any_of HT_.out (by kernel_rfl)) (fun _ _ _ h => h) (Or.inl ⟨by rfl, ?_⟩) ?_ ?_
                   rotate_left
                   ·intro w'
                    go_simp
                    with_reducible rfl
                   rotate_left
                   ·simp only [Act.put, List.setIfInBounds_toArray, List.set_cons_zero, List.set_cons_succ, i64_w, i32_w]
                    rfl
                   refine pure_ (i := 1) (N := some 60) (v := ?_) (a' := ?_) #[true, true, false, false, false, false, false, false, false, false, false, false, false, false, false, false, false, false, false] rfl rfl (any_of HT_.out (by kernel_rfl)) (fun _ _ _ h => h) (Or.inl ⟨by rfl, ?_⟩) ?_ ?_
                   rotate_left
                   ·intro w'
                    go_simp
                    with_reducible rfl
                   rotate_left
                   ·simp only [Act.put, List.setIfInBounds_toArray, List.set_cons_zero, List.set_cons_succ, i64_w, i32_w]
                    rfl
                   refine pure_ (i := 2) (N := some 61) (v := ?_) (a' := ?_) #[true, true, true, false, false, false, false, false, false, false, false, false, false, false, false, false, false, false, false] rfl rfl (any_of HT_.out (by kernel_rfl)) (fun _ _ _ h => h) (Or.inl ⟨by rfl, ?_⟩) ?_ ?_
                   rotate_left
                   ·intro w'
                    go_simp
                    with_reducible rfl
                   rotate_left
                   ·simp only [Act.put, List.setIfInBounds_toArray, List.set_cons_zero, List.set_cons_succ, i64_w, i32_w]
                    rfl
                   refine pure_ (i := 3) (N := some 62) (v := ?_) (a' := ?_) #[true, true, true, true, false, false, false, false, false, false, false, false, false, false, false, false, false, false, false] rfl rfl (any_of HT_.out (by kernel_rfl)) (fun _ _ _ h => h) (Or.inl ⟨by rfl, ?_⟩) ?_ ?_
                   rotate_left
                   ·intro w'
                    go_simp
                    with_reducible rfl
                   rotate_left
                   ·simp only [Act.put, List.setIfInBounds_toArray, List.set_cons_zero, List.set_cons_succ, i64_w, i32_w]
                    rfl
                   refine pure_ (i := 4) (N := some 63) (v := ?_) (a' := ?_) #[true, true, true, true, true, false, false, false, false, false, false, false, false, false, false, false, false, false, false] rfl rfl (any_of HT_.out (by kernel_rfl)) (fun _ _ _ h => h) (Or.inl ⟨by rfl, ?_⟩) ?_ ?_
                   rotate_left
                   ·intro w'
                    go_simp
                    with_reducible rfl
                   rotate_left
                   ·simp only [Act.put, List.setIfInBounds_toArray, List.set_cons_zero, List.set_cons_succ, i64_w, i32_w]
                    rfl
                   refine pure_ (i := 5) (N := some 64) (v := ?_) (a' := ?_) #[true, true, true, true, true, true, false, false, false, false, false, false, false, false, false, false, false, false, false] rfl rfl (any_of HT_.out (by kernel_rfl)) (fun _ _ _ h => h) (Or.inl ⟨by rfl, ?_⟩) ?_ ?_
                   rotate_left
                   ·intro w'
                    go_simp
                    with_reducible rfl
                   rotate_left
                   ·simp only [Act.put, List.setIfInBounds_toArray, List.set_cons_zero, List.set_cons_succ, i64_w, i32_w]
                    rfl
                   refine pure_ (i := 6) (N := some 65) (v := ?_) (a' := ?_) #[true, true, true, true, true, true, true, false, false, false, false, false, false, false, false, false, false, false, false] rfl rfl (any_of HT_.out (by kernel_rfl)) (fun _ _ _ h => h) (Or.inl ⟨by rfl, ?_⟩) ?_ ?_
                   rotate_left
                   ·intro w'
                    go_simp
                    with_reducible rfl
                   rotate_left
                   ·simp only [Act.put, List.setIfInBounds_toArray, List.set_cons_zero, List.set_cons_succ, i64_w, i32_w]
                    rfl
                   refine pure_ (i := 10) (N := some 69) (v := ?_) (a' := ?_) #[true, true, true, true, true, true, true, false, false, false, true, false, false, false, false, false, false, false, false] rfl rfl (any_of HT_.out (by kernel_rfl)) (fun _ _ _ h => h) (Or.inl ⟨by rfl, ?_⟩) ?_ ?_
                   rotate_left
                   ·intro w'
                    go_simp
                    with_reducible rfl
                   rotate_left
                   ·simp only [Act.put, List.setIfInBounds_toArray, List.set_cons_zero, List.set_cons_succ, i64_w, i32_w]
                    rfl
                   refine pure_ (i := 11) (N := some 70) (v := ?_) (a' := ?_) #[true, true, true, true, true, true, true, false, false, false, true, true, false, false, false, false, false, false, false] rfl rfl (any_of HT_.out (by kernel_rfl)) (fun _ _ _ h => h) (Or.inl ⟨by rfl, ?_⟩) ?_ ?_
                   rotate_left
                   ·intro w'
                    go_simp
                    with_reducible rfl
                   rotate_left
                   ·simp only [Act.put, List.setIfInBounds_toArray, List.set_cons_zero, List.set_cons_succ, i64_w, i32_w]
                    rfl
                   refine pure_ (i := 12) (N := some 71) (v := ?_) (a' := ?_) #[true, true, true, true, true, true, true, false, false, false, true, true, true, false, false, false, false, false, false] rfl rfl (any_of HT_.out (by kernel_rfl)) (fun _ _ _ h => h) (Or.inl ⟨by rfl, ?_⟩) ?_ ?_
                   rotate_left
                   ·intro w'
                    go_simp
                    with_reducible rfl
                   rotate_left
                   ·simp only [Act.put, List.setIfInBounds_toArray, List.set_cons_zero, List.set_cons_succ, i64_w, i32_w]
                    rfl
                   refine take_ (i := 7) (N := some 66) (v := ?_) (a' := ?_) #[true, true, true, true, true, true, true, true, false, false, true, true, true, false, false, false, false, false, false] rfl rfl (take_ofW HT_.out HW_.out (by kernel_rfl)) (fun _ _ _ h => h) (Or.inl ⟨by rfl, ?_⟩) hHeld ?_ ?_
                   rotate_left
                   ·rintro w' ⟨s0, s1, s2, s3⟩
                    go_simp
                    with_reducible rfl
                   rotate_left
                   ·simp only [Act.put, List.setIfInBounds_toArray, List.set_cons_zero, List.set_cons_succ, i64_w, i32_w]
                    rfl
                   refine take_ (i := 13) (N := some 72) (v := ?_) (a' := ?_) #[true, true, true, true, true, true, true, true, false, false, true, true, true, true, false, false, false, false, false] rfl rfl (take_ofW HT_.out HW_.out (by kernel_rfl)) (fun _ _ _ h => h) (Or.inl ⟨by rfl, ?_⟩) hHeld ?_ ?_
                   rotate_left
                   ·rintro w' ⟨s0, s1, s2, s3⟩
                    go_simp
                    with_reducible rfl
                   rotate_left
                   ·simp only [Act.put, List.setIfInBounds_toArray, List.set_cons_zero, List.set_cons_succ, i64_w, i32_w]
                    rfl
                   refine one_ (i := 8) (N := some 67) #[true, true, true, true, true, true, true, true, true, false, true, true, true, true, false, false, false, false, false] rfl rfl (one_of HT_.out (by kernel_rfl)) (by decide) (fun K hK => ?_)
                   refine goes_ Try.func22 (by kernel_rfl) rfl #[.agg #[.string ((rd_T66 x5_1 (ji42)).f0), .int .i64 ((rd_T66 x5_1 (ji42)).f1)], .int .i64 1] (by rfl) rfl rfl (by (try simp only [List.map_toArray, List.map_cons, List.map_nil]); first | done | (simp only [hji42]; rfl) | rfl | (simp only [List.length_drop, List.length_take]; rfl)) ?_
                   with_reducible refine (pred_printed_within.calls ((rd_T66 x5_1 (ji42)).f0) ((rd_T66 x5_1 (ji42)).f1) 1 t299 _ A45.out).mono ?_
                   rintro e w59 ⟨rfl, hb⟩
                   have HS0_ := (hb.cell (World.block_lt_of_cell? _ _ (hHeld.1))).trans (hHeld.1)
                   have HS1_ := (hb.cell (World.block_lt_of_cell? _ _ (hHeld.2.1))).trans (hHeld.2.1)
                   have HS2_ := (hb.cell (World.block_lt_of_cell? _ _ (hHeld.2.2.1))).trans (hHeld.2.2.1)
                   have HS3_ := (hb.cell (World.block_lt_of_cell? _ _ (hHeld.2.2.2))).trans (hHeld.2.2.2)
                   refine ⟨_, rfl, ?_⟩
                   have n0_ := Aside0.mk (Kd.R_below (Rw HO_5.out) hb)
                   have n1_ := Aside0.mk (blk_below (g := gb284) (o := .cells #[.int .i64 ((rd_T54 l0 x16_1).f0), .string ((rd_T54 l0 x16_1).f1), .int .i64 ((rd_T54 l0 x16_1).f2), .int .i64 ((rd_T54 l0 x16_1).f3.f0), .int .i64 ((rd_T54 l0 x16_1).f3.f1), .string ((rd_T54 l0 x16_1).f3.f2), .bool ((rd_T54 l0 x16_1).f3.f3), .complex .f64 ((rd_T54 l0 x16_1).f3.f4).re ((rd_T54 l0 x16_1).f3.f4).im, .int .i64 ((rd_T54 l0 x16_1).f4)] 54 (0, 0)) (Bk BK284.out) hb)
                   have n2_ := Aside0.mk (below_step (Bl) hb)
                   clear HO_5
                   clear BK284
                   clear HB
                   have HO_5 := n0_
                   have BK284 := n1_
                   have HB := n2_
                   clear n0_ n1_ n2_
                   (try clear hb)
                   (try clear hb2)
                   (try clear hk)
                   (try clear hi)
                   refine hK.out _ _ ⟨HS0_, HS1_, HS2_, HS3_⟩ (fun hHeld => ?_)
                   clear hK K
                   refine norm_ (a' := ?_) ?_ ?_
                   rotate_left
                   ·show Act.put _ (some 67) _ = _
                    simp only [Act.put, List.setIfInBounds_toArray, List.set_cons_zero, List.set_cons_succ, i64_w, i32_w]
                    rfl
                   refine pure_ (i := 9) (N := some 68) (v := ?_) (a' := ?_) #[true, true, true, true, true, true, true, true, true, true, true, true, true, true, false, false, false, false, false] rfl rfl (any_of HT_.out (by kernel_rfl)) (fun _ _ _ h => h) (Or.inl ⟨by rfl, ?_⟩) ?_ ?_
                   rotate_left
                   ·intro w'
                    go_simp
                    with_reducible rfl
                   rotate_left
                   ·simp only [Act.put, List.setIfInBounds_toArray, List.set_cons_zero, List.set_cons_succ, i64_w, i32_w]
                    rfl
                   refine one_ (i := 14) (N := some 73) #[true, true, true, true, true, true, true, true, true, true, true, true, true, true, true, false, false, false, false] rfl rfl (one_of HT_.out (by kernel_rfl)) (by decide) (fun K hK => ?_)
                   refine goes_ Try.func22 (by kernel_rfl) rfl #[.agg #[.string ((rd_T66 x5_1 (ji47)).f0), .int .i64 ((rd_T66 x5_1 (ji47)).f1)], .int .i64 2] (by rfl) rfl rfl (by (try simp only [List.map_toArray, List.map_cons, List.map_nil]); first | done | (simp only [hji47]; rfl) | rfl | (simp only [List.length_drop, List.length_take]; rfl)) ?_
                   with_reducible refine (pred_printed_within.calls ((rd_T66 x5_1 (ji47)).f0) ((rd_T66 x5_1 (ji47)).f1) 2 t301 _ A50.out).mono ?_
                   rintro e w60 ⟨rfl, hb⟩
                   have HS0_ := (hb.cell (World.block_lt_of_cell? _ _ (hHeld.1))).trans (hHeld.1)
                   have HS1_ := (hb.cell (World.block_lt_of_cell? _ _ (hHeld.2.1))).trans (hHeld.2.1)
                   have HS2_ := (hb.cell (World.block_lt_of_cell? _ _ (hHeld.2.2.1))).trans (hHeld.2.2.1)
                   have HS3_ := (hb.cell (World.block_lt_of_cell? _ _ (hHeld.2.2.2))).trans (hHeld.2.2.2)
                   refine ⟨_, rfl, ?_⟩
                   have n0_ := Aside0.mk (Kd.R_below (Rw HO_5.out) hb)
                   have n1_ := Aside0.mk (blk_below (g := gb284) (o := .cells #[.int .i64 ((rd_T54 l0 x16_1).f0), .string ((rd_T54 l0 x16_1).f1), .int .i64 ((rd_T54 l0 x16_1).f2), .int .i64 ((rd_T54 l0 x16_1).f3.f0), .int .i64 ((rd_T54 l0 x16_1).f3.f1), .string ((rd_T54 l0 x16_1).f3.f2), .bool ((rd_T54 l0 x16_1).f3.f3), .complex .f64 ((rd_T54 l0 x16_1).f3.f4).re ((rd_T54 l0 x16_1).f3.f4).im, .int .i64 ((rd_T54 l0 x16_1).f4)] 54 (0, 0)) (Bk BK284.out) hb)
                   have n2_ := Aside0.mk (below_step (Bl) hb)
                   clear HO_5
                   clear BK284
                   clear HB
                   have HO_5 := n0_
                   have BK284 := n1_
                   have HB := n2_
                   clear n0_ n1_ n2_
                   (try clear hb)
                   (try clear hb2)
                   (try clear hk)
                   (try clear hi)
                   have p52 : 0 ≤ ((ji42) : Int) := of_decide_eq_true (As)
                   have q52 : ((ji42) : Int) < ((x5_1.length : Int) : Int) := of_decide_eq_true (As)
                   obtain ⟨go52, co52, eo52, gb52, gl52, cl52, HG52⟩ := Kd.R_form HO_5.out (by omega)
                   (first | cases eo52 | (injection eo52 with ea_ en_ ec_; (first | subst ea_ | (injection ea_ with ea_; subst ea_)); subst ec_; clear en_))
                   have GB52 := Aside0.mk gb52
                   have GG52 := Aside0.mk HG52
                   clear gb52 gl52 HG52
                   (first | simp only [add_plain] at hx298_0 | skip)
                   (first | simp only [add_plain] at hx298_1 | skip)
                   (first | simp only [add_plain] at hx300_0 | skip)
                   (first | simp only [add_plain] at hx300_1 | skip)
                   obtain ⟨ce52, hcl52, hM52, hcc52, hfr52⟩ := Kd.R_elem HO_5.out z66 ((ji42) : Int) p52 q52
                   obtain rfl := k66_openM hM52
                   have hx52_0 : World.cell? _ ⟨go52, ((ji42) : Int).toNat * 2, none⟩ = some (.string ((rd_T66 x5_1 (ji42)).f0)) := hcc52 0 _ rfl
                   have hx52_1 : World.cell? _ ⟨go52, ((ji42) : Int).toNat * 2 + 1, none⟩ = some (.int .i64 ((rd_T66 x5_1 (ji42)).f1)) := hcc52 1 _ rfl
                   have hf52_0 : World.frozen? _ ⟨go52, ((ji42) : Int).toNat * 2, none⟩ = false := hfr52 0
                   have hf52_1 : World.frozen? _ ⟨go52, ((ji42) : Int).toNat * 2 + 1, none⟩ = false := hfr52 1
                   clear hcl52 hcc52 hfr52; (try clear hM52)
                   replace p52 := eq_true p52
                   replace q52 := eq_true q52
                   obtain ⟨ce61, hcl61, hM61, hcc61, hfr61⟩ := Kd.R_elem HO_5.out z66 ((ji42) : Int) (of_decide_eq_true (As)) (by have h_ : ((ji42) : Int) < ((x5_1.length : Int) : Int) := of_decide_eq_true (As); first | exact h_ | (have e_ := (Kd.R_reads' HO_5.out).1; omega) | simpa using h_)
                   obtain rfl := k66_openM hM61
                   have HP61 := (Kd.R_seg HO_5.out ((ji42) : Int) (of_decide_eq_true (As)) (by have h_ : ((ji42) : Int) < ((x5_1.length : Int) : Int) := of_decide_eq_true (As); first | exact h_ | (have e_ := (Kd.R_reads' HO_5.out).1; omega) | simpa using h_) (seg := [.string ((t299 ++ (⟨#[32, 38, 32]⟩ : ByteArray)) ++ t301), .int .i64 1]) (j := 0) hcl61 hcc61 (show 2 ≤ 2 from by decide) (x' := (⟨(t299 ++ (⟨#[32, 38, 32]⟩ : ByteArray)) ++ t301, 1⟩ : S66)) (k66_mkM _ _ _ (⟨(t299 ++ (⟨#[32, 38, 32]⟩ : ByteArray)) ++ t301, 1⟩ : S66) ) (fun _ hk => hk)).1
                   rw [← Ny302.out] at HP61
                   have HQ61 := Aside0.mk HP61
                   clear hcl61 hcc61 hfr61 HP61; (try clear hM61)
                   refine hK.out _ _ ⟨HS0_, HS1_, HS2_, HS3_⟩ (fun hHeld => ?_)
                   clear hK K
                   refine norm_ (a' := ?_) ?_ ?_
                   rotate_left
                   ·show Act.put _ (some 73) _ = _
                    simp only [Act.put, List.setIfInBounds_toArray, List.set_cons_zero, List.set_cons_succ, i64_w, i32_w]
                    rfl
                   refine pure_ (i := 15) (N := some 74) (v := ?_) (a' := ?_) #[true, true, true, true, true, true, true, true, true, true, true, true, true, true, true, true, false, false, false] rfl rfl (any_of HT_.out (by kernel_rfl)) (fun _ _ _ h => h) (Or.inl ⟨by rfl, ?_⟩) ?_ ?_
                   rotate_left
                   ·intro w'
                    go_simp
                    with_reducible rfl
                   rotate_left
                   ·simp only [Act.put, List.setIfInBounds_toArray, List.set_cons_zero, List.set_cons_succ, i64_w, i32_w]
                    rfl
                   refine pure_ (i := 16) (N := some 75) (v := ?_) (a' := ?_) #[true, true, true, true, true, true, true, true, true, true, true, true, true, true, true, true, true, false, false] rfl rfl (any_of HT_.out (by kernel_rfl)) (fun _ _ _ h => h) (Or.inl ⟨by rfl, ?_⟩) ?_ ?_
                   rotate_left
                   ·intro w'
                    go_simp
                    with_reducible rfl
                   rotate_left
                   ·simp only [Act.put, List.setIfInBounds_toArray, List.set_cons_zero, List.set_cons_succ, i64_w, i32_w]
                    rfl
                   refine pure_ (i := 17) (N := some 76) (v := ?_) (a' := ?_) #[true, true, true, true, true, true, true, true, true, true, true, true, true, true, true, true, true, true, false] rfl rfl (any_of HT_.out (by kernel_rfl)) (fun _ _ _ h => h) (Or.inl ⟨by rfl, ?_⟩) ?_ ?_
                   rotate_left
                   ·intro w'
                    go_simp
                    with_reducible rfl
                   rotate_left
                   ·simp only [Act.put, List.setIfInBounds_toArray, List.set_cons_zero, List.set_cons_succ, i64_w, i32_w]
                    rfl
                   refine last_ (i := 18) (N := none) #[true, true, true, true, true, true, true, true, true, true, true, true, true, true, true, true, true, true, true] rfl rfl (one_of HT_.out (by kernel_rfl)) (by decide) (fun K hK => ?_)
                   refine skip_ (w1 := ?_) (by rfl) rfl ?_ ?_
                   rotate_left
                   ·go_simp
                    rfl
                   refine hK.out _ _ ?_
                   clear hK K
                   refine done_ (done_of HT_.out (by kernel_rfl)) ?_
                   have n0_ : Aside0 (Kd.R k66 66 ((w60.setCell ⟨go52, ((ji42) : Int).toNat * 2, none⟩ (.string ((t299 ++ (⟨#[32, 38, 32]⟩ : ByteArray)) ++ t301))).setCell ⟨go52, ((ji42) : Int).toNat * 2 + 1, none⟩ (.int .i64 1)) w.heap.size (fun _ => True) (.slice (some ⟨go52, 0, none⟩) x5_1.length co56) y302) := ⟨Rw HQ61.out⟩
                   have n1_ : Aside0 (((w60.setCell ⟨go52, ((ji42) : Int).toNat * 2, none⟩ (.string ((t299 ++ (⟨#[32, 38, 32]⟩ : ByteArray)) ++ t301))).setCell ⟨go52, ((ji42) : Int).toNat * 2 + 1, none⟩ (.int .i64 1)).heap[gb284]? = some (.cells #[.int .i64 ((rd_T54 l0 x16_1).f0), .string ((rd_T54 l0 x16_1).f1), .int .i64 ((rd_T54 l0 x16_1).f2), .int .i64 ((rd_T54 l0 x16_1).f3.f0), .int .i64 ((rd_T54 l0 x16_1).f3.f1), .string ((rd_T54 l0 x16_1).f3.f2), .bool ((rd_T54 l0 x16_1).f3.f3), .complex .f64 ((rd_T54 l0 x16_1).f3.f4).re ((rd_T54 l0 x16_1).f3.f4).im, .int .i64 ((rd_T54 l0 x16_1).f4)] 54 (0, 0))) := ⟨by (with_reducible repeat (first | refine blk_drewN ?_ _ | refine blk_drew ?_ | refine blk_alloc ?_ _)); refine blk_far ?_ (by have h_ := Kd.R_ne HO_5.out BK284.out (by decide); intro e_; exact h_ (by rw [e_]; rfl)) _; (with_reducible repeat (first | refine blk_drewN ?_ _ | refine blk_drew ?_ | refine blk_alloc ?_ _)); refine blk_far ?_ (by have h_ := Kd.R_ne HO_5.out BK284.out (by decide); intro e_; exact h_ (by rw [e_]; rfl)) _; (with_reducible repeat (first | refine blk_drewN ?_ _ | refine blk_drew ?_ | refine blk_alloc ?_ _)); exact BK284.out⟩
                   have n2_ : Aside0 (Below w.heap.size w ((w60.setCell ⟨go52, ((ji42) : Int).toNat * 2, none⟩ (.string ((t299 ++ (⟨#[32, 38, 32]⟩ : ByteArray)) ++ t301))).setCell ⟨go52, ((ji42) : Int).toNat * 2 + 1, none⟩ (.int .i64 1))) := ⟨by repeat (first | (with_reducible first | exact HB.out | apply below_alloc | apply pw_below_drewN | apply below_drew1 | refine below_set ?_ GB52.out | refine below_set ?_ GB52.out | refine below_set ?_ GE284.out) | exact HB.out)⟩
                   (try clear HO_5)
                   (try clear BK284)
                   (try clear HB)
                   generalize ((w60.setCell ⟨go52, ((ji42) : Int).toNat * 2, none⟩ (.string ((t299 ++ (⟨#[32, 38, 32]⟩ : ByteArray)) ++ t301))).setCell ⟨go52, ((ji42) : Int).toNat * 2 + 1, none⟩ (.int .i64 1)) = w62 at n0_ n1_ n2_ ⊢
                   have HO_5 := n0_
                   have BK284 := n1_
                   have HB := n2_
                   clear n0_ n1_ n2_
                   have q63 : ((ji47) : Int) ≤ ((x5_1.length : Int) : Int) := of_decide_eq_true (As)
                   obtain ⟨i063, hi063, _, hsz63, _⟩ := info_parts info66
                   have hcut63 := cut_to (P := Try.prog) 64 66 .i64 Try.underlying64 hi063 (some ⟨go52, 0, none⟩) x5_1.length co56 (ji47) (of_decide_eq_true (As)) q63 (Kd.R_reads' HO_5.out).2.1
                   have hr63 := Kd.R_take (m := ((ji47) : Int).toNat) HO_5.out (by omega)
                   have hy63 : y303.length = ((ji47) : Int).toNat := (by rw [Ny303.out, List.length_take]; omega)
                   rw [← Ny303.out] at hr63
                   rw [← hy63] at hr63 hcut63
                   clear hy63 hi063 hsz63 HO_5
                   have HO305 := Aside0.mk hr63
                   clear hr63
                   replace q63 := eq_true q63
                   try go_wp2
                   go_roundg k1
                   case measure => have := HK1.out; omega
                   case rel => exact ⟨(y303), (wrap64 (x16_1 + 1)), (by first | rfl | (simp; done) | (simp [*]; done)), H', ⟨by have := HK1.out; omega⟩, ⟨Rw HO305.out⟩, ⟨Bl⟩⟩
                  ·rw [if_neg c53] at H
                   exact absurd H (by simp)
                 ·rw [if_neg c51] at H
                  exact absurd H (by simp)
                ·rw [if_neg c49] at H
                 exact absurd H (by simp)
               ·rw [if_neg c48] at H
                exact absurd H (by simp)
              ·rw [if_neg c46] at H
               exact absurd H (by simp)
             ·rw [if_neg c44] at H
              exact absurd H (by simp)
            ·rw [if_neg c43] at H
             exact absurd H (by simp)
           ·rw [if_neg c41] at H
            have c41b0 : (((rd_T54 l0 x16_1).f0) == 5) = false := beq_eq_false_iff_ne.mpr c41
            have c41b1 : (((rd_T54 l0 x16_1).f0) != 5) = true := bne_iff_ne.mpr c41
            by_cases c64 : ((rd_T54 l0 x16_1).f0) = 6
            ·rw [if_pos c64] at H
             have c64b0 : (((rd_T54 l0 x16_1).f0) == 6) = true := beq_iff_eq.mpr c64
             have c64b1 : (((rd_T54 l0 x16_1).f0) != 6) = false := bne_eq_false_iff_eq.mpr c64
             clear c64
             obtain ⟨ji65, hji65⟩ : ∃ j_ : Int, (wrap64 ((wrap64 ((x5_1.length : Int) - 1)) - 1)) = j_ := ⟨_, rfl⟩
             replace H : (if 0 ≤ (ji65) then (if (ji65) < (x5_1.length : Int) then ((pred_printed_within.f ((rd_T66 x5_1 (ji65)).f0) ((rd_T66 x5_1 (ji65)).f1) 0).bind fun t307 => (if t307.size + 3 ≤ 9223372036854775807 then (if 0 ≤ (wrap64 ((x5_1.length : Int) - 1)) then (if (wrap64 ((x5_1.length : Int) - 1)) < (x5_1.length : Int) then ((pred_printed_within.f ((rd_T66 x5_1 (wrap64 ((x5_1.length : Int) - 1))).f0) ((rd_T66 x5_1 (wrap64 ((x5_1.length : Int) - 1))).f1) 1).bind fun t309 => (if (t307 ++ (⟨#[32, 124, 32]⟩ : ByteArray)).size + t309.size ≤ 9223372036854775807 then (if (wrap64 ((x5_1.length : Int) - 1)) ≤ (x5_1.length : Int) then (pred_Print.l0 k1 ((x5_1.set ((ji65) : Int).toNat (⟨(t307 ++ (⟨#[32, 124, 32]⟩ : ByteArray)) ++ t309, 0⟩ : S66)).take ((wrap64 ((x5_1.length : Int) - 1)) : Int).toNat) l0 (l0.length : Int) (wrap64 (x16_1 + 1))) else (none)) else (none))) else (none)) else (none)) else (none))) else (none)) else (none)) = some (r1, r2) := by first | (rw [hji65] at H; exact H) | (simp only [hji65] at H ⊢; exact H)
             have hji65w : (IntKind.i64.wrap ((wrap64 ((x5_1.length : Int) - 1)) - 1)) = ji65 := (i64_w _).trans hji65
             by_cases c66 : 0 ≤ (ji65)
             ·rw [if_pos c66] at H
              have c66b0 : decide (0 ≤ (ji65)) = true := decide_eq_true c66
              clear c66
              by_cases c67 : (ji65) < (x5_1.length : Int)
              ·rw [if_pos c67] at H
               have c67b0 : decide ((ji65) < (x5_1.length : Int)) = true := decide_eq_true c67
               clear c67
               replace H := Option.bind_eq_some_iff.mp H
               obtain ⟨t307, A680, H⟩ := H
               replace H : (if t307.size + 3 ≤ 9223372036854775807 then (if 0 ≤ (wrap64 ((x5_1.length : Int) - 1)) then (if (wrap64 ((x5_1.length : Int) - 1)) < (x5_1.length : Int) then ((pred_printed_within.f ((rd_T66 x5_1 (wrap64 ((x5_1.length : Int) - 1))).f0) ((rd_T66 x5_1 (wrap64 ((x5_1.length : Int) - 1))).f1) 1).bind fun t309 => (if (t307 ++ (⟨#[32, 124, 32]⟩ : ByteArray)).size + t309.size ≤ 9223372036854775807 then (if (wrap64 ((x5_1.length : Int) - 1)) ≤ (x5_1.length : Int) then (pred_Print.l0 k1 ((x5_1.set ((ji65) : Int).toNat (⟨(t307 ++ (⟨#[32, 124, 32]⟩ : ByteArray)) ++ t309, 0⟩ : S66)).take ((wrap64 ((x5_1.length : Int) - 1)) : Int).toNat) l0 (l0.length : Int) (wrap64 (x16_1 + 1))) else (none)) else (none))) else (none)) else (none)) else (none)) = some (r1, r2) := H
               have A68 := Aside0.mk A680
               clear A680
               by_cases c69 : t307.size + 3 ≤ 9223372036854775807
               ·rw [if_pos c69] at H
                have c69b0 := eq_true c69
                have c69b1 : decide (t307.size + 3 ≤ 9223372036854775807) = true := decide_eq_true c69
                try have c69b2 : (9223372036854775807 < t307.size + 3) = False := eq_false (Nat.not_lt.2 c69)
                obtain ⟨ji70, hji70⟩ : ∃ j_ : Int, (wrap64 ((x5_1.length : Int) - 1)) = j_ := ⟨_, rfl⟩
                replace H : (if 0 ≤ (ji70) then (if (ji70) < (x5_1.length : Int) then ((pred_printed_within.f ((rd_T66 x5_1 (ji70)).f0) ((rd_T66 x5_1 (ji70)).f1) 1).bind fun t309 => (if (t307 ++ (⟨#[32, 124, 32]⟩ : ByteArray)).size + t309.size ≤ 9223372036854775807 then (if (ji70) ≤ (x5_1.length : Int) then (pred_Print.l0 k1 ((x5_1.set ((ji65) : Int).toNat (⟨(t307 ++ (⟨#[32, 124, 32]⟩ : ByteArray)) ++ t309, 0⟩ : S66)).take ((ji70) : Int).toNat) l0 (l0.length : Int) (wrap64 (x16_1 + 1))) else (none)) else (none))) else (none)) else (none)) = some (r1, r2) := by first | (rw [hji70] at H; exact H) | (simp only [hji70] at H ⊢; exact H)
                (try rw [hji70] at A68)
                have hji70w : (IntKind.i64.wrap ((x5_1.length : Int) - 1)) = ji70 := (i64_w _).trans hji70
                have hji65x : (wrap64 (ji70 - 1)) = ji65 := by rw [← hji70]; exact hji65
                have hji65y : (IntKind.i64.wrap (ji70 - 1)) = ji65 := (i64_w _).trans hji65x
                by_cases c71 : 0 ≤ (ji70)
                ·rw [if_pos c71] at H
                 have c71b0 : decide (0 ≤ (ji70)) = true := decide_eq_true c71
                 clear c71
                 by_cases c72 : (ji70) < (x5_1.length : Int)
                 ·rw [if_pos c72] at H
                  have c72b0 : decide ((ji70) < (x5_1.length : Int)) = true := decide_eq_true c72
                  clear c72
                  replace H := Option.bind_eq_some_iff.mp H
                  obtain ⟨t309, A730, H⟩ := H
                  replace H : (if (t307 ++ (⟨#[32, 124, 32]⟩ : ByteArray)).size + t309.size ≤ 9223372036854775807 then (if (ji70) ≤ (x5_1.length : Int) then (pred_Print.l0 k1 ((x5_1.set ((ji65) : Int).toNat (⟨(t307 ++ (⟨#[32, 124, 32]⟩ : ByteArray)) ++ t309, 0⟩ : S66)).take ((ji70) : Int).toNat) l0 (l0.length : Int) (wrap64 (x16_1 + 1))) else (none)) else (none)) = some (r1, r2) := H
                  have A73 := Aside0.mk A730
                  clear A730
                  by_cases c74 : (t307 ++ (⟨#[32, 124, 32]⟩ : ByteArray)).size + t309.size ≤ 9223372036854775807
                  ·rw [if_pos c74] at H
                   have c74b0 := eq_true c74
                   have c74b1 : decide ((t307 ++ (⟨#[32, 124, 32]⟩ : ByteArray)).size + t309.size ≤ 9223372036854775807) = true := decide_eq_true c74
                   try have c74b2 : (9223372036854775807 < (t307 ++ (⟨#[32, 124, 32]⟩ : ByteArray)).size + t309.size) = False := eq_false (Nat.not_lt.2 c74)
                   have c74b3 : (9223372036854775807 < t307.size + 3 + t309.size) = False := eq_false (Nat.not_lt.2 (by have h_ := c74; simp only [ByteArray.size_append] at h_; exact h_))
                   obtain ⟨y310, hy310⟩ : ∃ y_ : List (S66), y_ = (x5_1.set ((ji65) : Int).toNat (⟨(t307 ++ (⟨#[32, 124, 32]⟩ : ByteArray)) ++ t309, 0⟩ : S66)) := ⟨_, rfl⟩
                   have ly310 : y310.length = x5_1.length := by rw [hy310, List.length_set]
                   replace H : (if (ji70) ≤ (x5_1.length : Int) then (pred_Print.l0 k1 (y310.take ((ji70) : Int).toNat) l0 (l0.length : Int) (wrap64 (x16_1 + 1))) else (none)) = some (r1, r2) := by first | (rw [hy310]; with_reducible exact H) | (have H2_ := (Option.bind_some _ _).symm.trans H; rw [hy310]; with_reducible exact H2_) | (have H2_ := (Option.bind_some _ _).symm.trans H; with_reducible exact H2_) | with_reducible exact H | (rw [hy310]; exact H) | exact H
                   have Ny310 := Aside0.mk hy310
                   clear hy310
                   by_cases c76 : (ji70) ≤ (x5_1.length : Int)
                   ·rw [if_pos c76] at H
                    have c76b0 := eq_true c76
                    have c76b1 : decide ((ji70) ≤ (x5_1.length : Int)) = true := decide_eq_true c76
                    clear c76
                    obtain ⟨y311, hy311⟩ : ∃ y_ : List (S66), y_ = (y310.take ((ji70) : Int).toNat) := ⟨_, rfl⟩
                    replace H : (pred_Print.l0 k1 y311 l0 (l0.length : Int) (wrap64 (x16_1 + 1))) = some (r1, r2) := by first | (rw [hy311]; with_reducible exact H) | (have H2_ := (Option.bind_some _ _).symm.trans H; rw [hy311]; with_reducible exact H2_) | (have H2_ := (Option.bind_some _ _).symm.trans H; with_reducible exact H2_) | with_reducible exact H | (rw [hy311]; exact H) | exact H
                    have Ny311 := Aside0.mk hy311
                    clear hy311
                    have H' := Aside0.mk H
                    clear H
                    have p283 : 0 ≤ (x16_1 : Int) := of_decide_eq_true (As)
                    have q283 : x16_1 < (l0.length : Int) := of_decide_eq_true (As)
                    obtain ⟨ad283, e283, hx283_0, hx283_1, hx283_2, hx283_3, hx283_4, hx283_5, hx283_6, hx283_7, hx283_8⟩ := at_T54 HR0.out x16_1 p283 q283
                    cases e283
                    replace hx283_0 := (HB.out.cell (World.block_lt_of_cell? w _ hx283_0)).trans hx283_0
                    replace hx283_1 := (HB.out.cell (World.block_lt_of_cell? w _ hx283_1)).trans hx283_1
                    replace hx283_2 := (HB.out.cell (World.block_lt_of_cell? w _ hx283_2)).trans hx283_2
                    replace hx283_3 := (HB.out.cell (World.block_lt_of_cell? w _ hx283_3)).trans hx283_3
                    replace hx283_4 := (HB.out.cell (World.block_lt_of_cell? w _ hx283_4)).trans hx283_4
                    replace hx283_5 := (HB.out.cell (World.block_lt_of_cell? w _ hx283_5)).trans hx283_5
                    replace hx283_6 := (HB.out.cell (World.block_lt_of_cell? w _ hx283_6)).trans hx283_6
                    replace hx283_7 := (HB.out.cell (World.block_lt_of_cell? w _ hx283_7)).trans hx283_7
                    replace hx283_8 := (HB.out.cell (World.block_lt_of_cell? w _ hx283_8)).trans hx283_8
                    replace p283 := eq_true p283
                    replace q283 := eq_true q283
                    try go_wp2_with (first | ((with_reducible refine gate_dst (N := 7) rfl ?_); refine box_event ?hg (N := 7) ?hd (cs := #[.int .i64 0, .string (⟨#[]⟩ : ByteArray), .int .i64 0, .int .i64 0, .int .i64 0, .string (⟨#[]⟩ : ByteArray), .bool false, .complex .f64 0 0, .int .i64 0]) (t := 54) ?hr ?_; (case hd => rfl); (case hg => rfl); (case hr => first | (go_simp; done) | (go_simp; rfl)); intro gb284 hg w77 hbox hb; have n0_ := Aside0.mk (Kd.R_below (Rw HO_5.out) hb); have n1_ := Aside0.mk (below_step (Bl) hb); have n2_ := Aside0.mk (hbox); have n3_ := Aside0.mk ((by rw [hg]; exact (below_size (Bl)) : w.heap.size ≤ gb284)); have n4_ := Aside0.mk ((by rw [hg]; exact (below_size (Bl)) : w.heap.size ≤ gb284)); clear HO_5; clear HB; have HO_5 := n0_; have HB := n1_; have BK284 := n2_; have GW284 := n3_; have GE284 := n4_; clear n0_ n1_ n2_ n3_ n4_; clear hb hbox hg; obtain ⟨_, _, _, _, _, _, _, _, _⟩ := cz9 BK284.out; obtain ⟨_, _, _, _, _, _, _, _, _⟩ := fz9 BK284.out; obtain ⟨Ao79, co79, eo79⟩ := Kd.R_slice HO_5.out; subst eo79))
                    have n0_ : Aside0 (Kd.R k66 66 (((((((((w77.setCell ⟨gb284, 0, none⟩ (.int .i64 ((rd_T54 l0 x16_1).f0))).setCell ⟨gb284, 1, none⟩ (.string ((rd_T54 l0 x16_1).f1))).setCell ⟨gb284, 2, none⟩ (.int .i64 ((rd_T54 l0 x16_1).f2))).setCell ⟨gb284, 3, none⟩ (.int .i64 ((rd_T54 l0 x16_1).f3.f0))).setCell ⟨gb284, 4, none⟩ (.int .i64 ((rd_T54 l0 x16_1).f3.f1))).setCell ⟨gb284, 5, none⟩ (.string ((rd_T54 l0 x16_1).f3.f2))).setCell ⟨gb284, 6, none⟩ (.bool ((rd_T54 l0 x16_1).f3.f3))).setCell ⟨gb284, 7, none⟩ (.complex .f64 ((rd_T54 l0 x16_1).f3.f4).re ((rd_T54 l0 x16_1).f3.f4).im)).setCell ⟨gb284, 8, none⟩ (.int .i64 ((rd_T54 l0 x16_1).f4))) w.heap.size (fun _ => True) (.slice Ao79 x5_1.length co79) x5_1) := ⟨by (with_reducible repeat (first | apply Kd.R_alloc | apply Kd.R_drewN | apply Kd.R_drew)); exact Kd.R_mono (Kd.R_far (p := ⟨gb284, 8, none⟩) (Kd.R_far (p := ⟨gb284, 7, none⟩) (Kd.R_far (p := ⟨gb284, 6, none⟩) (Kd.R_far (p := ⟨gb284, 5, none⟩) (Kd.R_far (p := ⟨gb284, 4, none⟩) (Kd.R_far (p := ⟨gb284, 3, none⟩) (Kd.R_far (p := ⟨gb284, 2, none⟩) (Kd.R_far (p := ⟨gb284, 1, none⟩) (Kd.R_far (p := ⟨gb284, 0, none⟩) (Kd.R_types HO_5.out BK284.out (by decide)) (fun _ hk => hk.2) (.int .i64 ((rd_T54 l0 x16_1).f0))) (fun _ hk => hk.2) (.string ((rd_T54 l0 x16_1).f1))) (fun _ hk => hk.2) (.int .i64 ((rd_T54 l0 x16_1).f2))) (fun _ hk => hk.2) (.int .i64 ((rd_T54 l0 x16_1).f3.f0))) (fun _ hk => hk.2) (.int .i64 ((rd_T54 l0 x16_1).f3.f1))) (fun _ hk => hk.2) (.string ((rd_T54 l0 x16_1).f3.f2))) (fun _ hk => hk.2) (.bool ((rd_T54 l0 x16_1).f3.f3))) (fun _ hk => hk.2) (.complex .f64 ((rd_T54 l0 x16_1).f3.f4).re ((rd_T54 l0 x16_1).f3.f4).im)) (fun _ hk => hk.2) (.int .i64 ((rd_T54 l0 x16_1).f4))) (fun _ hk => trivial)⟩
                    have n1_ : Aside0 ((((((((((w77.setCell ⟨gb284, 0, none⟩ (.int .i64 ((rd_T54 l0 x16_1).f0))).setCell ⟨gb284, 1, none⟩ (.string ((rd_T54 l0 x16_1).f1))).setCell ⟨gb284, 2, none⟩ (.int .i64 ((rd_T54 l0 x16_1).f2))).setCell ⟨gb284, 3, none⟩ (.int .i64 ((rd_T54 l0 x16_1).f3.f0))).setCell ⟨gb284, 4, none⟩ (.int .i64 ((rd_T54 l0 x16_1).f3.f1))).setCell ⟨gb284, 5, none⟩ (.string ((rd_T54 l0 x16_1).f3.f2))).setCell ⟨gb284, 6, none⟩ (.bool ((rd_T54 l0 x16_1).f3.f3))).setCell ⟨gb284, 7, none⟩ (.complex .f64 ((rd_T54 l0 x16_1).f3.f4).re ((rd_T54 l0 x16_1).f3.f4).im)).setCell ⟨gb284, 8, none⟩ (.int .i64 ((rd_T54 l0 x16_1).f4))).heap[gb284]? = some (.cells #[.int .i64 ((rd_T54 l0 x16_1).f0), .string ((rd_T54 l0 x16_1).f1), .int .i64 ((rd_T54 l0 x16_1).f2), .int .i64 ((rd_T54 l0 x16_1).f3.f0), .int .i64 ((rd_T54 l0 x16_1).f3.f1), .string ((rd_T54 l0 x16_1).f3.f2), .bool ((rd_T54 l0 x16_1).f3.f3), .complex .f64 ((rd_T54 l0 x16_1).f3.f4).re ((rd_T54 l0 x16_1).f3.f4).im, .int .i64 ((rd_T54 l0 x16_1).f4)] 54 (0, 0))) := ⟨by (with_reducible repeat (first | refine blk_drewN ?_ _ | refine blk_drew ?_ | refine blk_alloc ?_ _)); refine blk_put (cs := #[.int .i64 ((rd_T54 l0 x16_1).f0), .string ((rd_T54 l0 x16_1).f1), .int .i64 ((rd_T54 l0 x16_1).f2), .int .i64 ((rd_T54 l0 x16_1).f3.f0), .int .i64 ((rd_T54 l0 x16_1).f3.f1), .string ((rd_T54 l0 x16_1).f3.f2), .bool ((rd_T54 l0 x16_1).f3.f3), .complex .f64 ((rd_T54 l0 x16_1).f3.f4).re ((rd_T54 l0 x16_1).f3.f4).im, .int .i64 0]) ?_ 8 _ rfl; (with_reducible repeat (first | refine blk_drewN ?_ _ | refine blk_drew ?_ | refine blk_alloc ?_ _)); refine blk_put (cs := #[.int .i64 ((rd_T54 l0 x16_1).f0), .string ((rd_T54 l0 x16_1).f1), .int .i64 ((rd_T54 l0 x16_1).f2), .int .i64 ((rd_T54 l0 x16_1).f3.f0), .int .i64 ((rd_T54 l0 x16_1).f3.f1), .string ((rd_T54 l0 x16_1).f3.f2), .bool ((rd_T54 l0 x16_1).f3.f3), .complex .f64 0 0, .int .i64 0]) ?_ 7 _ rfl; (with_reducible repeat (first | refine blk_drewN ?_ _ | refine blk_drew ?_ | refine blk_alloc ?_ _)); refine blk_put (cs := #[.int .i64 ((rd_T54 l0 x16_1).f0), .string ((rd_T54 l0 x16_1).f1), .int .i64 ((rd_T54 l0 x16_1).f2), .int .i64 ((rd_T54 l0 x16_1).f3.f0), .int .i64 ((rd_T54 l0 x16_1).f3.f1), .string ((rd_T54 l0 x16_1).f3.f2), .bool false, .complex .f64 0 0, .int .i64 0]) ?_ 6 _ rfl; (with_reducible repeat (first | refine blk_drewN ?_ _ | refine blk_drew ?_ | refine blk_alloc ?_ _)); refine blk_put (cs := #[.int .i64 ((rd_T54 l0 x16_1).f0), .string ((rd_T54 l0 x16_1).f1), .int .i64 ((rd_T54 l0 x16_1).f2), .int .i64 ((rd_T54 l0 x16_1).f3.f0), .int .i64 ((rd_T54 l0 x16_1).f3.f1), .string (⟨#[]⟩ : ByteArray), .bool false, .complex .f64 0 0, .int .i64 0]) ?_ 5 _ rfl; (with_reducible repeat (first | refine blk_drewN ?_ _ | refine blk_drew ?_ | refine blk_alloc ?_ _)); refine blk_put (cs := #[.int .i64 ((rd_T54 l0 x16_1).f0), .string ((rd_T54 l0 x16_1).f1), .int .i64 ((rd_T54 l0 x16_1).f2), .int .i64 ((rd_T54 l0 x16_1).f3.f0), .int .i64 0, .string (⟨#[]⟩ : ByteArray), .bool false, .complex .f64 0 0, .int .i64 0]) ?_ 4 _ rfl; (with_reducible repeat (first | refine blk_drewN ?_ _ | refine blk_drew ?_ | refine blk_alloc ?_ _)); refine blk_put (cs := #[.int .i64 ((rd_T54 l0 x16_1).f0), .string ((rd_T54 l0 x16_1).f1), .int .i64 ((rd_T54 l0 x16_1).f2), .int .i64 0, .int .i64 0, .string (⟨#[]⟩ : ByteArray), .bool false, .complex .f64 0 0, .int .i64 0]) ?_ 3 _ rfl; (with_reducible repeat (first | refine blk_drewN ?_ _ | refine blk_drew ?_ | refine blk_alloc ?_ _)); refine blk_put (cs := #[.int .i64 ((rd_T54 l0 x16_1).f0), .string ((rd_T54 l0 x16_1).f1), .int .i64 0, .int .i64 0, .int .i64 0, .string (⟨#[]⟩ : ByteArray), .bool false, .complex .f64 0 0, .int .i64 0]) ?_ 2 _ rfl; (with_reducible repeat (first | refine blk_drewN ?_ _ | refine blk_drew ?_ | refine blk_alloc ?_ _)); refine blk_put (cs := #[.int .i64 ((rd_T54 l0 x16_1).f0), .string (⟨#[]⟩ : ByteArray), .int .i64 0, .int .i64 0, .int .i64 0, .string (⟨#[]⟩ : ByteArray), .bool false, .complex .f64 0 0, .int .i64 0]) ?_ 1 _ rfl; (with_reducible repeat (first | refine blk_drewN ?_ _ | refine blk_drew ?_ | refine blk_alloc ?_ _)); refine blk_put (cs := #[.int .i64 0, .string (⟨#[]⟩ : ByteArray), .int .i64 0, .int .i64 0, .int .i64 0, .string (⟨#[]⟩ : ByteArray), .bool false, .complex .f64 0 0, .int .i64 0]) ?_ 0 _ rfl; (with_reducible repeat (first | refine blk_drewN ?_ _ | refine blk_drew ?_ | refine blk_alloc ?_ _)); exact BK284.out⟩
                    have n2_ : Aside0 (Below w.heap.size w (((((((((w77.setCell ⟨gb284, 0, none⟩ (.int .i64 ((rd_T54 l0 x16_1).f0))).setCell ⟨gb284, 1, none⟩ (.string ((rd_T54 l0 x16_1).f1))).setCell ⟨gb284, 2, none⟩ (.int .i64 ((rd_T54 l0 x16_1).f2))).setCell ⟨gb284, 3, none⟩ (.int .i64 ((rd_T54 l0 x16_1).f3.f0))).setCell ⟨gb284, 4, none⟩ (.int .i64 ((rd_T54 l0 x16_1).f3.f1))).setCell ⟨gb284, 5, none⟩ (.string ((rd_T54 l0 x16_1).f3.f2))).setCell ⟨gb284, 6, none⟩ (.bool ((rd_T54 l0 x16_1).f3.f3))).setCell ⟨gb284, 7, none⟩ (.complex .f64 ((rd_T54 l0 x16_1).f3.f4).re ((rd_T54 l0 x16_1).f3.f4).im)).setCell ⟨gb284, 8, none⟩ (.int .i64 ((rd_T54 l0 x16_1).f4)))) := ⟨Bl⟩
                    (try clear HO_5)
                    (try clear BK284)
                    (try clear HB)
                    generalize (((((((((w77.setCell ⟨gb284, 0, none⟩ (.int .i64 ((rd_T54 l0 x16_1).f0))).setCell ⟨gb284, 1, none⟩ (.string ((rd_T54 l0 x16_1).f1))).setCell ⟨gb284, 2, none⟩ (.int .i64 ((rd_T54 l0 x16_1).f2))).setCell ⟨gb284, 3, none⟩ (.int .i64 ((rd_T54 l0 x16_1).f3.f0))).setCell ⟨gb284, 4, none⟩ (.int .i64 ((rd_T54 l0 x16_1).f3.f1))).setCell ⟨gb284, 5, none⟩ (.string ((rd_T54 l0 x16_1).f3.f2))).setCell ⟨gb284, 6, none⟩ (.bool ((rd_T54 l0 x16_1).f3.f3))).setCell ⟨gb284, 7, none⟩ (.complex .f64 ((rd_T54 l0 x16_1).f3.f4).re ((rd_T54 l0 x16_1).f3.f4).im)).setCell ⟨gb284, 8, none⟩ (.int .i64 ((rd_T54 l0 x16_1).f4))) = w80 at n0_ n1_ n2_ ⊢
                    have HO_5 := n0_
                    have BK284 := n1_
                    have HB := n2_
                    clear n0_ n1_ n2_
                    have n0_ := Aside0.mk (Kd.R_drew HO_5.out)
                    have n1_ := Aside0.mk (blk_drew BK284.out)
                    have n2_ := Aside0.mk (below_drew1 HB.out)
                    clear HO_5
                    clear BK284
                    clear HB
                    have HO_5 := n0_
                    have BK284 := n1_
                    have HB := n2_
                    clear n0_ n1_ n2_
                    have p306 : 0 ≤ ((ji65) : Int) := of_decide_eq_true (As)
                    have q306 : (ji65) < (x5_1.length : Int) := of_decide_eq_true (As)
                    obtain ⟨ad306, e306, hx306_0, hx306_1⟩ := at_T66 (Kd.R_reads' HO_5.out).2.2 (ji65) p306 q306
                    cases e306
                    replace p306 := eq_true p306
                    replace q306 := eq_true q306
                    have p308 : 0 ≤ ((ji70) : Int) := of_decide_eq_true (As)
                    have q308 : (ji70) < (x5_1.length : Int) := of_decide_eq_true (As)
                    obtain ⟨ad308, e308, hx308_0, hx308_1⟩ := at_T66 (Kd.R_reads' HO_5.out).2.2 (ji70) p308 q308
                    obtain rfl : ad306 = ad308 := (by injection e308)
                    replace p308 := eq_true p308
                    replace q308 := eq_true q308
                    refine start_ (n := 19) (S := fun w' => w'.cell? (ad306.add (((ji65)).toNat * 2)) = some (.string ((rd_T66 x5_1 (ji65)).f0)) ∧ w'.cell? ⟨(ad306.add (((ji65)).toNat * 2)).block, (ad306.add (((ji65)).toNat * 2)).off + 1, none⟩ = some (.int .i64 ((rd_T66 x5_1 (ji65)).f1)) ∧ w'.cell? (ad306.add (((ji70)).toNat * 2)) = some (.string ((rd_T66 x5_1 (ji70)).f0)) ∧ w'.cell? ⟨(ad306.add (((ji70)).toNat * 2)).block, (ad306.add (((ji70)).toNat * 2)).off + 1, none⟩ = some (.int .i64 ((rd_T66 x5_1 (ji70)).f1))) (ds := [18]) #[false, false, false, false, false, false, false, false, false, false, false, false, false, false, false, false, false, false, false] (by kernel_rfl) rfl rfl ⟨hx306_0, hx306_1, hx308_0, hx308_1⟩ (fun hHeld => ?_); refine with_tabW pred_Print.tab22 pred_Print.bits22 (fun HT_ HW_ => ?_)
                    generalize w80.drew = w81 at HO_5 BK284 HB hx306_0 hx306_1 hx308_0 hx308_1 hHeld ⊢
                    refine pure_ (i := 0) (N := some 82) (v := ?_) (a' := ?_) #[true, false, false, false, false, false, false, false, false, false, false, false, false, false, false, false, false, false, false] rfl rfl (any_of HT_.out (by kernel_rfl)) (fun _ _ _ h => h) (Or.inl ⟨by rfl, ?_⟩) ?_ ?_
                    rotate_left
                    ·intro w'
                     go_simp
                     with_reducible rfl
                    rotate_left
                    ·simp only [Act.put, List.setIfInBounds_toArray, List.set_cons_zero, List.set_cons_succ, i64_w, i32_w]
                     rfl
                    refine pure_ (i := 1) (N := some 83) (v := ?_) (a' := ?_) #[true, true, false, false, false, false, false, false, false, false, false, false, false, false, false, false, false, false, false] rfl rfl (any_of HT_.out (by kernel_rfl)) (fun _ _ _ h => h) (Or.inl ⟨by rfl, ?_⟩) ?_ ?_
                    rotate_left
                    ·intro w'
                     go_simp
                     with_reducible rfl
                    rotate_left
                    ·simp only [Act.put, List.setIfInBounds_toArray, List.set_cons_zero, List.set_cons_succ, i64_w, i32_w]
                     rfl
                    refine pure_ (i := 2) (N := some 84) (v := ?_) (a' := ?_) #[true, true, true, false, false, false, false, false, false, false, false, false, false, false, false, false, false, false, false] rfl rfl (any_of HT_.out (by kernel_rfl)) (fun _ _ _ h => h) (Or.inl ⟨by rfl, ?_⟩) ?_ ?_
                    rotate_left
                    ·intro w'
                     go_simp
                     with_reducible rfl
                    rotate_left
                    ·simp only [Act.put, List.setIfInBounds_toArray, List.set_cons_zero, List.set_cons_succ, i64_w, i32_w]
                     rfl
                    refine pure_ (i := 3) (N := some 85) (v := ?_) (a' := ?_) #[true, true, true, true, false, false, false, false, false, false, false, false, false, false, false, false, false, false, false] rfl rfl (any_of HT_.out (by kernel_rfl)) (fun _ _ _ h => h) (Or.inl ⟨by rfl, ?_⟩) ?_ ?_
                    rotate_left
                    ·intro w'
                     go_simp
                     with_reducible rfl
                    rotate_left
                    ·simp only [Act.put, List.setIfInBounds_toArray, List.set_cons_zero, List.set_cons_succ, i64_w, i32_w]
                     rfl
                    refine pure_ (i := 4) (N := some 86) (v := ?_) (a' := ?_) #[true, true, true, true, true, false, false, false, false, false, false, false, false, false, false, false, false, false, false] rfl rfl (any_of HT_.out (by kernel_rfl)) (fun _ _ _ h => h) (Or.inl ⟨by rfl, ?_⟩) ?_ ?_
                    rotate_left
                    ·intro w'
                     go_simp
                     with_reducible rfl
                    rotate_left
                    ·simp only [Act.put, List.setIfInBounds_toArray, List.set_cons_zero, List.set_cons_succ, i64_w, i32_w]
                     rfl
                    refine pure_ (i := 5) (N := some 87) (v := ?_) (a' := ?_) #[true, true, true, true, true, true, false, false, false, false, false, false, false, false, false, false, false, false, false] rfl rfl (any_of HT_.out (by kernel_rfl)) (fun _ _ _ h => h) (Or.inl ⟨by rfl, ?_⟩) ?_ ?_
                    rotate_left
                    ·intro w'
                     go_simp
                     with_reducible rfl
                    rotate_left
                    ·simp only [Act.put, List.setIfInBounds_toArray, List.set_cons_zero, List.set_cons_succ, i64_w, i32_w]
                     rfl
                    refine pure_ (i := 6) (N := some 88) (v := ?_) (a' := ?_) #[true, true, true, true, true, true, true, false, false, false, false, false, false, false, false, false, false, false, false] rfl rfl (any_of HT_.out (by kernel_rfl)) (fun _ _ _ h => h) (Or.inl ⟨by rfl, ?_⟩) ?_ ?_
                    rotate_left
                    ·intro w'
                     go_simp
                     with_reducible rfl
                    rotate_left
                    ·simp only [Act.put, List.setIfInBounds_toArray, List.set_cons_zero, List.set_cons_succ, i64_w, i32_w]
                     rfl
                    refine pure_ (i := 10) (N := some 92) (v := ?_) (a' := ?_) #[true, true, true, true, true, true, true, false, false, false, true, false, false, false, false, false, false, false, false] rfl rfl (any_of HT_.out (by kernel_rfl)) (fun _ _ _ h => h) (Or.inl ⟨by rfl, ?_⟩) ?_ ?_
                    rotate_left
                    ·intro w'
                     go_simp
                     with_reducible rfl
                    rotate_left
                    ·simp only [Act.put, List.setIfInBounds_toArray, List.set_cons_zero, List.set_cons_succ, i64_w, i32_w]
                     rfl
                    refine pure_ (i := 11) (N := some 93) (v := ?_) (a' := ?_) #[true, true, true, true, true, true, true, false, false, false, true, true, false, false, false, false, false, false, false] rfl rfl (any_of HT_.out (by kernel_rfl)) (fun _ _ _ h => h) (Or.inl ⟨by rfl, ?_⟩) ?_ ?_
                    rotate_left
                    ·intro w'
                     go_simp
                     with_reducible rfl
                    rotate_left
                    ·simp only [Act.put, List.setIfInBounds_toArray, List.set_cons_zero, List.set_cons_succ, i64_w, i32_w]
                     rfl
                    refine pure_ (i := 12) (N := some 94) (v := ?_) (a' := ?_) #[true, true, true, true, true, true, true, false, false, false, true, true, true, false, false, false, false, false, false] rfl rfl (any_of HT_.out (by kernel_rfl)) (fun _ _ _ h => h) (Or.inl ⟨by rfl, ?_⟩) ?_ ?_
                    rotate_left
                    ·intro w'
                     go_simp
                     with_reducible rfl
                    rotate_left
                    ·simp only [Act.put, List.setIfInBounds_toArray, List.set_cons_zero, List.set_cons_succ, i64_w, i32_w]
                     rfl
                    refine take_ (i := 7) (N := some 89) (v := ?_) (a' := ?_) #[true, true, true, true, true, true, true, true, false, false, true, true, true, false, false, false, false, false, false] rfl rfl (take_ofW HT_.out HW_.out (by kernel_rfl)) (fun _ _ _ h => h) (Or.inl ⟨by rfl, ?_⟩) hHeld ?_ ?_
                    rotate_left
                    ·rintro w' ⟨s0, s1, s2, s3⟩
                     go_simp
                     with_reducible rfl
                    rotate_left
                    ·simp only [Act.put, List.setIfInBounds_toArray, List.set_cons_zero, List.set_cons_succ, i64_w, i32_w]
                     rfl
                    refine take_ (i := 13) (N := some 95) (v := ?_) (a' := ?_) #[true, true, true, true, true, true, true, true, false, false, true, true, true, true, false, false, false, false, false] rfl rfl (take_ofW HT_.out HW_.out (by kernel_rfl)) (fun _ _ _ h => h) (Or.inl ⟨by rfl, ?_⟩) hHeld ?_ ?_
                    rotate_left
                    ·rintro w' ⟨s0, s1, s2, s3⟩
                     go_simp
                     with_reducible rfl
                    rotate_left
                    ·simp only [Act.put, List.setIfInBounds_toArray, List.set_cons_zero, List.set_cons_succ, i64_w, i32_w]
                     rfl
                    refine one_ (i := 8) (N := some 90) #[true, true, true, true, true, true, true, true, true, false, true, true, true, true, false, false, false, false, false] rfl rfl (one_of HT_.out (by kernel_rfl)) (by decide) (fun K hK => ?_)
                    refine goes_ Try.func22 (by kernel_rfl) rfl #[.agg #[.string ((rd_T66 x5_1 (ji65)).f0), .int .i64 ((rd_T66 x5_1 (ji65)).f1)], .int .i64 0] (by rfl) rfl rfl (by (try simp only [List.map_toArray, List.map_cons, List.map_nil]); first | done | (simp only [hji65]; rfl) | rfl | (simp only [List.length_drop, List.length_take]; rfl)) ?_
                    with_reducible refine (pred_printed_within.calls ((rd_T66 x5_1 (ji65)).f0) ((rd_T66 x5_1 (ji65)).f1) 0 t307 _ A68.out).mono ?_
                    rintro e w82 ⟨rfl, hb⟩
                    have HS0_ := (hb.cell (World.block_lt_of_cell? _ _ (hHeld.1))).trans (hHeld.1)
                    have HS1_ := (hb.cell (World.block_lt_of_cell? _ _ (hHeld.2.1))).trans (hHeld.2.1)
                    have HS2_ := (hb.cell (World.block_lt_of_cell? _ _ (hHeld.2.2.1))).trans (hHeld.2.2.1)
                    have HS3_ := (hb.cell (World.block_lt_of_cell? _ _ (hHeld.2.2.2))).trans (hHeld.2.2.2)
                    refine ⟨_, rfl, ?_⟩
                    have n0_ := Aside0.mk (Kd.R_below (Rw HO_5.out) hb)
                    have n1_ := Aside0.mk (blk_below (g := gb284) (o := .cells #[.int .i64 ((rd_T54 l0 x16_1).f0), .string ((rd_T54 l0 x16_1).f1), .int .i64 ((rd_T54 l0 x16_1).f2), .int .i64 ((rd_T54 l0 x16_1).f3.f0), .int .i64 ((rd_T54 l0 x16_1).f3.f1), .string ((rd_T54 l0 x16_1).f3.f2), .bool ((rd_T54 l0 x16_1).f3.f3), .complex .f64 ((rd_T54 l0 x16_1).f3.f4).re ((rd_T54 l0 x16_1).f3.f4).im, .int .i64 ((rd_T54 l0 x16_1).f4)] 54 (0, 0)) (Bk BK284.out) hb)
                    have n2_ := Aside0.mk (below_step (Bl) hb)
                    clear HO_5
                    clear BK284
                    clear HB
                    have HO_5 := n0_
                    have BK284 := n1_
                    have HB := n2_
                    clear n0_ n1_ n2_
                    (try clear hb)
                    (try clear hb2)
                    (try clear hk)
                    (try clear hi)
                    refine hK.out _ _ ⟨HS0_, HS1_, HS2_, HS3_⟩ (fun hHeld => ?_)
                    clear hK K
                    refine norm_ (a' := ?_) ?_ ?_
                    rotate_left
                    ·show Act.put _ (some 90) _ = _
                     simp only [Act.put, List.setIfInBounds_toArray, List.set_cons_zero, List.set_cons_succ, i64_w, i32_w]
                     rfl
                    refine pure_ (i := 9) (N := some 91) (v := ?_) (a' := ?_) #[true, true, true, true, true, true, true, true, true, true, true, true, true, true, false, false, false, false, false] rfl rfl (any_of HT_.out (by kernel_rfl)) (fun _ _ _ h => h) (Or.inl ⟨by rfl, ?_⟩) ?_ ?_
                    rotate_left
                    ·intro w'
                     go_simp
                     with_reducible rfl
                    rotate_left
                    ·simp only [Act.put, List.setIfInBounds_toArray, List.set_cons_zero, List.set_cons_succ, i64_w, i32_w]
                     rfl
                    refine one_ (i := 14) (N := some 96) #[true, true, true, true, true, true, true, true, true, true, true, true, true, true, true, false, false, false, false] rfl rfl (one_of HT_.out (by kernel_rfl)) (by decide) (fun K hK => ?_)
                    refine goes_ Try.func22 (by kernel_rfl) rfl #[.agg #[.string ((rd_T66 x5_1 (ji70)).f0), .int .i64 ((rd_T66 x5_1 (ji70)).f1)], .int .i64 1] (by rfl) rfl rfl (by (try simp only [List.map_toArray, List.map_cons, List.map_nil]); first | done | (simp only [hji70]; rfl) | rfl | (simp only [List.length_drop, List.length_take]; rfl)) ?_
                    with_reducible refine (pred_printed_within.calls ((rd_T66 x5_1 (ji70)).f0) ((rd_T66 x5_1 (ji70)).f1) 1 t309 _ A73.out).mono ?_
                    rintro e w83 ⟨rfl, hb⟩
                    have HS0_ := (hb.cell (World.block_lt_of_cell? _ _ (hHeld.1))).trans (hHeld.1)
                    have HS1_ := (hb.cell (World.block_lt_of_cell? _ _ (hHeld.2.1))).trans (hHeld.2.1)
                    have HS2_ := (hb.cell (World.block_lt_of_cell? _ _ (hHeld.2.2.1))).trans (hHeld.2.2.1)
                    have HS3_ := (hb.cell (World.block_lt_of_cell? _ _ (hHeld.2.2.2))).trans (hHeld.2.2.2)
                    refine ⟨_, rfl, ?_⟩
                    have n0_ := Aside0.mk (Kd.R_below (Rw HO_5.out) hb)
                    have n1_ := Aside0.mk (blk_below (g := gb284) (o := .cells #[.int .i64 ((rd_T54 l0 x16_1).f0), .string ((rd_T54 l0 x16_1).f1), .int .i64 ((rd_T54 l0 x16_1).f2), .int .i64 ((rd_T54 l0 x16_1).f3.f0), .int .i64 ((rd_T54 l0 x16_1).f3.f1), .string ((rd_T54 l0 x16_1).f3.f2), .bool ((rd_T54 l0 x16_1).f3.f3), .complex .f64 ((rd_T54 l0 x16_1).f3.f4).re ((rd_T54 l0 x16_1).f3.f4).im, .int .i64 ((rd_T54 l0 x16_1).f4)] 54 (0, 0)) (Bk BK284.out) hb)
                    have n2_ := Aside0.mk (below_step (Bl) hb)
                    clear HO_5
                    clear BK284
                    clear HB
                    have HO_5 := n0_
                    have BK284 := n1_
                    have HB := n2_
                    clear n0_ n1_ n2_
                    (try clear hb)
                    (try clear hb2)
                    (try clear hk)
                    (try clear hi)
                    have p75 : 0 ≤ ((ji65) : Int) := of_decide_eq_true (As)
                    have q75 : ((ji65) : Int) < ((x5_1.length : Int) : Int) := of_decide_eq_true (As)
                    obtain ⟨go75, co75, eo75, gb75, gl75, cl75, HG75⟩ := Kd.R_form HO_5.out (by omega)
                    (first | cases eo75 | (injection eo75 with ea_ en_ ec_; (first | subst ea_ | (injection ea_ with ea_; subst ea_)); subst ec_; clear en_))
                    have GB75 := Aside0.mk gb75
                    have GG75 := Aside0.mk HG75
                    clear gb75 gl75 HG75
                    (first | simp only [add_plain] at hx306_0 | skip)
                    (first | simp only [add_plain] at hx306_1 | skip)
                    (first | simp only [add_plain] at hx308_0 | skip)
                    (first | simp only [add_plain] at hx308_1 | skip)
                    obtain ⟨ce75, hcl75, hM75, hcc75, hfr75⟩ := Kd.R_elem HO_5.out z66 ((ji65) : Int) p75 q75
                    obtain rfl := k66_openM hM75
                    have hx75_0 : World.cell? _ ⟨go75, ((ji65) : Int).toNat * 2, none⟩ = some (.string ((rd_T66 x5_1 (ji65)).f0)) := hcc75 0 _ rfl
                    have hx75_1 : World.cell? _ ⟨go75, ((ji65) : Int).toNat * 2 + 1, none⟩ = some (.int .i64 ((rd_T66 x5_1 (ji65)).f1)) := hcc75 1 _ rfl
                    have hf75_0 : World.frozen? _ ⟨go75, ((ji65) : Int).toNat * 2, none⟩ = false := hfr75 0
                    have hf75_1 : World.frozen? _ ⟨go75, ((ji65) : Int).toNat * 2 + 1, none⟩ = false := hfr75 1
                    clear hcl75 hcc75 hfr75; (try clear hM75)
                    replace p75 := eq_true p75
                    replace q75 := eq_true q75
                    obtain ⟨ce84, hcl84, hM84, hcc84, hfr84⟩ := Kd.R_elem HO_5.out z66 ((ji65) : Int) (of_decide_eq_true (As)) (by have h_ : ((ji65) : Int) < ((x5_1.length : Int) : Int) := of_decide_eq_true (As); first | exact h_ | (have e_ := (Kd.R_reads' HO_5.out).1; omega) | simpa using h_)
                    obtain rfl := k66_openM hM84
                    have HP84 := (Kd.R_seg HO_5.out ((ji65) : Int) (of_decide_eq_true (As)) (by have h_ : ((ji65) : Int) < ((x5_1.length : Int) : Int) := of_decide_eq_true (As); first | exact h_ | (have e_ := (Kd.R_reads' HO_5.out).1; omega) | simpa using h_) (seg := [.string ((t307 ++ (⟨#[32, 124, 32]⟩ : ByteArray)) ++ t309), .int .i64 0]) (j := 0) hcl84 hcc84 (show 2 ≤ 2 from by decide) (x' := (⟨(t307 ++ (⟨#[32, 124, 32]⟩ : ByteArray)) ++ t309, 0⟩ : S66)) (k66_mkM _ _ _ (⟨(t307 ++ (⟨#[32, 124, 32]⟩ : ByteArray)) ++ t309, 0⟩ : S66) ) (fun _ hk => hk)).1
                    rw [← Ny310.out] at HP84
                    have HQ84 := Aside0.mk HP84
                    clear hcl84 hcc84 hfr84 HP84; (try clear hM84)
                    refine hK.out _ _ ⟨HS0_, HS1_, HS2_, HS3_⟩ (fun hHeld => ?_)
                    clear hK K
                    refine norm_ (a' := ?_) ?_ ?_
                    rotate_left
                    ·show Act.put _ (some 96) _ = _
                     simp only [Act.put, List.setIfInBounds_toArray, List.set_cons_zero, List.set_cons_succ, i64_w, i32_w]
                     rfl
                    refine pure_ (i := 15) (N := some 97) (v := ?_) (a' := ?_) #[true, true, true, true, true, true, true, true, true, true, true, true, true, true, true, true, false, false, false] rfl rfl (any_of HT_.out (by kernel_rfl)) (fun _ _ _ h => h) (Or.inl ⟨by rfl, ?_⟩) ?_ ?_
                    rotate_left
                    ·intro w'
                     go_simp
                     with_reducible rfl
                    rotate_left
                    ·simp only [Act.put, List.setIfInBounds_toArray, List.set_cons_zero, List.set_cons_succ, i64_w, i32_w]
                     rfl
                    refine pure_ (i := 16) (N := some 98) (v := ?_) (a' := ?_) #[true, true, true, true, true, true, true, true, true, true, true, true, true, true, true, true, true, false, false] rfl rfl (any_of HT_.out (by kernel_rfl)) (fun _ _ _ h => h) (Or.inl ⟨by rfl, ?_⟩) ?_ ?_
                    rotate_left
                    ·intro w'
                     go_simp
                     with_reducible rfl
                    rotate_left
                    ·simp only [Act.put, List.setIfInBounds_toArray, List.set_cons_zero, List.set_cons_succ, i64_w, i32_w]
                     rfl
                    refine pure_ (i := 17) (N := some 99) (v := ?_) (a' := ?_) #[true, true, true, true, true, true, true, true, true, true, true, true, true, true, true, true, true, true, false] rfl rfl (any_of HT_.out (by kernel_rfl)) (fun _ _ _ h => h) (Or.inl ⟨by rfl, ?_⟩) ?_ ?_
                    rotate_left
                    ·intro w'
                     go_simp
                     with_reducible rfl
                    rotate_left
                    ·simp only [Act.put, List.setIfInBounds_toArray, List.set_cons_zero, List.set_cons_succ, i64_w, i32_w]
                     rfl
                    refine last_ (i := 18) (N := none) #[true, true, true, true, true, true, true, true, true, true, true, true, true, true, true, true, true, true, true] rfl rfl (one_of HT_.out (by kernel_rfl)) (by decide) (fun K hK => ?_)
                    refine skip_ (w1 := ?_) (by rfl) rfl ?_ ?_
                    rotate_left
                    ·go_simp
                     rfl
                    refine hK.out _ _ ?_
                    clear hK K
                    refine done_ (done_of HT_.out (by kernel_rfl)) ?_
                    have n0_ : Aside0 (Kd.R k66 66 ((w83.setCell ⟨go75, ((ji65) : Int).toNat * 2, none⟩ (.string ((t307 ++ (⟨#[32, 124, 32]⟩ : ByteArray)) ++ t309))).setCell ⟨go75, ((ji65) : Int).toNat * 2 + 1, none⟩ (.int .i64 0)) w.heap.size (fun _ => True) (.slice (some ⟨go75, 0, none⟩) x5_1.length co79) y310) := ⟨Rw HQ84.out⟩
                    have n1_ : Aside0 (((w83.setCell ⟨go75, ((ji65) : Int).toNat * 2, none⟩ (.string ((t307 ++ (⟨#[32, 124, 32]⟩ : ByteArray)) ++ t309))).setCell ⟨go75, ((ji65) : Int).toNat * 2 + 1, none⟩ (.int .i64 0)).heap[gb284]? = some (.cells #[.int .i64 ((rd_T54 l0 x16_1).f0), .string ((rd_T54 l0 x16_1).f1), .int .i64 ((rd_T54 l0 x16_1).f2), .int .i64 ((rd_T54 l0 x16_1).f3.f0), .int .i64 ((rd_T54 l0 x16_1).f3.f1), .string ((rd_T54 l0 x16_1).f3.f2), .bool ((rd_T54 l0 x16_1).f3.f3), .complex .f64 ((rd_T54 l0 x16_1).f3.f4).re ((rd_T54 l0 x16_1).f3.f4).im, .int .i64 ((rd_T54 l0 x16_1).f4)] 54 (0, 0))) := ⟨by (with_reducible repeat (first | refine blk_drewN ?_ _ | refine blk_drew ?_ | refine blk_alloc ?_ _)); refine blk_far ?_ (by have h_ := Kd.R_ne HO_5.out BK284.out (by decide); intro e_; exact h_ (by rw [e_]; rfl)) _; (with_reducible repeat (first | refine blk_drewN ?_ _ | refine blk_drew ?_ | refine blk_alloc ?_ _)); refine blk_far ?_ (by have h_ := Kd.R_ne HO_5.out BK284.out (by decide); intro e_; exact h_ (by rw [e_]; rfl)) _; (with_reducible repeat (first | refine blk_drewN ?_ _ | refine blk_drew ?_ | refine blk_alloc ?_ _)); exact BK284.out⟩
                    have n2_ : Aside0 (Below w.heap.size w ((w83.setCell ⟨go75, ((ji65) : Int).toNat * 2, none⟩ (.string ((t307 ++ (⟨#[32, 124, 32]⟩ : ByteArray)) ++ t309))).setCell ⟨go75, ((ji65) : Int).toNat * 2 + 1, none⟩ (.int .i64 0))) := ⟨by repeat (first | (with_reducible first | exact HB.out | apply below_alloc | apply pw_below_drewN | apply below_drew1 | refine below_set ?_ GB75.out | refine below_set ?_ GB75.out | refine below_set ?_ GE284.out) | exact HB.out)⟩
                    (try clear HO_5)
                    (try clear BK284)
                    (try clear HB)
                    generalize ((w83.setCell ⟨go75, ((ji65) : Int).toNat * 2, none⟩ (.string ((t307 ++ (⟨#[32, 124, 32]⟩ : ByteArray)) ++ t309))).setCell ⟨go75, ((ji65) : Int).toNat * 2 + 1, none⟩ (.int .i64 0)) = w85 at n0_ n1_ n2_ ⊢
                    have HO_5 := n0_
                    have BK284 := n1_
                    have HB := n2_
                    clear n0_ n1_ n2_
                    have q86 : ((ji70) : Int) ≤ ((x5_1.length : Int) : Int) := of_decide_eq_true (As)
                    obtain ⟨i086, hi086, _, hsz86, _⟩ := info_parts info66
                    have hcut86 := cut_to (P := Try.prog) 64 66 .i64 Try.underlying64 hi086 (some ⟨go75, 0, none⟩) x5_1.length co79 (ji70) (of_decide_eq_true (As)) q86 (Kd.R_reads' HO_5.out).2.1
                    have hr86 := Kd.R_take (m := ((ji70) : Int).toNat) HO_5.out (by omega)
                    have hy86 : y311.length = ((ji70) : Int).toNat := (by rw [Ny311.out, List.length_take]; omega)
                    rw [← Ny311.out] at hr86
                    rw [← hy86] at hr86 hcut86
                    clear hy86 hi086 hsz86 HO_5
                    have HO313 := Aside0.mk hr86
                    clear hr86
                    replace q86 := eq_true q86
                    try go_wp2
                    go_roundg k1
                    case measure => have := HK1.out; omega
                    case rel => exact ⟨(y311), (wrap64 (x16_1 + 1)), (by first | rfl | (simp; done) | (simp [*]; done)), H', ⟨by have := HK1.out; omega⟩, ⟨Rw HO313.out⟩, ⟨Bl⟩⟩
                   ·rw [if_neg c76] at H
                    exact absurd H (by simp)
                  ·rw [if_neg c74] at H
                   exact absurd H (by simp)
                 ·rw [if_neg c72] at H
                  exact absurd H (by simp)
                ·rw [if_neg c71] at H
                 exact absurd H (by simp)
               ·rw [if_neg c69] at H
                exact absurd H (by simp)
              ·rw [if_neg c67] at H
               exact absurd H (by simp)
             ·rw [if_neg c66] at H
              exact absurd H (by simp)
            ·rw [if_neg c64] at H
             have c64b0 : (((rd_T54 l0 x16_1).f0) == 6) = false := beq_eq_false_iff_ne.mpr c64
             have c64b1 : (((rd_T54 l0 x16_1).f0) != 6) = true := bne_iff_ne.mpr c64
             have H' := Aside0.mk H
             clear H
             have p283 : 0 ≤ (x16_1 : Int) := of_decide_eq_true (As)
             have q283 : x16_1 < (l0.length : Int) := of_decide_eq_true (As)
             obtain ⟨ad283, e283, hx283_0, hx283_1, hx283_2, hx283_3, hx283_4, hx283_5, hx283_6, hx283_7, hx283_8⟩ := at_T54 HR0.out x16_1 p283 q283
             cases e283
             replace hx283_0 := (HB.out.cell (World.block_lt_of_cell? w _ hx283_0)).trans hx283_0
             replace hx283_1 := (HB.out.cell (World.block_lt_of_cell? w _ hx283_1)).trans hx283_1
             replace hx283_2 := (HB.out.cell (World.block_lt_of_cell? w _ hx283_2)).trans hx283_2
             replace hx283_3 := (HB.out.cell (World.block_lt_of_cell? w _ hx283_3)).trans hx283_3
             replace hx283_4 := (HB.out.cell (World.block_lt_of_cell? w _ hx283_4)).trans hx283_4
             replace hx283_5 := (HB.out.cell (World.block_lt_of_cell? w _ hx283_5)).trans hx283_5
             replace hx283_6 := (HB.out.cell (World.block_lt_of_cell? w _ hx283_6)).trans hx283_6
             replace hx283_7 := (HB.out.cell (World.block_lt_of_cell? w _ hx283_7)).trans hx283_7
             replace hx283_8 := (HB.out.cell (World.block_lt_of_cell? w _ hx283_8)).trans hx283_8
             replace p283 := eq_true p283
             replace q283 := eq_true q283
             go_wp2_with (first | ((with_reducible refine gate_dst (N := 7) rfl ?_); refine box_event ?hg (N := 7) ?hd (cs := #[.int .i64 0, .string (⟨#[]⟩ : ByteArray), .int .i64 0, .int .i64 0, .int .i64 0, .string (⟨#[]⟩ : ByteArray), .bool false, .complex .f64 0 0, .int .i64 0]) (t := 54) ?hr ?_; (case hd => rfl); (case hg => rfl); (case hr => first | (go_simp; done) | (go_simp; rfl)); intro gb284 hg w87 hbox hb; have n0_ := Aside0.mk (Kd.R_below (Rw HO_5.out) hb); have n1_ := Aside0.mk (below_step (Bl) hb); have n2_ := Aside0.mk (hbox); have n3_ := Aside0.mk ((by rw [hg]; exact (below_size (Bl)) : w.heap.size ≤ gb284)); have n4_ := Aside0.mk ((by rw [hg]; exact (below_size (Bl)) : w.heap.size ≤ gb284)); clear HO_5; clear HB; have HO_5 := n0_; have HB := n1_; have BK284 := n2_; have GW284 := n3_; have GE284 := n4_; clear n0_ n1_ n2_ n3_ n4_; clear hb hbox hg; obtain ⟨_, _, _, _, _, _, _, _, _⟩ := cz9 BK284.out; obtain ⟨_, _, _, _, _, _, _, _, _⟩ := fz9 BK284.out; obtain ⟨Ao89, co89, eo89⟩ := Kd.R_slice HO_5.out; subst eo89))
             go_roundg k1
             case measure => have := HK1.out; omega
             case rel => exact ⟨(x5_1), (wrap64 (x16_1 + 1)), (by first | rfl | (simp; done) | (simp [*]; done)), H', ⟨by have := HK1.out; omega⟩, ⟨by (with_reducible repeat (first | apply Kd.R_alloc | apply Kd.R_drewN | apply Kd.R_drew)); exact Kd.R_mono (Kd.R_far (p := ⟨gb284, 8, none⟩) (Kd.R_far (p := ⟨gb284, 7, none⟩) (Kd.R_far (p := ⟨gb284, 6, none⟩) (Kd.R_far (p := ⟨gb284, 5, none⟩) (Kd.R_far (p := ⟨gb284, 4, none⟩) (Kd.R_far (p := ⟨gb284, 3, none⟩) (Kd.R_far (p := ⟨gb284, 2, none⟩) (Kd.R_far (p := ⟨gb284, 1, none⟩) (Kd.R_far (p := ⟨gb284, 0, none⟩) (Kd.R_types HO_5.out BK284.out (by decide)) (fun _ hk => hk.2) (.int .i64 ((rd_T54 l0 x16_1).f0))) (fun _ hk => hk.2) (.string ((rd_T54 l0 x16_1).f1))) (fun _ hk => hk.2) (.int .i64 ((rd_T54 l0 x16_1).f2))) (fun _ hk => hk.2) (.int .i64 ((rd_T54 l0 x16_1).f3.f0))) (fun _ hk => hk.2) (.int .i64 ((rd_T54 l0 x16_1).f3.f1))) (fun _ hk => hk.2) (.string ((rd_T54 l0 x16_1).f3.f2))) (fun _ hk => hk.2) (.bool ((rd_T54 l0 x16_1).f3.f3))) (fun _ hk => hk.2) (.complex .f64 ((rd_T54 l0 x16_1).f3.f4).re ((rd_T54 l0 x16_1).f3.f4).im)) (fun _ hk => hk.2) (.int .i64 ((rd_T54 l0 x16_1).f4))) (fun _ hk => trivial)⟩, ⟨Bl⟩⟩
      ·rw [if_neg c7] at H
       exact absurd H (by simp)
     ·rw [if_neg c6] at H
      exact absurd H (by simp)
    ·rw [if_neg c5] at H
     have c5b0 : decide (x16_1 < (l0.length : Int)) = false := decide_eq_false c5
     clear c5
     by_cases c90 : 0 < (x5_1.length : Int)
     ·rw [if_pos c90] at H
      have c90b0 : decide (0 < (x5_1.length : Int)) = true := decide_eq_true c90
      have c90b1 : decide (0 < x5_1.length) = true := decide_eq_true (by omega)
      clear c90
      by_cases c91 : (((rd_T66 x5_1 0).f0).size : Int) > 300
      ·rw [if_pos c91] at H
       have c91b0 : decide (300 < (((rd_T66 x5_1 0).f0).size : Int)) = true := decide_eq_true c91
       have c91b1 : decide (300 < ((rd_T66 x5_1 0).f0).size) = true := decide_eq_true (by omega)
       clear c91
       simp only [Option.some.injEq, Prod.mk.injEq] at H
       obtain ⟨rfl, rfl⟩ := H
       obtain ⟨Ao92, co92, eo92⟩ := Kd.R_slice HO_5.out
       subst eo92
       have p281 : 0 ≤ (0 : Int) := (by omega)
       have q281 : 0 < (x5_1.length : Int) := of_decide_eq_true (As)
       obtain ⟨ad281, e281, hx281_0, hx281_1⟩ := at_T66 (Kd.R_reads' HO_5.out).2.2 0 p281 q281
       cases e281
       have qi281 : (0 < x5_1.length) = True := eq_true (by omega)
       (try rw [show ((0 : Int)).toNat = 0 from rfl] at hx281_0)
       (try rw [show 0 * 2 = 0 from rfl] at hx281_0)
       (try rw [Addr.add_zero'] at hx281_0)
       (try rw [show ((0 : Int)).toNat = 0 from rfl] at hx281_1)
       (try rw [show 0 * 2 = 0 from rfl] at hx281_1)
       (try rw [Addr.add_zero'] at hx281_1)
       replace p281 := eq_true p281
       replace q281 := eq_true q281
       go_wp2
       go_ret2
       exact ⟨by first | rfl | (simp [errW_none, errW_some] <;> rfl) | (simp [*, errW_none, errW_some] <;> rfl), Bl⟩
      ·rw [if_neg c91] at H
       have c91b0 : decide (300 < (((rd_T66 x5_1 0).f0).size : Int)) = false := decide_eq_false c91
       have c91b1 : decide (300 < ((rd_T66 x5_1 0).f0).size) = false := decide_eq_false (by omega)
       clear c91
       simp only [Option.some.injEq, Prod.mk.injEq] at H
       obtain ⟨rfl, rfl⟩ := H
       obtain ⟨Ao93, co93, eo93⟩ := Kd.R_slice HO_5.out
       subst eo93
       have p281 : 0 ≤ (0 : Int) := (by omega)
       have q281 : 0 < (x5_1.length : Int) := of_decide_eq_true (As)
       obtain ⟨ad281, e281, hx281_0, hx281_1⟩ := at_T66 (Kd.R_reads' HO_5.out).2.2 0 p281 q281
       cases e281
       have qi281 : (0 < x5_1.length) = True := eq_true (by omega)
       (try rw [show ((0 : Int)).toNat = 0 from rfl] at hx281_0)
       (try rw [show 0 * 2 = 0 from rfl] at hx281_0)
       (try rw [Addr.add_zero'] at hx281_0)
       (try rw [show ((0 : Int)).toNat = 0 from rfl] at hx281_1)
       (try rw [show 0 * 2 = 0 from rfl] at hx281_1)
       (try rw [Addr.add_zero'] at hx281_1)
       replace p281 := eq_true p281
       replace q281 := eq_true q281
       have p282 : 0 ≤ (0 : Int) := (by omega)
       have q282 : 0 < (x5_1.length : Int) := of_decide_eq_true (As)
       obtain ⟨ad282, e282, hx282_0, hx282_1⟩ := at_T66 (Kd.R_reads' HO_5.out).2.2 0 p282 q282
       obtain rfl : ad281 = ad282 := (by injection e282)
       have qi282 : (0 < x5_1.length) = True := eq_true (by omega)
       (try rw [show ((0 : Int)).toNat = 0 from rfl] at hx282_0)
       (try rw [show 0 * 2 = 0 from rfl] at hx282_0)
       (try rw [Addr.add_zero'] at hx282_0)
       (try rw [show ((0 : Int)).toNat = 0 from rfl] at hx282_1)
       (try rw [show 0 * 2 = 0 from rfl] at hx282_1)
       (try rw [Addr.add_zero'] at hx282_1)
       replace p282 := eq_true p282
       replace q282 := eq_true q282
       go_wp2
       go_ret2
       exact ⟨by first | rfl | (simp [errW_none, errW_some] <;> rfl) | (simp [*, errW_none, errW_some] <;> rfl), Bl⟩
     ·rw [if_neg c90] at H
      exact absurd H (by simp)
 ·rw [if_neg c3] at H
  have c3b0 : (t280 == 0) = false := beq_eq_false_iff_ne.mpr c3
  have c3b1 : (t280 != 0) = true := bne_iff_ne.mpr c3
  simp only [Option.some.injEq, Prod.mk.injEq] at H
  obtain ⟨rfl, rfl⟩ := H
  go_enter Try.func10, Try.ntmps10
  go_wp2_with (first | ((with_reducible refine gate_callee (f := 11) rfl ?_); refine goesL_ (some 10) rfl rfl Try.func11 (by kernel_rfl) rfl #[.slice A0 l0.length c0] rfl (Mp) ?_; (with_reducible refine (pred_Check.calls k _ _ l0 t280 _ ?side1 ?side2 A2.out).mono ?_); (case side1 => repeat (first | exact HR0.out | (with_reducible refine Kd.C_alloc ?_ _) | (with_reducible refine Kd.C_drewN ?_ _) | (with_reducible refine Kd.C_drew ?_))); (case side2 => exact HC0.out); rintro e w94 ⟨rfl, hb⟩; refine ⟨_, rfl, ?_⟩; have n0_ := Aside0.mk (below_step (Bl) hb); clear HB; have HB := n0_; clear n0_; (try clear hb); (try clear hb2); (try clear hk); (try clear hi)))
  go_ret2
  exact ⟨by first | rfl | (simp [errW_none, errW_some] <;> rfl) | (simp [*, errW_none, errW_some] <;> rfl), Bl⟩

end Go.Proofs.Ytmgljgmieomngaa.Q
