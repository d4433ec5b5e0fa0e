/- Functions of the program as Lean functions, each with its walk: that the Go code comes to just these answers, whatever the memory. Written by a program of this claim (wip/tools). -/
import Derived.Test.YtmgljgmieomngaaMc
import Derived.Test.YtmgljgmieomngaaQx0
import Derived.Test.YtmgljgmieomngaaQx2
import Derived.Test.YtmgljgmieomngaaQx9
import Derived.Test.YtmgljgmieomngaaQx66
import Derived.Test.YtmgljgmieomngaaQx67
import Derived.Test.YtmgljgmieomngaaQx70
namespace Go.Proofs.Ytmgljgmieomngaa.Q
open Go.RowKit Go.Proofs.YtmgljgmieomngaaW.PrintWords Go.Proofs.YtmgljgmieomngaaW.PrintLast Go.Proofs.YtmgljgmieomngaaW.PrintMore
attribute [local go_sem] run_ftoi isSome_setCell bytesLess_total run_store_complex run_store_float max2_int min2_int max_two min_two max_three min_three max_four min_four   -- for this text's walks alone
set_option linter.unusedVariables false
set_option linter.unusedSimpArgs false

/-! ### pred_Put: function 14 -/
def pred_Put.l0 : Nat → List Int → List (S54) → Int → Int → Option (List Int × Int)
 | 0, _, _, _, _ => none
 | k + 1, x5, x21, x22, x23 => if x23 < x22 then (if 0 ≤ x23 then (if x23 < (x21.length : Int) then ((some (([((rd_T54 x21 x23).f0) % 256] : List Int) : List Int)).bind fun y473 => (if x5.length + y473.length < 140737488355328 then ((some (x5 ++ y473 : List Int)).bind fun y476 => (if ((rd_T54 x21 x23).f0) = 3 then ((octet_Text.f k ((rd_T54 x21 x23).f1)).bind fun bt479 => (if y476.length + bt479.1.length < 140737488355328 then ((some (y476 ++ bt479.1 : List Int)).bind fun y483 => ((some (([((rd_T54 x21 x23).f2) % 256] : List Int) : List Int)).bind fun y486 => (if y483.length + y486.length < 140737488355328 then ((some (y483 ++ y486 : List Int)).bind fun y489 => ((pred_bare.f ((rd_T54 x21 x23).f2)).bind fun t492 => (if t492 = true then (if ((rd_T54 x21 x23).f2) = 10 then ((octet_Uint.f k (IntKind.u64.wrap ((rd_T54 x21 x23).f4))).bind fun t493 => (if y489.length + t493.length < 140737488355328 then (pred_Put.l0 k (y489 ++ t493) x21 x22 (wrap64 (x23 + 1))) else (none))) else (pred_Put.l0 k y489 x21 x22 (wrap64 (x23 + 1)))) else ((value_Put.f k ((rd_T54 x21 x23).f3.f0) ((rd_T54 x21 x23).f3.f1) ((rd_T54 x21 x23).f3.f2) ((rd_T54 x21 x23).f3.f3) ((rd_T54 x21 x23).f3.f4)).bind fun bt499 => (if y489.length + bt499.1.length < 140737488355328 then ((some (y489 ++ bt499.1 : List Int)).bind fun y503 => (if ((rd_T54 x21 x23).f2) = 10 then ((octet_Uint.f k (IntKind.u64.wrap ((rd_T54 x21 x23).f4))).bind fun t506 => (if y503.length + t506.length < 140737488355328 then (pred_Put.l0 k (y503 ++ t506) x21 x22 (wrap64 (x23 + 1))) else (none))) else (pred_Put.l0 k y503 x21 x22 (wrap64 (x23 + 1))))) else (none)))))) else (none)))) else (none))) else (pred_Put.l0 k y476 x21 x22 (wrap64 (x23 + 1))))) else (none))) else (none)) else (none)) else (some (x5, 0))
def pred_Put.f (k : Nat) (l0 : List (S54)) : Option (List Int × Int) := (pred_Check.f k l0).bind fun t467 => (if t467 = 0 then ((octet_Uint.f k (IntKind.u64.wrap ((l0.length : Int)))).bind fun t468 => (pred_Put.l0 k t468 l0 (l0.length : Int) 0)) else (some (([] : List Int), t467)))
theorem pred_Put.mono_l : ∀ k, (∀ y0 y1 y2 y3, LeO (pred_Put.l0 k y0 y1 y2 y3) (pred_Put.l0 (k + 1) y0 y1 y2 y3))
 | 0 => fun _ _ _ _ r h => by simp [pred_Put.l0] at h
 | k + 1 => by
  have ih0 := pred_Put.mono_l k
  ·intro y0 y1 y2 y3
   unfold pred_Put.l0
   repeat' first
   | (with_reducible exact ih0 _ _ _ _)
   | (with_reducible exact octet_Text.mono _ _)
   | (with_reducible exact octet_Uint.mono _ _)
   | (with_reducible exact pred_Check.mono _ _)
   | (with_reducible exact value_Put.mono _ _ _ _ _ _)
   | (with_reducible exact LeO.refl _)
   | (with_reducible exact LeO.none _)
   | (with_reducible refine LeO.ite ?_ ?_)
   | (with_reducible refine LeO.bind ?_ (fun _ => ?_))
   | exact ih0 _ _ _ _
   | exact octet_Text.mono _ _
   | exact octet_Uint.mono _ _
   | exact pred_Check.mono _ _
   | exact value_Put.mono _ _ _ _ _ _
   | exact LeO.none _
   | refine LeO.ite ?_ ?_
   | refine LeO.bind ?_ (fun _ => ?_)
theorem pred_Put.mono : ∀ a0 k, LeO (pred_Put.f k a0) (pred_Put.f (k + 1) a0) := by
 intro a0 k
 have ih0 := pred_Put.mono_l k
 unfold pred_Put.f
 repeat' first
   | (with_reducible exact ih0 _ _ _ _)
   | (with_reducible exact octet_Text.mono _ _)
   | (with_reducible exact octet_Uint.mono _ _)
   | (with_reducible exact pred_Check.mono _ _)
   | (with_reducible exact value_Put.mono _ _ _ _ _ _)
   | (with_reducible exact LeO.refl _)
   | (with_reducible exact LeO.none _)
   | (with_reducible refine LeO.ite ?_ ?_)
   | (with_reducible refine LeO.bind ?_ (fun _ => ?_))
   | exact ih0 _ _ _ _
   | exact octet_Text.mono _ _
   | exact octet_Uint.mono _ _
   | exact pred_Check.mono _ _
   | exact value_Put.mono _ _ _ _ _ _
   | exact LeO.none _
   | refine LeO.ite ?_ ?_
   | refine LeO.bind ?_ (fun _ => ?_)
def pred_Put.T11 : Bool × List (List Nat × List Nat) := (true, [([], []), ([], []), ([0, 1], [0, 1]), ([], []), ([3], [3]), ([4], [4]), ([5], [5]), ([2, 6, 2], [2, 6]), ([7, 7, 0, 1, 2, 3, 4, 5, 6, 7], [0, 7])])
def pred_Put.B11 : List Nat := [0, 0, 3, 0, 8, 24, 56, 127, 255]
theorem pred_Put.tab11 : rtab .any (opsOf Try.f14 11) = pred_Put.T11 := by kernel_rfl
theorem pred_Put.bits11 : waitsOk pred_Put.T11.2 pred_Put.B11 = true := by kernel_rfl
set_option maxHeartbeats 8000000 in
set_option maxRecDepth 100000 in
theorem pred_Put.calls (k : Nat) (A0 : Option Addr) (c0 : Nat) (l0 : List (S54)) (r1 : List Int) (r2 : Int) (w : World) (hr0 : Kd.C k54 w A0 l0.length l0) (hc0 : l0.length ≤ c0) (h : pred_Put.f k l0 = some (r1, r2)) :
  Calls Try.prog 14 #[.slice A0 l0.length c0] w fun e w' => ∃ v0_ : Value, e = .returned (.tuple #[v0_, .int .i64 r2]) ∧ Kd.R (Kd.int .u8) 5 w' w.heap.size (fun _ => True) v0_ r1 ∧ Below w.heap.size w w' := by
 have hu54 := Try.underlying54
 have hu43 := Try.underlying43
 have HR0 := Aside0.mk hr0
 have HC0 := Aside0.mk hc0
 clear hr0 hc0
 have HB := Aside0.mk (Below.refl w.heap.size w)
 have H : ((pred_Check.f k l0).bind fun t467 => (if t467 = 0 then ((octet_Uint.f k (IntKind.u64.wrap ((l0.length : Int)))).bind fun t468 => (pred_Put.l0 k t468 l0 (l0.length : Int) 0)) else (some (([] : List Int), t467)))) = some (r1, r2) := h
 clear h
 replace H := Option.bind_eq_some_iff.mp H
 obtain ⟨t467, A20, H⟩ := H
 replace H : (if t467 = 0 then ((octet_Uint.f k (IntKind.u64.wrap ((l0.length : Int)))).bind fun t468 => (pred_Put.l0 k t468 l0 (l0.length : Int) 0)) else (some (([] : List Int), t467))) = some (r1, r2) := H
 have A2 := Aside0.mk A20
 clear A20
 by_cases c3 : t467 = 0
 ·rw [if_pos c3] at H
  have c3b0 : (t467 == 0) = true := beq_iff_eq.mpr c3
  have c3b1 : (t467 != 0) = false := bne_eq_false_iff_eq.mpr c3
  clear c3
  replace H := Option.bind_eq_some_iff.mp H
  obtain ⟨t468, A40, H⟩ := H
  replace H : (pred_Put.l0 k t468 l0 (l0.length : Int) 0) = some (r1, r2) := H
  have A4 := Aside0.mk A40
  clear A40
  have H' := Aside0.mk H
  clear H
  go_enter Try.func14, Try.ntmps14
  go_wp2_with (first | ((with_reducible refine gate_callee (f := 11) rfl ?_); refine goesL_ (some 13) rfl rfl Try.func11 (by kernel_rfl) rfl #[.slice A0 l0.length c0] rfl (Mp) ?_; (with_reducible refine (pred_Check.calls k _ _ l0 t467 _ ?side1 ?side2 A2.out).mono ?_); (case side1 => repeat (first | exact HR0.out | (with_reducible refine Kd.C_alloc ?_ _) | (with_reducible refine Kd.C_drewN ?_ _) | (with_reducible refine Kd.C_drew ?_))); (case side2 => exact HC0.out); rintro e w5 ⟨rfl, hb⟩; refine ⟨_, rfl, ?_⟩; have n0_ := Aside0.mk (below_step (Bl) hb); clear HB; have HB := n0_; clear n0_; (try clear hb); (try clear hb2); (try clear hk); (try clear hi)) | ((with_reducible refine gate_callee (f := 29) rfl ?_); refine goesL_ (some 20) rfl rfl Try.func29 (by kernel_rfl) rfl #[.int .u64 (IntKind.u64.wrap ((l0.length : Int)))] rfl (Mp) ?_; (with_reducible refine (octet_Uint.calls k (IntKind.u64.wrap ((l0.length : Int))) t468 _ A4.out).mono ?_); rintro e w6 ⟨v469, rfl, ho0, hb⟩; refine ⟨_, rfl, ?_⟩; have n0_ := Aside0.mk (Kd.R_lower ho0 (below_size (Bl))); have n1_ := Aside0.mk (below_step (Bl) hb); clear HB; have HO470 := n0_; have HB := n1_; clear n0_ n1_; (try clear hb); (try clear hb2); (try clear hk); (try clear hi); (try clear ho0)))
  go_loopg [5, 23] k (fun kq v5 v23 w' => ∃ (x5_1 : List Int) (x23_1 : Int), v23 = .int .i64 x23_1 ∧ Aside0 (pred_Put.l0 kq x5_1 l0 (l0.length : Int) x23_1 = some (r1, r2)) ∧ Aside0 (kq ≤ k) ∧ Aside0 (Kd.R (Kd.int .u8) 5 w' w.heap.size (fun _ => True) v5 x5_1) ∧ Aside0 (Below w.heap.size w w'))
  case atStart => exact ⟨(t468), (0), (by first | rfl | (simp; done) | (simp [*]; done)), H', ⟨Nat.le_refl _⟩, ⟨Rw HO470.out⟩, ⟨Bl⟩⟩
  case round =>
   clear H'
   try clear c3b0
   try clear c3b1
   obtain ⟨x5_1, x23_1, rfl, HA, HK1, HO_5, HB⟩ := hrel
   cases gk with
   | zero => exact absurd HA.out (by simp [pred_Put.l0])
   | succ k1 =>
    have H := HA.out
    clear HA
    simp only [pred_Put.l0] at H
    by_cases c7 : x23_1 < (l0.length : Int)
    ·rw [if_pos c7] at H
     have c7b0 : decide (x23_1 < (l0.length : Int)) = true := decide_eq_true c7
     clear c7
     by_cases c8 : 0 ≤ x23_1
     ·rw [if_pos c8] at H
      have c8b0 : decide (0 ≤ x23_1) = true := decide_eq_true c8
      clear c8
      by_cases c9 : x23_1 < (l0.length : Int)
      ·rw [if_pos c9] at H
       have c9b0 : decide (x23_1 < (l0.length : Int)) = true := decide_eq_true c9
       clear c9
       obtain ⟨y473, hy473⟩ : ∃ y_ : List Int, y_ = (([((rd_T54 l0 x23_1).f0) % 256] : List Int)) := ⟨_, rfl⟩
       replace H : (if x5_1.length + y473.length < 140737488355328 then ((some (x5_1 ++ y473 : List Int)).bind fun y476 => (if ((rd_T54 l0 x23_1).f0) = 3 then ((octet_Text.f k1 ((rd_T54 l0 x23_1).f1)).bind fun bt479 => (if y476.length + bt479.1.length < 140737488355328 then ((some (y476 ++ bt479.1 : List Int)).bind fun y483 => ((some (([((rd_T54 l0 x23_1).f2) % 256] : List Int) : List Int)).bind fun y486 => (if y483.length + y486.length < 140737488355328 then ((some (y483 ++ y486 : List Int)).bind fun y489 => ((pred_bare.f ((rd_T54 l0 x23_1).f2)).bind fun t492 => (if t492 = true then (if ((rd_T54 l0 x23_1).f2) = 10 then ((octet_Uint.f k1 (IntKind.u64.wrap ((rd_T54 l0 x23_1).f4))).bind fun t493 => (if y489.length + t493.length < 140737488355328 then (pred_Put.l0 k1 (y489 ++ t493) l0 (l0.length : Int) (wrap64 (x23_1 + 1))) else (none))) else (pred_Put.l0 k1 y489 l0 (l0.length : Int) (wrap64 (x23_1 + 1)))) else ((value_Put.f k1 ((rd_T54 l0 x23_1).f3.f0) ((rd_T54 l0 x23_1).f3.f1) ((rd_T54 l0 x23_1).f3.f2) ((rd_T54 l0 x23_1).f3.f3) ((rd_T54 l0 x23_1).f3.f4)).bind fun bt499 => (if y489.length + bt499.1.length < 140737488355328 then ((some (y489 ++ bt499.1 : List Int)).bind fun y503 => (if ((rd_T54 l0 x23_1).f2) = 10 then ((octet_Uint.f k1 (IntKind.u64.wrap ((rd_T54 l0 x23_1).f4))).bind fun t506 => (if y503.length + t506.length < 140737488355328 then (pred_Put.l0 k1 (y503 ++ t506) l0 (l0.length : Int) (wrap64 (x23_1 + 1))) else (none))) else (pred_Put.l0 k1 y503 l0 (l0.length : Int) (wrap64 (x23_1 + 1))))) else (none)))))) else (none)))) else (none))) else (pred_Put.l0 k1 y476 l0 (l0.length : Int) (wrap64 (x23_1 + 1))))) else (none)) = some (r1, r2) := by first | (rw [hy473]; with_reducible exact H) | (have H2_ := (Option.bind_some _ _).symm.trans H; rw [hy473]; with_reducible exact H2_) | (have H2_ := (Option.bind_some _ _).symm.trans H; with_reducible exact H2_) | with_reducible exact H | (rw [hy473]; exact H) | exact H
       have Ny473 := Aside0.mk hy473
       clear hy473
       by_cases c10 : x5_1.length + y473.length < 140737488355328
       ·rw [if_pos c10] at H
        have LMc10 := Aside0.mk c10
        clear c10
        obtain ⟨y476, hy476⟩ : ∃ y_ : List Int, y_ = (x5_1 ++ y473) := ⟨_, rfl⟩
        replace H : (if ((rd_T54 l0 x23_1).f0) = 3 then ((octet_Text.f k1 ((rd_T54 l0 x23_1).f1)).bind fun bt479 => (if y476.length + bt479.1.length < 140737488355328 then ((some (y476 ++ bt479.1 : List Int)).bind fun y483 => ((some (([((rd_T54 l0 x23_1).f2) % 256] : List Int) : List Int)).bind fun y486 => (if y483.length + y486.length < 140737488355328 then ((some (y483 ++ y486 : List Int)).bind fun y489 => ((pred_bare.f ((rd_T54 l0 x23_1).f2)).bind fun t492 => (if t492 = true then (if ((rd_T54 l0 x23_1).f2) = 10 then ((octet_Uint.f k1 (IntKind.u64.wrap ((rd_T54 l0 x23_1).f4))).bind fun t493 => (if y489.length + t493.length < 140737488355328 then (pred_Put.l0 k1 (y489 ++ t493) l0 (l0.length : Int) (wrap64 (x23_1 + 1))) else (none))) else (pred_Put.l0 k1 y489 l0 (l0.length : Int) (wrap64 (x23_1 + 1)))) else ((value_Put.f k1 ((rd_T54 l0 x23_1).f3.f0) ((rd_T54 l0 x23_1).f3.f1) ((rd_T54 l0 x23_1).f3.f2) ((rd_T54 l0 x23_1).f3.f3) ((rd_T54 l0 x23_1).f3.f4)).bind fun bt499 => (if y489.length + bt499.1.length < 140737488355328 then ((some (y489 ++ bt499.1 : List Int)).bind fun y503 => (if ((rd_T54 l0 x23_1).f2) = 10 then ((octet_Uint.f k1 (IntKind.u64.wrap ((rd_T54 l0 x23_1).f4))).bind fun t506 => (if y503.length + t506.length < 140737488355328 then (pred_Put.l0 k1 (y503 ++ t506) l0 (l0.length : Int) (wrap64 (x23_1 + 1))) else (none))) else (pred_Put.l0 k1 y503 l0 (l0.length : Int) (wrap64 (x23_1 + 1))))) else (none)))))) else (none)))) else (none))) else (pred_Put.l0 k1 y476 l0 (l0.length : Int) (wrap64 (x23_1 + 1)))) = some (r1, r2) := by first | (rw [hy476]; with_reducible exact H) | (have H2_ := (Option.bind_some _ _).symm.trans H; rw [hy476]; with_reducible exact H2_) | (have H2_ := (Option.bind_some _ _).symm.trans H; with_reducible exact H2_) | with_reducible exact H | (rw [hy476]; exact H) | exact H
        have Ny476 := Aside0.mk hy476
        clear hy476
        by_cases c11 : ((rd_T54 l0 x23_1).f0) = 3
        ·rw [if_pos c11] at H
         have c11b0 : (((rd_T54 l0 x23_1).f0) == 3) = true := beq_iff_eq.mpr c11
         have c11b1 : (((rd_T54 l0 x23_1).f0) != 3) = false := bne_eq_false_iff_eq.mpr c11
         clear c11
         replace H := Option.bind_eq_some_iff.mp H
         obtain ⟨⟨t479, t480⟩, A120, H⟩ := H
         replace H : (if y476.length + t479.length < 140737488355328 then ((some (y476 ++ t479 : List Int)).bind fun y483 => ((some (([((rd_T54 l0 x23_1).f2) % 256] : List Int) : List Int)).bind fun y486 => (if y483.length + y486.length < 140737488355328 then ((some (y483 ++ y486 : List Int)).bind fun y489 => ((pred_bare.f ((rd_T54 l0 x23_1).f2)).bind fun t492 => (if t492 = true then (if ((rd_T54 l0 x23_1).f2) = 10 then ((octet_Uint.f k1 (IntKind.u64.wrap ((rd_T54 l0 x23_1).f4))).bind fun t493 => (if y489.length + t493.length < 140737488355328 then (pred_Put.l0 k1 (y489 ++ t493) l0 (l0.length : Int) (wrap64 (x23_1 + 1))) else (none))) else (pred_Put.l0 k1 y489 l0 (l0.length : Int) (wrap64 (x23_1 + 1)))) else ((value_Put.f k1 ((rd_T54 l0 x23_1).f3.f0) ((rd_T54 l0 x23_1).f3.f1) ((rd_T54 l0 x23_1).f3.f2) ((rd_T54 l0 x23_1).f3.f3) ((rd_T54 l0 x23_1).f3.f4)).bind fun bt499 => (if y489.length + bt499.1.length < 140737488355328 then ((some (y489 ++ bt499.1 : List Int)).bind fun y503 => (if ((rd_T54 l0 x23_1).f2) = 10 then ((octet_Uint.f k1 (IntKind.u64.wrap ((rd_T54 l0 x23_1).f4))).bind fun t506 => (if y503.length + t506.length < 140737488355328 then (pred_Put.l0 k1 (y503 ++ t506) l0 (l0.length : Int) (wrap64 (x23_1 + 1))) else (none))) else (pred_Put.l0 k1 y503 l0 (l0.length : Int) (wrap64 (x23_1 + 1))))) else (none)))))) else (none)))) else (none)) = some (r1, r2) := H
         have A12 := Aside0.mk A120
         clear A120
         by_cases c13 : y476.length + t479.length < 140737488355328
         ·rw [if_pos c13] at H
          have LMc13 := Aside0.mk c13
          clear c13
          obtain ⟨y483, hy483⟩ : ∃ y_ : List Int, y_ = (y476 ++ t479) := ⟨_, rfl⟩
          replace H : ((some (([((rd_T54 l0 x23_1).f2) % 256] : List Int) : List Int)).bind fun y486 => (if y483.length + y486.length < 140737488355328 then ((some (y483 ++ y486 : List Int)).bind fun y489 => ((pred_bare.f ((rd_T54 l0 x23_1).f2)).bind fun t492 => (if t492 = true then (if ((rd_T54 l0 x23_1).f2) = 10 then ((octet_Uint.f k1 (IntKind.u64.wrap ((rd_T54 l0 x23_1).f4))).bind fun t493 => (if y489.length + t493.length < 140737488355328 then (pred_Put.l0 k1 (y489 ++ t493) l0 (l0.length : Int) (wrap64 (x23_1 + 1))) else (none))) else (pred_Put.l0 k1 y489 l0 (l0.length : Int) (wrap64 (x23_1 + 1)))) else ((value_Put.f k1 ((rd_T54 l0 x23_1).f3.f0) ((rd_T54 l0 x23_1).f3.f1) ((rd_T54 l0 x23_1).f3.f2) ((rd_T54 l0 x23_1).f3.f3) ((rd_T54 l0 x23_1).f3.f4)).bind fun bt499 => (if y489.length + bt499.1.length < 140737488355328 then ((some (y489 ++ bt499.1 : List Int)).bind fun y503 => (if ((rd_T54 l0 x23_1).f2) = 10 then ((octet_Uint.f k1 (IntKind.u64.wrap ((rd_T54 l0 x23_1).f4))).bind fun t506 => (if y503.length + t506.length < 140737488355328 then (pred_Put.l0 k1 (y503 ++ t506) l0 (l0.length : Int) (wrap64 (x23_1 + 1))) else (none))) else (pred_Put.l0 k1 y503 l0 (l0.length : Int) (wrap64 (x23_1 + 1))))) else (none)))))) else (none))) = some (r1, r2) := by first | (rw [hy483]; with_reducible exact H) | (have H2_ := (Option.bind_some _ _).symm.trans H; rw [hy483]; with_reducible exact H2_) | (have H2_ := (Option.bind_some _ _).symm.trans H; with_reducible exact H2_) | with_reducible exact H | (rw [hy483]; exact H) | exact H
          have Ny483 := Aside0.mk hy483
          clear hy483
          obtain ⟨y486, hy486⟩ : ∃ y_ : List Int, y_ = (([((rd_T54 l0 x23_1).f2) % 256] : List Int)) := ⟨_, rfl⟩
          replace H : (if y483.length + y486.length < 140737488355328 then ((some (y483 ++ y486 : List Int)).bind fun y489 => ((pred_bare.f ((rd_T54 l0 x23_1).f2)).bind fun t492 => (if t492 = true then (if ((rd_T54 l0 x23_1).f2) = 10 then ((octet_Uint.f k1 (IntKind.u64.wrap ((rd_T54 l0 x23_1).f4))).bind fun t493 => (if y489.length + t493.length < 140737488355328 then (pred_Put.l0 k1 (y489 ++ t493) l0 (l0.length : Int) (wrap64 (x23_1 + 1))) else (none))) else (pred_Put.l0 k1 y489 l0 (l0.length : Int) (wrap64 (x23_1 + 1)))) else ((value_Put.f k1 ((rd_T54 l0 x23_1).f3.f0) ((rd_T54 l0 x23_1).f3.f1) ((rd_T54 l0 x23_1).f3.f2) ((rd_T54 l0 x23_1).f3.f3) ((rd_T54 l0 x23_1).f3.f4)).bind fun bt499 => (if y489.length + bt499.1.length < 140737488355328 then ((some (y489 ++ bt499.1 : List Int)).bind fun y503 => (if ((rd_T54 l0 x23_1).f2) = 10 then ((octet_Uint.f k1 (IntKind.u64.wrap ((rd_T54 l0 x23_1).f4))).bind fun t506 => (if y503.length + t506.length < 140737488355328 then (pred_Put.l0 k1 (y503 ++ t506) l0 (l0.length : Int) (wrap64 (x23_1 + 1))) else (none))) else (pred_Put.l0 k1 y503 l0 (l0.length : Int) (wrap64 (x23_1 + 1))))) else (none)))))) else (none)) = some (r1, r2) := by first | (rw [hy486]; with_reducible exact H) | (have H2_ := (Option.bind_some _ _).symm.trans H; rw [hy486]; with_reducible exact H2_) | (have H2_ := (Option.bind_some _ _).symm.trans H; with_reducible exact H2_) | with_reducible exact H | (rw [hy486]; exact H) | exact H
          have Ny486 := Aside0.mk hy486
          clear hy486
          by_cases c14 : y483.length + y486.length < 140737488355328
          ·rw [if_pos c14] at H
           have LMc14 := Aside0.mk c14
           clear c14
           obtain ⟨y489, hy489⟩ : ∃ y_ : List Int, y_ = (y483 ++ y486) := ⟨_, rfl⟩
           replace H : ((pred_bare.f ((rd_T54 l0 x23_1).f2)).bind fun t492 => (if t492 = true then (if ((rd_T54 l0 x23_1).f2) = 10 then ((octet_Uint.f k1 (IntKind.u64.wrap ((rd_T54 l0 x23_1).f4))).bind fun t493 => (if y489.length + t493.length < 140737488355328 then (pred_Put.l0 k1 (y489 ++ t493) l0 (l0.length : Int) (wrap64 (x23_1 + 1))) else (none))) else (pred_Put.l0 k1 y489 l0 (l0.length : Int) (wrap64 (x23_1 + 1)))) else ((value_Put.f k1 ((rd_T54 l0 x23_1).f3.f0) ((rd_T54 l0 x23_1).f3.f1) ((rd_T54 l0 x23_1).f3.f2) ((rd_T54 l0 x23_1).f3.f3) ((rd_T54 l0 x23_1).f3.f4)).bind fun bt499 => (if y489.length + bt499.1.length < 140737488355328 then ((some (y489 ++ bt499.1 : List Int)).bind fun y503 => (if ((rd_T54 l0 x23_1).f2) = 10 then ((octet_Uint.f k1 (IntKind.u64.wrap ((rd_T54 l0 x23_1).f4))).bind fun t506 => (if y503.length + t506.length < 140737488355328 then (pred_Put.l0 k1 (y503 ++ t506) l0 (l0.length : Int) (wrap64 (x23_1 + 1))) else (none))) else (pred_Put.l0 k1 y503 l0 (l0.length : Int) (wrap64 (x23_1 + 1))))) else (none))))) = some (r1, r2) := by first | (rw [hy489]; with_reducible exact H) | (have H2_ := (Option.bind_some _ _).symm.trans H; rw [hy489]; with_reducible exact H2_) | (have H2_ := (Option.bind_some _ _).symm.trans H; with_reducible exact H2_) | with_reducible exact H | (rw [hy489]; exact H) | exact H
           have Ny489 := Aside0.mk hy489
           clear hy489
           replace H := Option.bind_eq_some_iff.mp H
           obtain ⟨t492, A150, H⟩ := H
           replace H : (if t492 = true then (if ((rd_T54 l0 x23_1).f2) = 10 then ((octet_Uint.f k1 (IntKind.u64.wrap ((rd_T54 l0 x23_1).f4))).bind fun t493 => (if y489.length + t493.length < 140737488355328 then (pred_Put.l0 k1 (y489 ++ t493) l0 (l0.length : Int) (wrap64 (x23_1 + 1))) else (none))) else (pred_Put.l0 k1 y489 l0 (l0.length : Int) (wrap64 (x23_1 + 1)))) else ((value_Put.f k1 ((rd_T54 l0 x23_1).f3.f0) ((rd_T54 l0 x23_1).f3.f1) ((rd_T54 l0 x23_1).f3.f2) ((rd_T54 l0 x23_1).f3.f3) ((rd_T54 l0 x23_1).f3.f4)).bind fun bt499 => (if y489.length + bt499.1.length < 140737488355328 then ((some (y489 ++ bt499.1 : List Int)).bind fun y503 => (if ((rd_T54 l0 x23_1).f2) = 10 then ((octet_Uint.f k1 (IntKind.u64.wrap ((rd_T54 l0 x23_1).f4))).bind fun t506 => (if y503.length + t506.length < 140737488355328 then (pred_Put.l0 k1 (y503 ++ t506) l0 (l0.length : Int) (wrap64 (x23_1 + 1))) else (none))) else (pred_Put.l0 k1 y503 l0 (l0.length : Int) (wrap64 (x23_1 + 1))))) else (none)))) = some (r1, r2) := H
           have A15 := Aside0.mk A150
           clear A150
           by_cases c16 : t492 = true
           ·subst c16
            have H1 : (if ((rd_T54 l0 x23_1).f2) = 10 then ((octet_Uint.f k1 (IntKind.u64.wrap ((rd_T54 l0 x23_1).f4))).bind fun t493 => (if y489.length + t493.length < 140737488355328 then (pred_Put.l0 k1 (y489 ++ t493) l0 (l0.length : Int) (wrap64 (x23_1 + 1))) else (none))) else (pred_Put.l0 k1 y489 l0 (l0.length : Int) (wrap64 (x23_1 + 1)))) = some (r1, r2) := by rw [if_pos rfl] at H; exact H
            clear H
            have H := H1
            clear H1
            by_cases c17 : ((rd_T54 l0 x23_1).f2) = 10
            ·rw [if_pos c17] at H
             have c17b0 : (((rd_T54 l0 x23_1).f2) == 10) = true := beq_iff_eq.mpr c17
             have c17b1 : (((rd_T54 l0 x23_1).f2) != 10) = false := bne_eq_false_iff_eq.mpr c17
             clear c17
             replace H := Option.bind_eq_some_iff.mp H
             obtain ⟨t493, A180, H⟩ := H
             replace H : (if y489.length + t493.length < 140737488355328 then (pred_Put.l0 k1 (y489 ++ t493) l0 (l0.length : Int) (wrap64 (x23_1 + 1))) else (none)) = some (r1, r2) := H
             have A18 := Aside0.mk A180
             clear A180
             by_cases c19 : y489.length + t493.length < 140737488355328
             ·rw [if_pos c19] at H
              have LMc19 := Aside0.mk c19
              clear c19
              obtain ⟨y496, hy496⟩ : ∃ y_ : List Int, y_ = (y489 ++ t493) := ⟨_, rfl⟩
              replace H : (pred_Put.l0 k1 y496 l0 (l0.length : Int) (wrap64 (x23_1 + 1))) = some (r1, r2) := by first | (rw [hy496]; with_reducible exact H) | (have H2_ := (Option.bind_some _ _).symm.trans H; rw [hy496]; with_reducible exact H2_) | (have H2_ := (Option.bind_some _ _).symm.trans H; with_reducible exact H2_) | with_reducible exact H | (rw [hy496]; exact H) | exact H
              have Ny496 := Aside0.mk hy496
              clear hy496
              have H' := Aside0.mk H
              clear H
              have p471 : 0 ≤ (x23_1 : Int) := of_decide_eq_true (As)
              have q471 : x23_1 < (l0.length : Int) := of_decide_eq_true (As)
              obtain ⟨ad471, e471, hx471_0, hx471_1, hx471_2, hx471_3, hx471_4, hx471_5, hx471_6, hx471_7, hx471_8⟩ := at_T54 HR0.out x23_1 p471 q471
              cases e471
              replace hx471_0 := (HB.out.cell (World.block_lt_of_cell? w _ hx471_0)).trans hx471_0
              replace hx471_1 := (HB.out.cell (World.block_lt_of_cell? w _ hx471_1)).trans hx471_1
              replace hx471_2 := (HB.out.cell (World.block_lt_of_cell? w _ hx471_2)).trans hx471_2
              replace hx471_3 := (HB.out.cell (World.block_lt_of_cell? w _ hx471_3)).trans hx471_3
              replace hx471_4 := (HB.out.cell (World.block_lt_of_cell? w _ hx471_4)).trans hx471_4
              replace hx471_5 := (HB.out.cell (World.block_lt_of_cell? w _ hx471_5)).trans hx471_5
              replace hx471_6 := (HB.out.cell (World.block_lt_of_cell? w _ hx471_6)).trans hx471_6
              replace hx471_7 := (HB.out.cell (World.block_lt_of_cell? w _ hx471_7)).trans hx471_7
              replace hx471_8 := (HB.out.cell (World.block_lt_of_cell? w _ hx471_8)).trans hx471_8
              replace p471 := eq_true p471
              replace q471 := eq_true q471
              try go_wp2_with (first | ((with_reducible refine gate_dst (N := 7) rfl ?_); refine box_event ?hg (N := 7) ?hd (cs := #[.int .i64 0, .string (⟨#[]⟩ : ByteArray), .int .i64 0, .int .i64 0, .int .i64 0, .string (⟨#[]⟩ : ByteArray), .bool false, .complex .f64 0 0, .int .i64 0]) (t := 54) ?hr ?_; (case hd => rfl); (case hg => rfl); (case hr => first | (go_simp; done) | (go_simp; rfl)); intro gb472 hg w20 hbox hb; have n0_ := Aside0.mk (Kd.R_below (Rw HO_5.out) hb); have n1_ := Aside0.mk (below_step (Bl) hb); have n2_ := Aside0.mk (hbox); have n3_ := Aside0.mk ((by rw [hg]; exact (below_size (Bl)) : w.heap.size ≤ gb472)); have n4_ := Aside0.mk ((by rw [hg]; exact (below_size (Bl)) : w.heap.size ≤ gb472)); clear HO_5; clear HB; have HO_5 := n0_; have HB := n1_; have BK472 := n2_; have GW472 := n3_; have GE472 := n4_; clear n0_ n1_ n2_ n3_ n4_; clear hb hbox hg; obtain ⟨_, _, _, _, _, _, _, _, _⟩ := cz9 BK472.out; obtain ⟨_, _, _, _, _, _, _, _, _⟩ := fz9 BK472.out) | ((with_reducible refine gate_dst (N := 31) rfl ?_); refine Kd.R_lit (Kd.int .u8) _ 5 ?hg (N := 31) ?hd (xs := ([((rd_T54 l0 x23_1).f0) % 256] : List Int)) (inner := [.int .u8 (((rd_T54 l0 x23_1).f0) % 256)]) (ok := fun _ => True) (okp := fun _ => True) ?hr ?hp (fun _ hk => hk) trivial (Below.refl _ _) (Nat.le_refl _) (by simp) ?_; (case hd => rfl); (case hg => rfl); (case hr => first | (go_simp; done) | (go_simp; rfl)); (case hp => exact (Reps.one (show Kd.M (Kd.int .u8) _ _ _ (((rd_T54 l0 x23_1).f0) % 256) [.int .u8 (((rd_T54 l0 x23_1).f0) % 256)] from rfl) (Reps.none _ _))); intro v474 w22 ho23 hb hg_ hnew_; clear hg_ hnew_; (first | rw [← Ny473.out] at ho23 | (simp only [Int.reduceToNat] at ho23; rw [← Ny473.out] at ho23)); have n0_ := Aside0.mk (Kd.R_elder' (by (with_reducible repeat (first | apply Kd.R_alloc | apply Kd.R_drewN | apply Kd.R_drew)); exact (Kd.R_mono (Kd.R_far (p := ⟨gb472, 8, none⟩) (Kd.R_far (p := ⟨gb472, 7, none⟩) (Kd.R_far (p := ⟨gb472, 6, none⟩) (Kd.R_far (p := ⟨gb472, 5, none⟩) (Kd.R_far (p := ⟨gb472, 4, none⟩) (Kd.R_far (p := ⟨gb472, 3, none⟩) (Kd.R_far (p := ⟨gb472, 2, none⟩) (Kd.R_far (p := ⟨gb472, 1, none⟩) (Kd.R_far (p := ⟨gb472, 0, none⟩) (Kd.R_types HO_5.out BK472.out (by decide)) (fun _ hk => hk.2) (.int .i64 ((rd_T54 l0 x23_1).f0))) (fun _ hk => hk.2) (.string ((rd_T54 l0 x23_1).f1))) (fun _ hk => hk.2) (.int .i64 ((rd_T54 l0 x23_1).f2))) (fun _ hk => hk.2) (.int .i64 ((rd_T54 l0 x23_1).f3.f0))) (fun _ hk => hk.2) (.int .i64 ((rd_T54 l0 x23_1).f3.f1))) (fun _ hk => hk.2) (.string ((rd_T54 l0 x23_1).f3.f2))) (fun _ hk => hk.2) (.bool ((rd_T54 l0 x23_1).f3.f3))) (fun _ hk => hk.2) (.complex .f64 ((rd_T54 l0 x23_1).f3.f4).re ((rd_T54 l0 x23_1).f3.f4).im)) (fun _ hk => hk.2) (.int .i64 ((rd_T54 l0 x23_1).f4))) (fun _ h_ => h_.1))) (Kd.R_base ho23) hb); have n1_ := Aside0.mk (Kd.R_lower (Kd.R_new' ho23 (Kd.R_lt (by (with_reducible repeat (first | apply Kd.R_alloc | apply Kd.R_drewN | apply Kd.R_drew)); exact (Kd.R_mono (Kd.R_far (p := ⟨gb472, 8, none⟩) (Kd.R_far (p := ⟨gb472, 7, none⟩) (Kd.R_far (p := ⟨gb472, 6, none⟩) (Kd.R_far (p := ⟨gb472, 5, none⟩) (Kd.R_far (p := ⟨gb472, 4, none⟩) (Kd.R_far (p := ⟨gb472, 3, none⟩) (Kd.R_far (p := ⟨gb472, 2, none⟩) (Kd.R_far (p := ⟨gb472, 1, none⟩) (Kd.R_far (p := ⟨gb472, 0, none⟩) (Kd.R_types HO_5.out BK472.out (by decide)) (fun _ hk => hk.2) (.int .i64 ((rd_T54 l0 x23_1).f0))) (fun _ hk => hk.2) (.string ((rd_T54 l0 x23_1).f1))) (fun _ hk => hk.2) (.int .i64 ((rd_T54 l0 x23_1).f2))) (fun _ hk => hk.2) (.int .i64 ((rd_T54 l0 x23_1).f3.f0))) (fun _ hk => hk.2) (.int .i64 ((rd_T54 l0 x23_1).f3.f1))) (fun _ hk => hk.2) (.string ((rd_T54 l0 x23_1).f3.f2))) (fun _ hk => hk.2) (.bool ((rd_T54 l0 x23_1).f3.f3))) (fun _ hk => hk.2) (.complex .f64 ((rd_T54 l0 x23_1).f3.f4).re ((rd_T54 l0 x23_1).f3.f4).im)) (fun _ hk => hk.2) (.int .i64 ((rd_T54 l0 x23_1).f4))) (fun _ h_ => h_.1))))) (below_size (Bl))); have n2_ := Aside0.mk (blk_below (g := gb472) (o := .cells #[.int .i64 ((rd_T54 l0 x23_1).f0), .string ((rd_T54 l0 x23_1).f1), .int .i64 ((rd_T54 l0 x23_1).f2), .int .i64 ((rd_T54 l0 x23_1).f3.f0), .int .i64 ((rd_T54 l0 x23_1).f3.f1), .string ((rd_T54 l0 x23_1).f3.f2), .bool ((rd_T54 l0 x23_1).f3.f3), .complex .f64 ((rd_T54 l0 x23_1).f3.f4).re ((rd_T54 l0 x23_1).f3.f4).im, .int .i64 ((rd_T54 l0 x23_1).f4)] 54 (0, 0)) (by (with_reducible repeat (first | refine blk_drewN ?_ _ | refine blk_drew ?_ | refine blk_alloc ?_ _)); refine blk_put (cs := #[.int .i64 ((rd_T54 l0 x23_1).f0), .string ((rd_T54 l0 x23_1).f1), .int .i64 ((rd_T54 l0 x23_1).f2), .int .i64 ((rd_T54 l0 x23_1).f3.f0), .int .i64 ((rd_T54 l0 x23_1).f3.f1), .string ((rd_T54 l0 x23_1).f3.f2), .bool ((rd_T54 l0 x23_1).f3.f3), .complex .f64 ((rd_T54 l0 x23_1).f3.f4).re ((rd_T54 l0 x23_1).f3.f4).im, .int .i64 0]) ?_ 8 _ rfl; (with_reducible repeat (first | refine blk_drewN ?_ _ | refine blk_drew ?_ | refine blk_alloc ?_ _)); refine blk_put (cs := #[.int .i64 ((rd_T54 l0 x23_1).f0), .string ((rd_T54 l0 x23_1).f1), .int .i64 ((rd_T54 l0 x23_1).f2), .int .i64 ((rd_T54 l0 x23_1).f3.f0), .int .i64 ((rd_T54 l0 x23_1).f3.f1), .string ((rd_T54 l0 x23_1).f3.f2), .bool ((rd_T54 l0 x23_1).f3.f3), .complex .f64 0 0, .int .i64 0]) ?_ 7 _ rfl; (with_reducible repeat (first | refine blk_drewN ?_ _ | refine blk_drew ?_ | refine blk_alloc ?_ _)); refine blk_put (cs := #[.int .i64 ((rd_T54 l0 x23_1).f0), .string ((rd_T54 l0 x23_1).f1), .int .i64 ((rd_T54 l0 x23_1).f2), .int .i64 ((rd_T54 l0 x23_1).f3.f0), .int .i64 ((rd_T54 l0 x23_1).f3.f1), .string ((rd_T54 l0 x23_1).f3.f2), .bool false, .complex .f64 0 0, .int .i64 0]) ?_ 6 _ rfl; (with_reducible repeat (first | refine blk_drewN ?_ _ | refine blk_drew ?_ | refine blk_alloc ?_ _)); refine blk_put (cs := #[.int .i64 ((rd_T54 l0 x23_1).f0), .string ((rd_T54 l0 x23_1).f1), .int .i64 ((rd_T54 l0 x23_1).f2), .int .i64 ((rd_T54 l0 x23_1).f3.f0), .int .i64 ((rd_T54 l0 x23_1).f3.f1), .string (⟨#[]⟩ : ByteArray), .bool false, .complex .f64 0 0, .int .i64 0]) ?_ 5 _ rfl; (with_reducible repeat (first | refine blk_drewN ?_ _ | refine blk_drew ?_ | refine blk_alloc ?_ _)); refine blk_put (cs := #[.int .i64 ((rd_T54 l0 x23_1).f0), .string ((rd_T54 l0 x23_1).f1), .int .i64 ((rd_T54 l0 x23_1).f2), .int .i64 ((rd_T54 l0 x23_1).f3.f0), .int .i64 0, .string (⟨#[]⟩ : ByteArray), .bool false, .complex .f64 0 0, .int .i64 0]) ?_ 4 _ rfl; (with_reducible repeat (first | refine blk_drewN ?_ _ | refine blk_drew ?_ | refine blk_alloc ?_ _)); refine blk_put (cs := #[.int .i64 ((rd_T54 l0 x23_1).f0), .string ((rd_T54 l0 x23_1).f1), .int .i64 ((rd_T54 l0 x23_1).f2), .int .i64 0, .int .i64 0, .string (⟨#[]⟩ : ByteArray), .bool false, .complex .f64 0 0, .int .i64 0]) ?_ 3 _ rfl; (with_reducible repeat (first | refine blk_drewN ?_ _ | refine blk_drew ?_ | refine blk_alloc ?_ _)); refine blk_put (cs := #[.int .i64 ((rd_T54 l0 x23_1).f0), .string ((rd_T54 l0 x23_1).f1), .int .i64 0, .int .i64 0, .int .i64 0, .string (⟨#[]⟩ : ByteArray), .bool false, .complex .f64 0 0, .int .i64 0]) ?_ 2 _ rfl; (with_reducible repeat (first | refine blk_drewN ?_ _ | refine blk_drew ?_ | refine blk_alloc ?_ _)); refine blk_put (cs := #[.int .i64 ((rd_T54 l0 x23_1).f0), .string (⟨#[]⟩ : ByteArray), .int .i64 0, .int .i64 0, .int .i64 0, .string (⟨#[]⟩ : ByteArray), .bool false, .complex .f64 0 0, .int .i64 0]) ?_ 1 _ rfl; (with_reducible repeat (first | refine blk_drewN ?_ _ | refine blk_drew ?_ | refine blk_alloc ?_ _)); refine blk_put (cs := #[.int .i64 0, .string (⟨#[]⟩ : ByteArray), .int .i64 0, .int .i64 0, .int .i64 0, .string (⟨#[]⟩ : ByteArray), .bool false, .complex .f64 0 0, .int .i64 0]) ?_ 0 _ rfl; (with_reducible repeat (first | refine blk_drewN ?_ _ | refine blk_drew ?_ | refine blk_alloc ?_ _)); exact BK472.out) hb); have n3_ := Aside0.mk (below_step (Bl) hb); clear HO_5; clear BK472; clear HB; have HO_5 := n0_; have HO475 := n1_; have BK472 := n2_; have HB := n3_; clear n0_ n1_ n2_ n3_; clear hb ho23; obtain ⟨Ao25, co25, eo25⟩ := Kd.R_slice HO475.out; subst eo25) | ((with_reducible refine gate_builtin (b := .append) (xs := #[.tmp 27, .tmp 31]) rfl ?_); at_builtin; refine Kd.R_append_rows (Kd.int .u8) (w0 := w) w.heap.size rfl (.tmp 27) (.tmp 31) 33 5 (.int .u8 0) 1 rfl Try.underlying33 info5 rfl (by decide) (by omega) u5 x5_1 y473 _ _ _ (fun k_ => some k_ ≠ (.slice Ao25 y473.length co25 : Value).ownBlock) (fun _ => False) rfl rfl ?aO ?aR (fun _ _ h => h) (fun _ h => h.elim) ?aF ?aB ?aS ?aL ?_; (case aR => repeat (first | exact (Kd.R_reads' HO475.out).2.2 | (with_reducible refine Kd.C_alloc ?_ _) | (with_reducible refine Kd.C_drewN ?_ _) | (with_reducible refine Kd.C_drew ?_))); (case aB => exact (Bl)); (case aF => exact (fun k_ hk => Kd.fresh' (Kd.R_lt (Rw HO475.out)) k_ hk)); (case aO => exact (by (with_reducible repeat (first | apply Kd.R_alloc | apply Kd.R_drewN | apply Kd.R_drew)); exact Kd.R_mono HO_5.out (fun _ hk => hk.2))); (case aS => exact (below_size (Bl))); (case aL => have := LMc10.out; omega); intro v477 w24 ho hb hg hat; rw [← Ny476.out] at ho; have n0_ := Aside0.mk (blk_grown (g := gb472) (o := .cells #[.int .i64 ((rd_T54 l0 x23_1).f0), .string ((rd_T54 l0 x23_1).f1), .int .i64 ((rd_T54 l0 x23_1).f2), .int .i64 ((rd_T54 l0 x23_1).f3.f0), .int .i64 ((rd_T54 l0 x23_1).f3.f1), .string ((rd_T54 l0 x23_1).f3.f2), .bool ((rd_T54 l0 x23_1).f3.f3), .complex .f64 ((rd_T54 l0 x23_1).f3.f4).re ((rd_T54 l0 x23_1).f3.f4).im, .int .i64 ((rd_T54 l0 x23_1).f4)] 54 (0, 0)) (Bk BK472.out) hg (Kd.R_ne HO_5.out BK472.out (by decide))); have n1_ := Aside0.mk (Kd.R_after (ok := (fun _ => True)) (Rw HO475.out) hg hat); have n2_ := Aside0.mk (hb); have n3_ := Aside0.mk (ho); clear BK472; clear HO475; clear HB; clear HO_5; have BK472 := n0_; have HO475 := n1_; have HB := n2_; have HO478 := n3_; clear n0_ n1_ n2_ n3_; clear ho hb hg hat; obtain ⟨_, _, _, _, _, _, _, _, _⟩ := cz9 BK472.out; obtain ⟨_, _, _, _, _, _, _, _, _⟩ := fz9 BK472.out) | ((with_reducible refine gate_callee (f := 30) rfl ?_); refine goesL_ (some 39) rfl rfl Try.func30 (by kernel_rfl) rfl #[.string ((rd_T54 l0 x23_1).f1)] rfl (Mp) ?_; (with_reducible refine (octet_Text.calls k1 ((rd_T54 l0 x23_1).f1) t479 t480 _ A12.out).mono ?_); rintro e w27 ⟨v481, rfl, ho0, hb⟩; refine ⟨_, rfl, ?_⟩; have n0_ := Aside0.mk (Kd.R_elder' (Rw HO475.out) (Kd.R_base ho0) hb); have n1_ := Aside0.mk (Kd.R_elder' (Rw HO478.out) (Kd.R_base ho0) hb); have n2_ := Aside0.mk (Kd.R_lower (Kd.R_new' (Kd.R_new' ho0 (Kd.R_lt (Rw HO475.out))) (Kd.R_lt (Rw HO478.out))) (below_size (Bl))); have n3_ := Aside0.mk (blk_below (g := gb472) (o := .cells #[.int .i64 ((rd_T54 l0 x23_1).f0), .string ((rd_T54 l0 x23_1).f1), .int .i64 ((rd_T54 l0 x23_1).f2), .int .i64 ((rd_T54 l0 x23_1).f3.f0), .int .i64 ((rd_T54 l0 x23_1).f3.f1), .string ((rd_T54 l0 x23_1).f3.f2), .bool ((rd_T54 l0 x23_1).f3.f3), .complex .f64 ((rd_T54 l0 x23_1).f3.f4).re ((rd_T54 l0 x23_1).f3.f4).im, .int .i64 ((rd_T54 l0 x23_1).f4)] 54 (0, 0)) (Bk BK472.out) hb); have n4_ := Aside0.mk (below_step (Bl) hb); clear HO475; clear HO478; clear BK472; clear HB; have HO475 := n0_; have HO478 := n1_; have HO482 := n2_; have BK472 := n3_; have HB := n4_; clear n0_ n1_ n2_ n3_ n4_; (try clear hb); (try clear hb2); (try clear hk); (try clear hi); (try clear ho0); obtain ⟨Ao28, co28, eo28⟩ := Kd.R_slice HO478.out; subst eo28; obtain ⟨Ao29, co29, eo29⟩ := Kd.R_slice HO482.out; subst eo29))
              have n0_ := Aside0.mk (Kd.R_drew HO475.out)
              have n1_ := Aside0.mk (Kd.R_drew HO478.out)
              have n2_ := Aside0.mk (Kd.R_drew HO482.out)
              have n3_ := Aside0.mk (blk_drew BK472.out)
              have n4_ := Aside0.mk (below_drew1 HB.out)
              clear HO475
              clear HO478
              clear HO482
              clear BK472
              clear HB
              have HO475 := n0_
              have HO478 := n1_
              have HO482 := n2_
              have BK472 := n3_
              have HB := n4_
              clear n0_ n1_ n2_ n3_ n4_
              refine start_ (n := 9) (S := fun w' => w'.cell? ⟨gb472, 0, none⟩ = some (.int .i64 ((rd_T54 l0 x23_1).f0)) ∧ w'.cell? ⟨gb472, 1, none⟩ = some (.string ((rd_T54 l0 x23_1).f1)) ∧ w'.cell? ⟨gb472, 2, none⟩ = some (.int .i64 ((rd_T54 l0 x23_1).f2)) ∧ w'.cell? ⟨gb472, 3, none⟩ = some (.int .i64 ((rd_T54 l0 x23_1).f3.f0)) ∧ w'.cell? ⟨gb472, 4, none⟩ = some (.int .i64 ((rd_T54 l0 x23_1).f3.f1)) ∧ w'.cell? ⟨gb472, 5, none⟩ = some (.string ((rd_T54 l0 x23_1).f3.f2)) ∧ w'.cell? ⟨gb472, 6, none⟩ = some (.bool ((rd_T54 l0 x23_1).f3.f3)) ∧ w'.cell? ⟨gb472, 7, none⟩ = some (.complex .f64 ((rd_T54 l0 x23_1).f3.f4).re ((rd_T54 l0 x23_1).f3.f4).im) ∧ w'.cell? ⟨gb472, 8, none⟩ = some (.int .i64 ((rd_T54 l0 x23_1).f4))) (ds := []) #[false, false, false, false, false, false, false, false, false] (by kernel_rfl) rfl rfl ⟨(blk_cell BK472.out 0).trans rfl, (blk_cell BK472.out 1).trans rfl, (blk_cell BK472.out 2).trans rfl, (blk_cell BK472.out 3).trans rfl, (blk_cell BK472.out 4).trans rfl, (blk_cell BK472.out 5).trans rfl, (blk_cell BK472.out 6).trans rfl, (blk_cell BK472.out 7).trans rfl, (blk_cell BK472.out 8).trans rfl⟩ (fun hHeld => ?_); refine with_tabW pred_Put.tab11 pred_Put.bits11 (fun HT_ HW_ => ?_)
              generalize w27.drew = w30 at HO475 HO478 HO482 BK472 HB hHeld ⊢
              refine pure_ (i := 0) (N := some 42) (v := ?_) (a' := ?_) #[true, false, false, false, false, false, false, false, false] rfl rfl (any_of HT_.out (by kernel_rfl)) (fun _ _ _ h => h) (Or.inl ⟨by rfl, ?_⟩) ?_ ?_
              rotate_left
              ·intro w'
               go_simp
               with_reducible rfl
              rotate_left
              ·simp only [Act.put, List.setIfInBounds_toArray, List.set_cons_zero, List.set_cons_succ, i64_w, i32_w]
               rfl
              refine pure_ (i := 1) (N := some 43) (v := ?_) (a' := ?_) #[true, true, false, false, false, false, false, false, false] rfl rfl (any_of HT_.out (by kernel_rfl)) (fun _ _ _ h => h) (Or.inl ⟨by rfl, ?_⟩) ?_ ?_
              rotate_left
              ·intro w'
               go_simp
               with_reducible rfl
              rotate_left
              ·simp only [Act.put, List.setIfInBounds_toArray, List.set_cons_zero, List.set_cons_succ, i64_w, i32_w]
               rfl
              refine pure_ (i := 3) (N := some 45) (v := ?_) (a' := ?_) #[true, true, false, true, false, false, false, false, false] rfl rfl (any_of HT_.out (by kernel_rfl)) (fun _ _ _ h => h) (Or.inl ⟨by rfl, ?_⟩) ?_ ?_
              rotate_left
              ·intro w'
               go_simp
               with_reducible rfl
              rotate_left
              ·simp only [Act.put, List.setIfInBounds_toArray, List.set_cons_zero, List.set_cons_succ, i64_w, i32_w]
               rfl
              refine take_ (i := 4) (N := some 46) (v := ?_) (a' := ?_) #[true, true, false, true, true, false, false, false, false] rfl rfl (take_ofW HT_.out HW_.out (by kernel_rfl)) (fun _ _ _ h => h) (Or.inl ⟨by rfl, ?_⟩) hHeld ?_ ?_
              rotate_left
              ·rintro w' ⟨s0, s1, s2, s3, s4, s5, s6, s7, s8⟩
               go_simp
               with_reducible rfl
              rotate_left
              ·simp only [Act.put, List.setIfInBounds_toArray, List.set_cons_zero, List.set_cons_succ, i64_w, i32_w]
               rfl
              refine pure_ (i := 5) (N := some 47) (v := ?_) (a' := ?_) #[true, true, false, true, true, true, false, false, false] rfl rfl (any_of HT_.out (by kernel_rfl)) (fun _ _ _ h => h) (Or.inl ⟨by rfl, ?_⟩) ?_ ?_
              rotate_left
              ·intro w'
               go_simp
               with_reducible rfl
              rotate_left
              ·simp only [Act.put, List.setIfInBounds_toArray, List.set_cons_zero, List.set_cons_succ, i64_w, i32_w]
               rfl
              refine join_ (σ := Value × Value) 2 #[true, true, true, true, true, true, true, false, false] (fun s_ => [(44, s_.1), (48, s_.2)]) (fun s_ w' => (w'.cell? ⟨gb472, 0, none⟩ = some (.int .i64 ((rd_T54 l0 x23_1).f0)) ∧ w'.cell? ⟨gb472, 1, none⟩ = some (.string ((rd_T54 l0 x23_1).f1)) ∧ w'.cell? ⟨gb472, 2, none⟩ = some (.int .i64 ((rd_T54 l0 x23_1).f2)) ∧ w'.cell? ⟨gb472, 3, none⟩ = some (.int .i64 ((rd_T54 l0 x23_1).f3.f0)) ∧ w'.cell? ⟨gb472, 4, none⟩ = some (.int .i64 ((rd_T54 l0 x23_1).f3.f1)) ∧ w'.cell? ⟨gb472, 5, none⟩ = some (.string ((rd_T54 l0 x23_1).f3.f2)) ∧ w'.cell? ⟨gb472, 6, none⟩ = some (.bool ((rd_T54 l0 x23_1).f3.f3)) ∧ w'.cell? ⟨gb472, 7, none⟩ = some (.complex .f64 ((rd_T54 l0 x23_1).f3.f4).re ((rd_T54 l0 x23_1).f3.f4).im) ∧ w'.cell? ⟨gb472, 8, none⟩ = some (.int .i64 ((rd_T54 l0 x23_1).f4))) ∧ (Kd.R (Kd.int .u8) 5 w' w.heap.size (fun k_ => some k_ ≠ (.slice Ao29 t479.length co29 : Value).ownBlock ∧ some k_ ≠ (s_.1 : Value).ownBlock ∧ some k_ ≠ (s_.2 : Value).ownBlock) (.slice Ao25 y473.length co25) y473) ∧ (Kd.R (Kd.int .u8) 5 w' w.heap.size (fun k_ => some k_ ≠ (.slice Ao25 y473.length co25 : Value).ownBlock ∧ some k_ ≠ (s_.1 : Value).ownBlock ∧ some k_ ≠ (s_.2 : Value).ownBlock) (.slice Ao29 t479.length co29) t479) ∧ (Kd.R (Kd.int .u8) 5 w' w.heap.size (fun k_ => some k_ ≠ (.slice Ao25 y473.length co25 : Value).ownBlock ∧ some k_ ≠ (.slice Ao29 t479.length co29 : Value).ownBlock ∧ some k_ ≠ (s_.2 : Value).ownBlock) s_.1 y483) ∧ (Kd.R (Kd.int .u8) 5 w' w.heap.size (fun k_ => some k_ ≠ (.slice Ao25 y473.length co25 : Value).ownBlock ∧ some k_ ≠ (.slice Ao29 t479.length co29 : Value).ownBlock ∧ some k_ ≠ (s_.1 : Value).ownBlock) s_.2 y486) ∧ (w'.heap[gb472]? = some (.cells #[.int .i64 ((rd_T54 l0 x23_1).f0), .string ((rd_T54 l0 x23_1).f1), .int .i64 ((rd_T54 l0 x23_1).f2), .int .i64 ((rd_T54 l0 x23_1).f3.f0), .int .i64 ((rd_T54 l0 x23_1).f3.f1), .string ((rd_T54 l0 x23_1).f3.f2), .bool ((rd_T54 l0 x23_1).f3.f3), .complex .f64 ((rd_T54 l0 x23_1).f3.f4).re ((rd_T54 l0 x23_1).f3.f4).im, .int .i64 ((rd_T54 l0 x23_1).f4)] 54 (0, 0))) ∧ (Below w.heap.size w w')) ?_ ?_
              rotate_left
              ·intro hCont
               refine two_ (i := 2) (j := 6) (Ni := some 44) (Nj := some 48) #[true, true, true, true, true, true, false, false, false] #[true, true, false, true, true, true, true, false, false] rfl rfl rfl rfl (two_of HT_.out (by kernel_rfl)) (by decide) (by decide) (fun K hK => ?_) (fun K hK => ?_)
               ·skip
                refine Kd.R_append_rows_step (Kd.int .u8) (w0 := w) w.heap.size (by rfl) (.tmp 42) (.tmp 43) 33 5 (.int .u8 0) 1 rfl Try.underlying33 info5 rfl (by decide) (by omega) (.slice Ao28 y476.length co28) y476 t479 _ _ _ (fun k_ => some k_ ≠ (.slice Ao25 y473.length co25 : Value).ownBlock ∧ some k_ ≠ (.slice Ao29 t479.length co29 : Value).ownBlock) (fun _ => False) rfl rfl ?aO ?aR (fun _ _ h => h) (fun _ h => h.elim) ?aF ?aB ?aS ?aL ?_
                (case aR => repeat (first | exact (Kd.R_reads' HO482.out).2.2 | (with_reducible refine Kd.C_alloc ?_ _) | (with_reducible refine Kd.C_drewN ?_ _) | (with_reducible refine Kd.C_drew ?_)))
                (case aB => exact (Bl))
                (case aF => exact (fun k_ hk => ⟨Kd.fresh' (Kd.R_lt (Rw HO475.out)) k_ hk, Kd.fresh' (Kd.R_lt (Rw HO482.out)) k_ hk⟩))
                (case aO => exact (Rw HO478.out))
                (case aS => exact (below_size (Bl)))
                (case aL => have := LMc13.out; omega)
                intro v484 w31 ho hb hg hat
                rw [← Ny483.out] at ho
                have n0_ := Aside0.mk (blk_grown (g := gb472) (o := .cells #[.int .i64 ((rd_T54 l0 x23_1).f0), .string ((rd_T54 l0 x23_1).f1), .int .i64 ((rd_T54 l0 x23_1).f2), .int .i64 ((rd_T54 l0 x23_1).f3.f0), .int .i64 ((rd_T54 l0 x23_1).f3.f1), .string ((rd_T54 l0 x23_1).f3.f2), .bool ((rd_T54 l0 x23_1).f3.f3), .complex .f64 ((rd_T54 l0 x23_1).f3.f4).re ((rd_T54 l0 x23_1).f3.f4).im, .int .i64 ((rd_T54 l0 x23_1).f4)] 54 (0, 0)) (Bk BK472.out) hg (Kd.R_ne HO478.out BK472.out (by decide)))
                have n1_ := Aside0.mk (Kd.R_after (ok := (fun k_ => some k_ ≠ (.slice Ao29 t479.length co29 : Value).ownBlock)) (by (with_reducible repeat (first | apply Kd.R_alloc | apply Kd.R_drewN | apply Kd.R_drew)); exact Kd.R_mono HO475.out (fun _ hk => ⟨hk.2, hk.1.2⟩)) hg hat)
                have n2_ := Aside0.mk (Kd.R_after (ok := (fun k_ => some k_ ≠ (.slice Ao25 y473.length co25 : Value).ownBlock)) (by (with_reducible repeat (first | apply Kd.R_alloc | apply Kd.R_drewN | apply Kd.R_drew)); exact Kd.R_mono HO482.out (fun _ hk => ⟨hk.1.2, hk.2⟩)) hg hat)
                have n3_ := Aside0.mk (hb)
                have n4_ := Aside0.mk (ho)
                clear BK472
                clear HO475
                clear HO482
                clear HB
                clear HO478
                have BK472 := n0_
                have HO475 := n1_
                have HO482 := n2_
                have HB := n3_
                have HO485 := n4_
                clear n0_ n1_ n2_ n3_ n4_
                clear ho hb hg hat
                refine hK.out _ _ ⟨(blk_cell BK472.out 0).trans rfl, (blk_cell BK472.out 1).trans rfl, (blk_cell BK472.out 2).trans rfl, (blk_cell BK472.out 3).trans rfl, (blk_cell BK472.out 4).trans rfl, (blk_cell BK472.out 5).trans rfl, (blk_cell BK472.out 6).trans rfl, (blk_cell BK472.out 7).trans rfl, (blk_cell BK472.out 8).trans rfl⟩ (fun hHeld => ?_)
                clear hK K
                refine norm_ (a' := ?_) ?_ ?_
                rotate_left
                ·show Act.put _ (some 44) _ = _
                 simp only [Act.put, List.setIfInBounds_toArray, List.set_cons_zero, List.set_cons_succ, i64_w, i32_w]
                 rfl
                refine one_ (i := 6) (N := some 48) #[true, true, true, true, true, true, true, false, false] rfl rfl (one_of HT_.out (by kernel_rfl)) (by decide) (fun K hK => ?_)
                refine Kd.R_lit_step (Kd.int .u8) _ 5 ?hg (N := 48) ?hd (xs := ([((rd_T54 l0 x23_1).f2) % 256] : List Int)) (inner := [.int .u8 (((rd_T54 l0 x23_1).f2) % 256)]) (ok := fun _ => True) (okp := fun _ => True) ?hr ?hp (fun _ hk => hk) trivial (Below.refl _ _) (Nat.le_refl _) (by simp) ?_; (case hd => rfl); (case hg => rfl); (case hr => first | (go_simp; done) | (go_simp; rfl)); (case hp => exact (Reps.one (show Kd.M (Kd.int .u8) _ _ _ (((rd_T54 l0 x23_1).f2) % 256) [.int .u8 (((rd_T54 l0 x23_1).f2) % 256)] from rfl) (Reps.none _ _)))
                intro v487 w32 ho33 hb hg_ hnew_
                clear hg_ hnew_
                (first | rw [← Ny486.out] at ho33 | (simp only [Int.reduceToNat] at ho33; rw [← Ny486.out] at ho33))
                have n0_ := Aside0.mk (Kd.R_elder' (Rw HO475.out) (Kd.R_base ho33) hb)
                have n1_ := Aside0.mk (Kd.R_elder' (Rw HO482.out) (Kd.R_base ho33) hb)
                have n2_ := Aside0.mk (Kd.R_elder' (Rw HO485.out) (Kd.R_base ho33) hb)
                have n3_ := Aside0.mk (Kd.R_lower (Kd.R_new' (Kd.R_new' (Kd.R_new' ho33 (Kd.R_lt (Rw HO475.out))) (Kd.R_lt (Rw HO482.out))) (Kd.R_lt (Rw HO485.out))) (below_size (Bl)))
                have n4_ := Aside0.mk (blk_below (g := gb472) (o := .cells #[.int .i64 ((rd_T54 l0 x23_1).f0), .string ((rd_T54 l0 x23_1).f1), .int .i64 ((rd_T54 l0 x23_1).f2), .int .i64 ((rd_T54 l0 x23_1).f3.f0), .int .i64 ((rd_T54 l0 x23_1).f3.f1), .string ((rd_T54 l0 x23_1).f3.f2), .bool ((rd_T54 l0 x23_1).f3.f3), .complex .f64 ((rd_T54 l0 x23_1).f3.f4).re ((rd_T54 l0 x23_1).f3.f4).im, .int .i64 ((rd_T54 l0 x23_1).f4)] 54 (0, 0)) (Bk BK472.out) hb)
                have n5_ := Aside0.mk (below_step (Bl) hb)
                clear HO475
                clear HO482
                clear HO485
                clear BK472
                clear HB
                have HO475 := n0_
                have HO482 := n1_
                have HO485 := n2_
                have HO488 := n3_
                have BK472 := n4_
                have HB := n5_
                clear n0_ n1_ n2_ n3_ n4_ n5_
                clear hb ho33
                refine hK.out _ _ ⟨(blk_cell BK472.out 0).trans rfl, (blk_cell BK472.out 1).trans rfl, (blk_cell BK472.out 2).trans rfl, (blk_cell BK472.out 3).trans rfl, (blk_cell BK472.out 4).trans rfl, (blk_cell BK472.out 5).trans rfl, (blk_cell BK472.out 6).trans rfl, (blk_cell BK472.out 7).trans rfl, (blk_cell BK472.out 8).trans rfl⟩ (fun hHeld => ?_)
                clear hK K
                refine norm_ (a' := ?_) ?_ ?_
                rotate_left
                ·show Act.put _ (some 48) _ = _
                 simp only [Act.put, List.setIfInBounds_toArray, List.set_cons_zero, List.set_cons_succ, i64_w, i32_w]
                 rfl
                exact norm_ (by simp only [putAll, Act.put, List.setIfInBounds_toArray, List.set_cons_zero, List.set_cons_succ]) (hCont (v484, v487) _ ⟨hHeld, (by (with_reducible repeat (first | apply Kd.R_alloc | apply Kd.R_drewN | apply Kd.R_drew)); exact Kd.R_mono HO475.out (fun _ hk => ⟨hk.1.1, ⟨hk.1.2, hk.2⟩⟩)), (by (with_reducible repeat (first | apply Kd.R_alloc | apply Kd.R_drewN | apply Kd.R_drew)); exact Kd.R_mono HO482.out (fun _ hk => ⟨hk.1.1, ⟨hk.1.2, hk.2⟩⟩)), (by (with_reducible repeat (first | apply Kd.R_alloc | apply Kd.R_drewN | apply Kd.R_drew)); exact Kd.R_mono HO485.out (fun _ hk => ⟨hk.1.1, ⟨hk.1.2, hk.2⟩⟩)), (by (with_reducible repeat (first | apply Kd.R_alloc | apply Kd.R_drewN | apply Kd.R_drew)); exact Kd.R_mono HO488.out (fun _ hk => ⟨hk.1.1.2, ⟨hk.1.2, hk.2⟩⟩)), (Bk BK472.out), (Bl)⟩)
               ·skip
                refine Kd.R_lit_step (Kd.int .u8) _ 5 ?hg (N := 48) ?hd (xs := ([((rd_T54 l0 x23_1).f2) % 256] : List Int)) (inner := [.int .u8 (((rd_T54 l0 x23_1).f2) % 256)]) (ok := fun _ => True) (okp := fun _ => True) ?hr ?hp (fun _ hk => hk) trivial (Below.refl _ _) (Nat.le_refl _) (by simp) ?_; (case hd => rfl); (case hg => rfl); (case hr => first | (go_simp; done) | (go_simp; rfl)); (case hp => exact (Reps.one (show Kd.M (Kd.int .u8) _ _ _ (((rd_T54 l0 x23_1).f2) % 256) [.int .u8 (((rd_T54 l0 x23_1).f2) % 256)] from rfl) (Reps.none _ _)))
                intro v487 w31 ho32 hb hg_ hnew_
                clear hg_ hnew_
                (first | rw [← Ny486.out] at ho32 | (simp only [Int.reduceToNat] at ho32; rw [← Ny486.out] at ho32))
                have n0_ := Aside0.mk (Kd.R_elder' (Rw HO475.out) (Kd.R_base ho32) hb)
                have n1_ := Aside0.mk (Kd.R_elder' (Rw HO478.out) (Kd.R_base ho32) hb)
                have n2_ := Aside0.mk (Kd.R_elder' (Rw HO482.out) (Kd.R_base ho32) hb)
                have n3_ := Aside0.mk (Kd.R_lower (Kd.R_new' (Kd.R_new' (Kd.R_new' ho32 (Kd.R_lt (Rw HO475.out))) (Kd.R_lt (Rw HO478.out))) (Kd.R_lt (Rw HO482.out))) (below_size (Bl)))
                have n4_ := Aside0.mk (blk_below (g := gb472) (o := .cells #[.int .i64 ((rd_T54 l0 x23_1).f0), .string ((rd_T54 l0 x23_1).f1), .int .i64 ((rd_T54 l0 x23_1).f2), .int .i64 ((rd_T54 l0 x23_1).f3.f0), .int .i64 ((rd_T54 l0 x23_1).f3.f1), .string ((rd_T54 l0 x23_1).f3.f2), .bool ((rd_T54 l0 x23_1).f3.f3), .complex .f64 ((rd_T54 l0 x23_1).f3.f4).re ((rd_T54 l0 x23_1).f3.f4).im, .int .i64 ((rd_T54 l0 x23_1).f4)] 54 (0, 0)) (Bk BK472.out) hb)
                have n5_ := Aside0.mk (below_step (Bl) hb)
                clear HO475
                clear HO478
                clear HO482
                clear BK472
                clear HB
                have HO475 := n0_
                have HO478 := n1_
                have HO482 := n2_
                have HO488 := n3_
                have BK472 := n4_
                have HB := n5_
                clear n0_ n1_ n2_ n3_ n4_ n5_
                clear hb ho32
                refine hK.out _ _ ⟨(blk_cell BK472.out 0).trans rfl, (blk_cell BK472.out 1).trans rfl, (blk_cell BK472.out 2).trans rfl, (blk_cell BK472.out 3).trans rfl, (blk_cell BK472.out 4).trans rfl, (blk_cell BK472.out 5).trans rfl, (blk_cell BK472.out 6).trans rfl, (blk_cell BK472.out 7).trans rfl, (blk_cell BK472.out 8).trans rfl⟩ (fun hHeld => ?_)
                clear hK K
                refine norm_ (a' := ?_) ?_ ?_
                rotate_left
                ·show Act.put _ (some 48) _ = _
                 simp only [Act.put, List.setIfInBounds_toArray, List.set_cons_zero, List.set_cons_succ, i64_w, i32_w]
                 rfl
                refine one_ (i := 2) (N := some 44) #[true, true, true, true, true, true, true, false, false] rfl rfl (one_of HT_.out (by kernel_rfl)) (by decide) (fun K hK => ?_)
                refine Kd.R_append_rows_step (Kd.int .u8) (w0 := w) w.heap.size (by rfl) (.tmp 42) (.tmp 43) 33 5 (.int .u8 0) 1 rfl Try.underlying33 info5 rfl (by decide) (by omega) (.slice Ao28 y476.length co28) y476 t479 _ _ _ (fun k_ => some k_ ≠ (.slice Ao25 y473.length co25 : Value).ownBlock ∧ some k_ ≠ (.slice Ao29 t479.length co29 : Value).ownBlock ∧ some k_ ≠ (v487 : Value).ownBlock) (fun _ => False) rfl rfl ?aO ?aR (fun _ _ h => h) (fun _ h => h.elim) ?aF ?aB ?aS ?aL ?_
                (case aR => repeat (first | exact (Kd.R_reads' HO482.out).2.2 | (with_reducible refine Kd.C_alloc ?_ _) | (with_reducible refine Kd.C_drewN ?_ _) | (with_reducible refine Kd.C_drew ?_)))
                (case aB => exact (Bl))
                (case aF => exact (fun k_ hk => ⟨Kd.fresh' (Kd.R_lt (Rw HO475.out)) k_ hk, Kd.fresh' (Kd.R_lt (Rw HO482.out)) k_ hk, Kd.fresh' (Kd.R_lt (Rw HO488.out)) k_ hk⟩))
                (case aO => exact (by (with_reducible repeat (first | apply Kd.R_alloc | apply Kd.R_drewN | apply Kd.R_drew)); exact Kd.R_mono HO478.out (fun _ hk => ⟨hk.1.1, ⟨hk.1.2, hk.2⟩⟩)))
                (case aS => exact (below_size (Bl)))
                (case aL => have := LMc13.out; omega)
                intro v484 w33 ho hb hg hat
                rw [← Ny483.out] at ho
                have n0_ := Aside0.mk (blk_grown (g := gb472) (o := .cells #[.int .i64 ((rd_T54 l0 x23_1).f0), .string ((rd_T54 l0 x23_1).f1), .int .i64 ((rd_T54 l0 x23_1).f2), .int .i64 ((rd_T54 l0 x23_1).f3.f0), .int .i64 ((rd_T54 l0 x23_1).f3.f1), .string ((rd_T54 l0 x23_1).f3.f2), .bool ((rd_T54 l0 x23_1).f3.f3), .complex .f64 ((rd_T54 l0 x23_1).f3.f4).re ((rd_T54 l0 x23_1).f3.f4).im, .int .i64 ((rd_T54 l0 x23_1).f4)] 54 (0, 0)) (Bk BK472.out) hg (Kd.R_ne HO478.out BK472.out (by decide)))
                have n1_ := Aside0.mk (Kd.R_after (ok := (fun k_ => some k_ ≠ (.slice Ao29 t479.length co29 : Value).ownBlock ∧ some k_ ≠ (v487 : Value).ownBlock)) (by (with_reducible repeat (first | apply Kd.R_alloc | apply Kd.R_drewN | apply Kd.R_drew)); exact Kd.R_mono HO475.out (fun _ hk => ⟨⟨hk.1.2, hk.2⟩, hk.1.1.2⟩)) hg hat)
                have n2_ := Aside0.mk (Kd.R_after (ok := (fun k_ => some k_ ≠ (.slice Ao25 y473.length co25 : Value).ownBlock ∧ some k_ ≠ (v487 : Value).ownBlock)) (by (with_reducible repeat (first | apply Kd.R_alloc | apply Kd.R_drewN | apply Kd.R_drew)); exact Kd.R_mono HO482.out (fun _ hk => ⟨⟨hk.1.1.2, hk.2⟩, hk.1.2⟩)) hg hat)
                have n3_ := Aside0.mk (Kd.R_after (ok := (fun k_ => some k_ ≠ (.slice Ao25 y473.length co25 : Value).ownBlock ∧ some k_ ≠ (.slice Ao29 t479.length co29 : Value).ownBlock)) (by (with_reducible repeat (first | apply Kd.R_alloc | apply Kd.R_drewN | apply Kd.R_drew)); exact Kd.R_mono HO488.out (fun _ hk => ⟨⟨hk.1.1.2, hk.2⟩, hk.1.2⟩)) hg hat)
                have n4_ := Aside0.mk (hb)
                have n5_ := Aside0.mk (ho)
                clear BK472
                clear HO475
                clear HO482
                clear HO488
                clear HB
                clear HO478
                have BK472 := n0_
                have HO475 := n1_
                have HO482 := n2_
                have HO488 := n3_
                have HB := n4_
                have HO485 := n5_
                clear n0_ n1_ n2_ n3_ n4_ n5_
                clear ho hb hg hat
                refine hK.out _ _ ⟨(blk_cell BK472.out 0).trans rfl, (blk_cell BK472.out 1).trans rfl, (blk_cell BK472.out 2).trans rfl, (blk_cell BK472.out 3).trans rfl, (blk_cell BK472.out 4).trans rfl, (blk_cell BK472.out 5).trans rfl, (blk_cell BK472.out 6).trans rfl, (blk_cell BK472.out 7).trans rfl, (blk_cell BK472.out 8).trans rfl⟩ (fun hHeld => ?_)
                clear hK K
                refine norm_ (a' := ?_) ?_ ?_
                rotate_left
                ·show Act.put _ (some 44) _ = _
                 simp only [Act.put, List.setIfInBounds_toArray, List.set_cons_zero, List.set_cons_succ, i64_w, i32_w]
                 rfl
                exact norm_ (by simp only [putAll, Act.put, List.setIfInBounds_toArray, List.set_cons_zero, List.set_cons_succ]) (hCont (v484, v487) _ ⟨hHeld, (by (with_reducible repeat (first | apply Kd.R_alloc | apply Kd.R_drewN | apply Kd.R_drew)); exact Kd.R_mono HO475.out (fun _ hk => ⟨hk.1.1, ⟨hk.2, hk.1.2⟩⟩)), (by (with_reducible repeat (first | apply Kd.R_alloc | apply Kd.R_drewN | apply Kd.R_drew)); exact Kd.R_mono HO482.out (fun _ hk => ⟨hk.1.1, ⟨hk.2, hk.1.2⟩⟩)), (Rw HO485.out), (by (with_reducible repeat (first | apply Kd.R_alloc | apply Kd.R_drewN | apply Kd.R_drew)); exact Kd.R_mono HO488.out (fun _ hk => ⟨hk.1.1, ⟨hk.1.2, hk.2⟩⟩)), (Bk BK472.out), (Bl)⟩)
              rintro ⟨v484, v487⟩ w34 ⟨hS_, h0_, h1_, h2_, h3_, h4_, h5_⟩
              have n0_ : Aside0 (Kd.R (Kd.int .u8) 5 w34 w.heap.size (fun k_ => some k_ ≠ (.slice Ao29 t479.length co29 : Value).ownBlock ∧ some k_ ≠ (v484 : Value).ownBlock ∧ some k_ ≠ (v487 : Value).ownBlock) (.slice Ao25 y473.length co25) y473) := ⟨h0_⟩
              have n1_ : Aside0 (Kd.R (Kd.int .u8) 5 w34 w.heap.size (fun k_ => some k_ ≠ (.slice Ao25 y473.length co25 : Value).ownBlock ∧ some k_ ≠ (v484 : Value).ownBlock ∧ some k_ ≠ (v487 : Value).ownBlock) (.slice Ao29 t479.length co29) t479) := ⟨h1_⟩
              have n2_ : Aside0 (Kd.R (Kd.int .u8) 5 w34 w.heap.size (fun k_ => some k_ ≠ (.slice Ao25 y473.length co25 : Value).ownBlock ∧ some k_ ≠ (.slice Ao29 t479.length co29 : Value).ownBlock ∧ some k_ ≠ (v487 : Value).ownBlock) v484 y483) := ⟨h2_⟩
              have n3_ : Aside0 (Kd.R (Kd.int .u8) 5 w34 w.heap.size (fun k_ => some k_ ≠ (.slice Ao25 y473.length co25 : Value).ownBlock ∧ some k_ ≠ (.slice Ao29 t479.length co29 : Value).ownBlock ∧ some k_ ≠ (v484 : Value).ownBlock) v487 y486) := ⟨h3_⟩
              have n4_ : Aside0 (w34.heap[gb472]? = some (.cells #[.int .i64 ((rd_T54 l0 x23_1).f0), .string ((rd_T54 l0 x23_1).f1), .int .i64 ((rd_T54 l0 x23_1).f2), .int .i64 ((rd_T54 l0 x23_1).f3.f0), .int .i64 ((rd_T54 l0 x23_1).f3.f1), .string ((rd_T54 l0 x23_1).f3.f2), .bool ((rd_T54 l0 x23_1).f3.f3), .complex .f64 ((rd_T54 l0 x23_1).f3.f4).re ((rd_T54 l0 x23_1).f3.f4).im, .int .i64 ((rd_T54 l0 x23_1).f4)] 54 (0, 0))) := ⟨h4_⟩
              have n5_ : Aside0 (Below w.heap.size w w34) := ⟨h5_⟩
              clear HO475
              clear HO478
              clear HO482
              clear BK472
              clear HB
              clear h0_ h1_ h2_ h3_ h4_ h5_
              have HO475 := n0_
              have HO482 := n1_
              have HO485 := n2_
              have HO488 := n3_
              have BK472 := n4_
              have HB := n5_
              clear n0_ n1_ n2_ n3_ n4_ n5_
              have hHeld : w34.cell? ⟨gb472, 0, none⟩ = some (.int .i64 ((rd_T54 l0 x23_1).f0)) ∧ w34.cell? ⟨gb472, 1, none⟩ = some (.string ((rd_T54 l0 x23_1).f1)) ∧ w34.cell? ⟨gb472, 2, none⟩ = some (.int .i64 ((rd_T54 l0 x23_1).f2)) ∧ w34.cell? ⟨gb472, 3, none⟩ = some (.int .i64 ((rd_T54 l0 x23_1).f3.f0)) ∧ w34.cell? ⟨gb472, 4, none⟩ = some (.int .i64 ((rd_T54 l0 x23_1).f3.f1)) ∧ w34.cell? ⟨gb472, 5, none⟩ = some (.string ((rd_T54 l0 x23_1).f3.f2)) ∧ w34.cell? ⟨gb472, 6, none⟩ = some (.bool ((rd_T54 l0 x23_1).f3.f3)) ∧ w34.cell? ⟨gb472, 7, none⟩ = some (.complex .f64 ((rd_T54 l0 x23_1).f3.f4).re ((rd_T54 l0 x23_1).f3.f4).im) ∧ w34.cell? ⟨gb472, 8, none⟩ = some (.int .i64 ((rd_T54 l0 x23_1).f4)) := hS_
              obtain ⟨Ao36, co36, eo36⟩ := Kd.R_slice HO488.out
              (first | subst eo36 | (injection eo36 with f1_ f2_ f3_; have f4_ := f1_.symm; have f5_ := f3_.symm; clear f1_ f2_ f3_; subst f4_; subst f5_))
              refine norm_ (a' := ?_) ?_ ?_
              rotate_left
              ·simp only [putAll, Act.put, List.setIfInBounds_toArray, List.set_cons_zero, List.set_cons_succ]
               rfl
              refine one_ (i := 7) (N := some 49) #[true, true, true, true, true, true, true, true, false] rfl rfl (one_of HT_.out (by kernel_rfl)) (by decide) (fun K hK => ?_)
              refine Kd.R_append_rows_step (Kd.int .u8) (w0 := w) w.heap.size (by rfl) (.tmp 44) (.tmp 48) 33 5 (.int .u8 0) 1 rfl Try.underlying33 info5 rfl (by decide) (by omega) v484 y483 y486 _ _ _ (fun k_ => some k_ ≠ (.slice Ao25 y473.length co25 : Value).ownBlock ∧ some k_ ≠ (.slice Ao29 t479.length co29 : Value).ownBlock ∧ some k_ ≠ (.slice Ao36 y486.length co36 : Value).ownBlock) (fun _ => False) rfl rfl ?aO ?aR (fun _ _ h => h) (fun _ h => h.elim) ?aF ?aB ?aS ?aL ?_
              (case aR => repeat (first | exact (Kd.R_reads' HO488.out).2.2 | (with_reducible refine Kd.C_alloc ?_ _) | (with_reducible refine Kd.C_drewN ?_ _) | (with_reducible refine Kd.C_drew ?_)))
              (case aB => exact (Bl))
              (case aF => exact (fun k_ hk => ⟨Kd.fresh' (Kd.R_lt (Rw HO475.out)) k_ hk, Kd.fresh' (Kd.R_lt (Rw HO482.out)) k_ hk, Kd.fresh' (Kd.R_lt (Rw HO488.out)) k_ hk⟩))
              (case aO => exact (Rw HO485.out))
              (case aS => exact (below_size (Bl)))
              (case aL => have := LMc14.out; omega)
              intro v490 w35 ho hb hg hat
              rw [← Ny489.out] at ho
              have n0_ := Aside0.mk (blk_grown (g := gb472) (o := .cells #[.int .i64 ((rd_T54 l0 x23_1).f0), .string ((rd_T54 l0 x23_1).f1), .int .i64 ((rd_T54 l0 x23_1).f2), .int .i64 ((rd_T54 l0 x23_1).f3.f0), .int .i64 ((rd_T54 l0 x23_1).f3.f1), .string ((rd_T54 l0 x23_1).f3.f2), .bool ((rd_T54 l0 x23_1).f3.f3), .complex .f64 ((rd_T54 l0 x23_1).f3.f4).re ((rd_T54 l0 x23_1).f3.f4).im, .int .i64 ((rd_T54 l0 x23_1).f4)] 54 (0, 0)) (Bk BK472.out) hg (Kd.R_ne HO485.out BK472.out (by decide)))
              have n1_ := Aside0.mk (Kd.R_after (ok := (fun k_ => some k_ ≠ (.slice Ao29 t479.length co29 : Value).ownBlock ∧ some k_ ≠ (.slice Ao36 y486.length co36 : Value).ownBlock)) (by (with_reducible repeat (first | apply Kd.R_alloc | apply Kd.R_drewN | apply Kd.R_drew)); exact Kd.R_mono HO475.out (fun _ hk => ⟨⟨hk.1, hk.2.2⟩, hk.2.1⟩)) hg hat)
              have n2_ := Aside0.mk (Kd.R_after (ok := (fun k_ => some k_ ≠ (.slice Ao25 y473.length co25 : Value).ownBlock ∧ some k_ ≠ (.slice Ao36 y486.length co36 : Value).ownBlock)) (by (with_reducible repeat (first | apply Kd.R_alloc | apply Kd.R_drewN | apply Kd.R_drew)); exact Kd.R_mono HO482.out (fun _ hk => ⟨⟨hk.1, hk.2.2⟩, hk.2.1⟩)) hg hat)
              have n3_ := Aside0.mk (Kd.R_after (ok := (fun k_ => some k_ ≠ (.slice Ao25 y473.length co25 : Value).ownBlock ∧ some k_ ≠ (.slice Ao29 t479.length co29 : Value).ownBlock)) (by (with_reducible repeat (first | apply Kd.R_alloc | apply Kd.R_drewN | apply Kd.R_drew)); exact Kd.R_mono HO488.out (fun _ hk => ⟨⟨hk.1, hk.2.1⟩, hk.2.2⟩)) hg hat)
              have n4_ := Aside0.mk (hb)
              have n5_ := Aside0.mk (ho)
              clear BK472
              clear HO475
              clear HO482
              clear HO488
              clear HB
              clear HO485
              have BK472 := n0_
              have HO475 := n1_
              have HO482 := n2_
              have HO488 := n3_
              have HB := n4_
              have HO491 := n5_
              clear n0_ n1_ n2_ n3_ n4_ n5_
              clear ho hb hg hat
              refine hK.out _ _ ⟨(blk_cell BK472.out 0).trans rfl, (blk_cell BK472.out 1).trans rfl, (blk_cell BK472.out 2).trans rfl, (blk_cell BK472.out 3).trans rfl, (blk_cell BK472.out 4).trans rfl, (blk_cell BK472.out 5).trans rfl, (blk_cell BK472.out 6).trans rfl, (blk_cell BK472.out 7).trans rfl, (blk_cell BK472.out 8).trans rfl⟩ (fun hHeld => ?_)
              clear hK K
              refine norm_ (a' := ?_) ?_ ?_
              rotate_left
              ·show Act.put _ (some 49) _ = _
               simp only [Act.put, List.setIfInBounds_toArray, List.set_cons_zero, List.set_cons_succ, i64_w, i32_w]
               rfl
              refine pure_ (i := 8) (N := some 5) (v := ?_) (a' := ?_) #[true, true, true, true, true, true, true, true, true] rfl rfl (any_of HT_.out (by kernel_rfl)) (fun _ _ _ h => h) (Or.inl ⟨by rfl, ?_⟩) ?_ ?_
              rotate_left
              ·intro w'
               go_simp
               with_reducible rfl
              rotate_left
              ·simp only [Act.put, List.setIfInBounds_toArray, List.set_cons_zero, List.set_cons_succ, i64_w, i32_w]
               rfl
              refine done_ (done_of HT_.out (by kernel_rfl)) ?_
              obtain ⟨_, _, _, _, _, _, _, _, _⟩ := cz9 BK472.out
              obtain ⟨_, _, _, _, _, _, _, _, _⟩ := fz9 BK472.out
              try go_wp2_with (first | ((with_reducible refine gate_callee (f := 31) rfl ?_); refine goesL_ (some 52) rfl rfl Try.func31 (by kernel_rfl) rfl #[.int .i64 ((rd_T54 l0 x23_1).f2)] rfl (Mp) ?_; (with_reducible refine (pred_bare.calls ((rd_T54 l0 x23_1).f2) true _ A15.out).mono ?_); rintro e w' ⟨rfl, ⟨nd, rfl⟩⟩; refine ⟨_, rfl, ?_⟩) | ((with_reducible refine gate_callee (f := 29) rfl ?_); refine goesL_ (some 70) rfl rfl Try.func29 (by kernel_rfl) rfl #[.int .u64 (IntKind.u64.wrap ((rd_T54 l0 x23_1).f4))] rfl (Mp) ?_; (with_reducible refine (octet_Uint.calls k1 (IntKind.u64.wrap ((rd_T54 l0 x23_1).f4)) t493 _ A18.out).mono ?_); rintro e w38 ⟨v494, rfl, ho0, hb⟩; refine ⟨_, rfl, ?_⟩; have n0_ := Aside0.mk (Kd.R_elder' (Rw HO475.out) (Kd.R_base ho0) hb); have n1_ := Aside0.mk (Kd.R_elder' (Rw HO482.out) (Kd.R_base ho0) hb); have n2_ := Aside0.mk (Kd.R_elder' (Rw HO488.out) (Kd.R_base ho0) hb); have n3_ := Aside0.mk (Kd.R_elder' (Rw HO491.out) (Kd.R_base ho0) hb); have n4_ := Aside0.mk (Kd.R_lower (Kd.R_new' (Kd.R_new' (Kd.R_new' (Kd.R_new' ho0 (Kd.R_lt (Rw HO475.out))) (Kd.R_lt (Rw HO482.out))) (Kd.R_lt (Rw HO488.out))) (Kd.R_lt (Rw HO491.out))) (below_size (Bl))); have n5_ := Aside0.mk (blk_below (g := gb472) (o := .cells #[.int .i64 ((rd_T54 l0 x23_1).f0), .string ((rd_T54 l0 x23_1).f1), .int .i64 ((rd_T54 l0 x23_1).f2), .int .i64 ((rd_T54 l0 x23_1).f3.f0), .int .i64 ((rd_T54 l0 x23_1).f3.f1), .string ((rd_T54 l0 x23_1).f3.f2), .bool ((rd_T54 l0 x23_1).f3.f3), .complex .f64 ((rd_T54 l0 x23_1).f3.f4).re ((rd_T54 l0 x23_1).f3.f4).im, .int .i64 ((rd_T54 l0 x23_1).f4)] 54 (0, 0)) (Bk BK472.out) hb); have n6_ := Aside0.mk (below_step (Bl) hb); clear HO475; clear HO482; clear HO488; clear HO491; clear BK472; clear HB; have HO475 := n0_; have HO482 := n1_; have HO488 := n2_; have HO491 := n3_; have HO495 := n4_; have BK472 := n5_; have HB := n6_; clear n0_ n1_ n2_ n3_ n4_ n5_ n6_; (try clear hb); (try clear hb2); (try clear hk); (try clear hi); (try clear ho0); obtain ⟨Ao40, co40, eo40⟩ := Kd.R_slice HO495.out; subst eo40) | ((with_reducible refine gate_builtin (b := .append) (xs := #[.tmp 66, .tmp 70]) rfl ?_); at_builtin; refine Kd.R_append_rows (Kd.int .u8) (w0 := w) w.heap.size rfl (.tmp 66) (.tmp 70) 33 5 (.int .u8 0) 1 rfl Try.underlying33 info5 rfl (by decide) (by omega) v490 y489 t493 _ _ _ (fun k_ => some k_ ≠ (.slice Ao25 y473.length co25 : Value).ownBlock ∧ some k_ ≠ (.slice Ao29 t479.length co29 : Value).ownBlock ∧ some k_ ≠ (.slice Ao36 y486.length co36 : Value).ownBlock ∧ some k_ ≠ (.slice Ao40 t493.length co40 : Value).ownBlock) (fun _ => False) rfl rfl ?aO ?aR (fun _ _ h => h) (fun _ h => h.elim) ?aF ?aB ?aS ?aL ?_; (case aR => repeat (first | exact (Kd.R_reads' HO495.out).2.2 | (with_reducible refine Kd.C_alloc ?_ _) | (with_reducible refine Kd.C_drewN ?_ _) | (with_reducible refine Kd.C_drew ?_))); (case aB => exact (Bl)); (case aF => exact (fun k_ hk => ⟨Kd.fresh' (Kd.R_lt (Rw HO475.out)) k_ hk, Kd.fresh' (Kd.R_lt (Rw HO482.out)) k_ hk, Kd.fresh' (Kd.R_lt (Rw HO488.out)) k_ hk, Kd.fresh' (Kd.R_lt (Rw HO495.out)) k_ hk⟩)); (case aO => exact (by (with_reducible repeat (first | apply Kd.R_alloc | apply Kd.R_drewN | apply Kd.R_drew)); exact Kd.R_mono HO491.out (fun _ hk => ⟨hk.1.1, ⟨hk.1.2.1, ⟨hk.1.2.2, hk.2⟩⟩⟩))); (case aS => exact (below_size (Bl))); (case aL => have := LMc19.out; omega); intro v497 w39 ho hb hg hat; rw [← Ny496.out] at ho; have n0_ := Aside0.mk (blk_grown (g := gb472) (o := .cells #[.int .i64 ((rd_T54 l0 x23_1).f0), .string ((rd_T54 l0 x23_1).f1), .int .i64 ((rd_T54 l0 x23_1).f2), .int .i64 ((rd_T54 l0 x23_1).f3.f0), .int .i64 ((rd_T54 l0 x23_1).f3.f1), .string ((rd_T54 l0 x23_1).f3.f2), .bool ((rd_T54 l0 x23_1).f3.f3), .complex .f64 ((rd_T54 l0 x23_1).f3.f4).re ((rd_T54 l0 x23_1).f3.f4).im, .int .i64 ((rd_T54 l0 x23_1).f4)] 54 (0, 0)) (Bk BK472.out) hg (Kd.R_ne HO491.out BK472.out (by decide))); have n1_ := Aside0.mk (Kd.R_after (ok := (fun k_ => some k_ ≠ (.slice Ao29 t479.length co29 : Value).ownBlock ∧ some k_ ≠ (.slice Ao36 y486.length co36 : Value).ownBlock ∧ some k_ ≠ (.slice Ao40 t493.length co40 : Value).ownBlock)) (by (with_reducible repeat (first | apply Kd.R_alloc | apply Kd.R_drewN | apply Kd.R_drew)); exact Kd.R_mono HO475.out (fun _ hk => ⟨⟨hk.1.1.1, ⟨hk.1.1.2, hk.2⟩⟩, hk.1.2⟩)) hg hat); have n2_ := Aside0.mk (Kd.R_after (ok := (fun k_ => some k_ ≠ (.slice Ao25 y473.length co25 : Value).ownBlock ∧ some k_ ≠ (.slice Ao36 y486.length co36 : Value).ownBlock ∧ some k_ ≠ (.slice Ao40 t493.length co40 : Value).ownBlock)) (by (with_reducible repeat (first | apply Kd.R_alloc | apply Kd.R_drewN | apply Kd.R_drew)); exact Kd.R_mono HO482.out (fun _ hk => ⟨⟨hk.1.1.1, ⟨hk.1.1.2, hk.2⟩⟩, hk.1.2⟩)) hg hat); have n3_ := Aside0.mk (Kd.R_after (ok := (fun k_ => some k_ ≠ (.slice Ao25 y473.length co25 : Value).ownBlock ∧ some k_ ≠ (.slice Ao29 t479.length co29 : Value).ownBlock ∧ some k_ ≠ (.slice Ao40 t493.length co40 : Value).ownBlock)) (by (with_reducible repeat (first | apply Kd.R_alloc | apply Kd.R_drewN | apply Kd.R_drew)); exact Kd.R_mono HO488.out (fun _ hk => ⟨⟨hk.1.1.1, ⟨hk.1.1.2, hk.2⟩⟩, hk.1.2⟩)) hg hat); have n4_ := Aside0.mk (Kd.R_after (ok := (fun k_ => some k_ ≠ (.slice Ao25 y473.length co25 : Value).ownBlock ∧ some k_ ≠ (.slice Ao29 t479.length co29 : Value).ownBlock ∧ some k_ ≠ (.slice Ao36 y486.length co36 : Value).ownBlock)) (by (with_reducible repeat (first | apply Kd.R_alloc | apply Kd.R_drewN | apply Kd.R_drew)); exact Kd.R_mono HO495.out (fun _ hk => ⟨⟨hk.1.1.1.2, ⟨hk.1.1.2, hk.1.2⟩⟩, hk.2⟩)) hg hat); have n5_ := Aside0.mk (hb); have n6_ := Aside0.mk (ho); clear BK472; clear HO475; clear HO482; clear HO488; clear HO495; clear HB; clear HO491; have BK472 := n0_; have HO475 := n1_; have HO482 := n2_; have HO488 := n3_; have HO495 := n4_; have HB := n5_; have HO498 := n6_; clear n0_ n1_ n2_ n3_ n4_ n5_ n6_; clear ho hb hg hat))
              go_roundg k1
              case measure => have := HK1.out; omega
              case rel => exact ⟨(y496), (wrap64 (x23_1 + 1)), (by first | rfl | (simp; done) | (simp [*]; done)), H', ⟨by have := HK1.out; omega⟩, ⟨by (with_reducible repeat (first | apply Kd.R_alloc | apply Kd.R_drewN | apply Kd.R_drew)); exact Kd.R_mono HO498.out (fun _ hk => trivial)⟩, ⟨Bl⟩⟩
             ·rw [if_neg c19] at H
              exact absurd H (by simp)
            ·rw [if_neg c17] at H
             have c17b0 : (((rd_T54 l0 x23_1).f2) == 10) = false := beq_eq_false_iff_ne.mpr c17
             have c17b1 : (((rd_T54 l0 x23_1).f2) != 10) = true := bne_iff_ne.mpr c17
             have H' := Aside0.mk H
             clear H
             have p471 : 0 ≤ (x23_1 : Int) := of_decide_eq_true (As)
             have q471 : x23_1 < (l0.length : Int) := of_decide_eq_true (As)
             obtain ⟨ad471, e471, hx471_0, hx471_1, hx471_2, hx471_3, hx471_4, hx471_5, hx471_6, hx471_7, hx471_8⟩ := at_T54 HR0.out x23_1 p471 q471
             cases e471
             replace hx471_0 := (HB.out.cell (World.block_lt_of_cell? w _ hx471_0)).trans hx471_0
             replace hx471_1 := (HB.out.cell (World.block_lt_of_cell? w _ hx471_1)).trans hx471_1
             replace hx471_2 := (HB.out.cell (World.block_lt_of_cell? w _ hx471_2)).trans hx471_2
             replace hx471_3 := (HB.out.cell (World.block_lt_of_cell? w _ hx471_3)).trans hx471_3
             replace hx471_4 := (HB.out.cell (World.block_lt_of_cell? w _ hx471_4)).trans hx471_4
             replace hx471_5 := (HB.out.cell (World.block_lt_of_cell? w _ hx471_5)).trans hx471_5
             replace hx471_6 := (HB.out.cell (World.block_lt_of_cell? w _ hx471_6)).trans hx471_6
             replace hx471_7 := (HB.out.cell (World.block_lt_of_cell? w _ hx471_7)).trans hx471_7
             replace hx471_8 := (HB.out.cell (World.block_lt_of_cell? w _ hx471_8)).trans hx471_8
             replace p471 := eq_true p471
             replace q471 := eq_true q471
             try go_wp2_with (first | ((with_reducible refine gate_dst (N := 7) rfl ?_); refine box_event ?hg (N := 7) ?hd (cs := #[.int .i64 0, .string (⟨#[]⟩ : ByteArray), .int .i64 0, .int .i64 0, .int .i64 0, .string (⟨#[]⟩ : ByteArray), .bool false, .complex .f64 0 0, .int .i64 0]) (t := 54) ?hr ?_; (case hd => rfl); (case hg => rfl); (case hr => first | (go_simp; done) | (go_simp; rfl)); intro gb472 hg w41 hbox hb; have n0_ := Aside0.mk (Kd.R_below (Rw HO_5.out) hb); have n1_ := Aside0.mk (below_step (Bl) hb); have n2_ := Aside0.mk (hbox); have n3_ := Aside0.mk ((by rw [hg]; exact (below_size (Bl)) : w.heap.size ≤ gb472)); have n4_ := Aside0.mk ((by rw [hg]; exact (below_size (Bl)) : w.heap.size ≤ gb472)); clear HO_5; clear HB; have HO_5 := n0_; have HB := n1_; have BK472 := n2_; have GW472 := n3_; have GE472 := n4_; clear n0_ n1_ n2_ n3_ n4_; clear hb hbox hg; obtain ⟨_, _, _, _, _, _, _, _, _⟩ := cz9 BK472.out; obtain ⟨_, _, _, _, _, _, _, _, _⟩ := fz9 BK472.out) | ((with_reducible refine gate_dst (N := 31) rfl ?_); refine Kd.R_lit (Kd.int .u8) _ 5 ?hg (N := 31) ?hd (xs := ([((rd_T54 l0 x23_1).f0) % 256] : List Int)) (inner := [.int .u8 (((rd_T54 l0 x23_1).f0) % 256)]) (ok := fun _ => True) (okp := fun _ => True) ?hr ?hp (fun _ hk => hk) trivial (Below.refl _ _) (Nat.le_refl _) (by simp) ?_; (case hd => rfl); (case hg => rfl); (case hr => first | (go_simp; done) | (go_simp; rfl)); (case hp => exact (Reps.one (show Kd.M (Kd.int .u8) _ _ _ (((rd_T54 l0 x23_1).f0) % 256) [.int .u8 (((rd_T54 l0 x23_1).f0) % 256)] from rfl) (Reps.none _ _))); intro v474 w43 ho44 hb hg_ hnew_; clear hg_ hnew_; (first | rw [← Ny473.out] at ho44 | (simp only [Int.reduceToNat] at ho44; rw [← Ny473.out] at ho44)); have n0_ := Aside0.mk (Kd.R_elder' (by (with_reducible repeat (first | apply Kd.R_alloc | apply Kd.R_drewN | apply Kd.R_drew)); exact (Kd.R_mono (Kd.R_far (p := ⟨gb472, 8, none⟩) (Kd.R_far (p := ⟨gb472, 7, none⟩) (Kd.R_far (p := ⟨gb472, 6, none⟩) (Kd.R_far (p := ⟨gb472, 5, none⟩) (Kd.R_far (p := ⟨gb472, 4, none⟩) (Kd.R_far (p := ⟨gb472, 3, none⟩) (Kd.R_far (p := ⟨gb472, 2, none⟩) (Kd.R_far (p := ⟨gb472, 1, none⟩) (Kd.R_far (p := ⟨gb472, 0, none⟩) (Kd.R_types HO_5.out BK472.out (by decide)) (fun _ hk => hk.2) (.int .i64 ((rd_T54 l0 x23_1).f0))) (fun _ hk => hk.2) (.string ((rd_T54 l0 x23_1).f1))) (fun _ hk => hk.2) (.int .i64 ((rd_T54 l0 x23_1).f2))) (fun _ hk => hk.2) (.int .i64 ((rd_T54 l0 x23_1).f3.f0))) (fun _ hk => hk.2) (.int .i64 ((rd_T54 l0 x23_1).f3.f1))) (fun _ hk => hk.2) (.string ((rd_T54 l0 x23_1).f3.f2))) (fun _ hk => hk.2) (.bool ((rd_T54 l0 x23_1).f3.f3))) (fun _ hk => hk.2) (.complex .f64 ((rd_T54 l0 x23_1).f3.f4).re ((rd_T54 l0 x23_1).f3.f4).im)) (fun _ hk => hk.2) (.int .i64 ((rd_T54 l0 x23_1).f4))) (fun _ h_ => h_.1))) (Kd.R_base ho44) hb); have n1_ := Aside0.mk (Kd.R_lower (Kd.R_new' ho44 (Kd.R_lt (by (with_reducible repeat (first | apply Kd.R_alloc | apply Kd.R_drewN | apply Kd.R_drew)); exact (Kd.R_mono (Kd.R_far (p := ⟨gb472, 8, none⟩) (Kd.R_far (p := ⟨gb472, 7, none⟩) (Kd.R_far (p := ⟨gb472, 6, none⟩) (Kd.R_far (p := ⟨gb472, 5, none⟩) (Kd.R_far (p := ⟨gb472, 4, none⟩) (Kd.R_far (p := ⟨gb472, 3, none⟩) (Kd.R_far (p := ⟨gb472, 2, none⟩) (Kd.R_far (p := ⟨gb472, 1, none⟩) (Kd.R_far (p := ⟨gb472, 0, none⟩) (Kd.R_types HO_5.out BK472.out (by decide)) (fun _ hk => hk.2) (.int .i64 ((rd_T54 l0 x23_1).f0))) (fun _ hk => hk.2) (.string ((rd_T54 l0 x23_1).f1))) (fun _ hk => hk.2) (.int .i64 ((rd_T54 l0 x23_1).f2))) (fun _ hk => hk.2) (.int .i64 ((rd_T54 l0 x23_1).f3.f0))) (fun _ hk => hk.2) (.int .i64 ((rd_T54 l0 x23_1).f3.f1))) (fun _ hk => hk.2) (.string ((rd_T54 l0 x23_1).f3.f2))) (fun _ hk => hk.2) (.bool ((rd_T54 l0 x23_1).f3.f3))) (fun _ hk => hk.2) (.complex .f64 ((rd_T54 l0 x23_1).f3.f4).re ((rd_T54 l0 x23_1).f3.f4).im)) (fun _ hk => hk.2) (.int .i64 ((rd_T54 l0 x23_1).f4))) (fun _ h_ => h_.1))))) (below_size (Bl))); have n2_ := Aside0.mk (blk_below (g := gb472) (o := .cells #[.int .i64 ((rd_T54 l0 x23_1).f0), .string ((rd_T54 l0 x23_1).f1), .int .i64 ((rd_T54 l0 x23_1).f2), .int .i64 ((rd_T54 l0 x23_1).f3.f0), .int .i64 ((rd_T54 l0 x23_1).f3.f1), .string ((rd_T54 l0 x23_1).f3.f2), .bool ((rd_T54 l0 x23_1).f3.f3), .complex .f64 ((rd_T54 l0 x23_1).f3.f4).re ((rd_T54 l0 x23_1).f3.f4).im, .int .i64 ((rd_T54 l0 x23_1).f4)] 54 (0, 0)) (by (with_reducible repeat (first | refine blk_drewN ?_ _ | refine blk_drew ?_ | refine blk_alloc ?_ _)); refine blk_put (cs := #[.int .i64 ((rd_T54 l0 x23_1).f0), .string ((rd_T54 l0 x23_1).f1), .int .i64 ((rd_T54 l0 x23_1).f2), .int .i64 ((rd_T54 l0 x23_1).f3.f0), .int .i64 ((rd_T54 l0 x23_1).f3.f1), .string ((rd_T54 l0 x23_1).f3.f2), .bool ((rd_T54 l0 x23_1).f3.f3), .complex .f64 ((rd_T54 l0 x23_1).f3.f4).re ((rd_T54 l0 x23_1).f3.f4).im, .int .i64 0]) ?_ 8 _ rfl; (with_reducible repeat (first | refine blk_drewN ?_ _ | refine blk_drew ?_ | refine blk_alloc ?_ _)); refine blk_put (cs := #[.int .i64 ((rd_T54 l0 x23_1).f0), .string ((rd_T54 l0 x23_1).f1), .int .i64 ((rd_T54 l0 x23_1).f2), .int .i64 ((rd_T54 l0 x23_1).f3.f0), .int .i64 ((rd_T54 l0 x23_1).f3.f1), .string ((rd_T54 l0 x23_1).f3.f2), .bool ((rd_T54 l0 x23_1).f3.f3), .complex .f64 0 0, .int .i64 0]) ?_ 7 _ rfl; (with_reducible repeat (first | refine blk_drewN ?_ _ | refine blk_drew ?_ | refine blk_alloc ?_ _)); refine blk_put (cs := #[.int .i64 ((rd_T54 l0 x23_1).f0), .string ((rd_T54 l0 x23_1).f1), .int .i64 ((rd_T54 l0 x23_1).f2), .int .i64 ((rd_T54 l0 x23_1).f3.f0), .int .i64 ((rd_T54 l0 x23_1).f3.f1), .string ((rd_T54 l0 x23_1).f3.f2), .bool false, .complex .f64 0 0, .int .i64 0]) ?_ 6 _ rfl; (with_reducible repeat (first | refine blk_drewN ?_ _ | refine blk_drew ?_ | refine blk_alloc ?_ _)); refine blk_put (cs := #[.int .i64 ((rd_T54 l0 x23_1).f0), .string ((rd_T54 l0 x23_1).f1), .int .i64 ((rd_T54 l0 x23_1).f2), .int .i64 ((rd_T54 l0 x23_1).f3.f0), .int .i64 ((rd_T54 l0 x23_1).f3.f1), .string (⟨#[]⟩ : ByteArray), .bool false, .complex .f64 0 0, .int .i64 0]) ?_ 5 _ rfl; (with_reducible repeat (first | refine blk_drewN ?_ _ | refine blk_drew ?_ | refine blk_alloc ?_ _)); refine blk_put (cs := #[.int .i64 ((rd_T54 l0 x23_1).f0), .string ((rd_T54 l0 x23_1).f1), .int .i64 ((rd_T54 l0 x23_1).f2), .int .i64 ((rd_T54 l0 x23_1).f3.f0), .int .i64 0, .string (⟨#[]⟩ : ByteArray), .bool false, .complex .f64 0 0, .int .i64 0]) ?_ 4 _ rfl; (with_reducible repeat (first | refine blk_drewN ?_ _ | refine blk_drew ?_ | refine blk_alloc ?_ _)); refine blk_put (cs := #[.int .i64 ((rd_T54 l0 x23_1).f0), .string ((rd_T54 l0 x23_1).f1), .int .i64 ((rd_T54 l0 x23_1).f2), .int .i64 0, .int .i64 0, .string (⟨#[]⟩ : ByteArray), .bool false, .complex .f64 0 0, .int .i64 0]) ?_ 3 _ rfl; (with_reducible repeat (first | refine blk_drewN ?_ _ | refine blk_drew ?_ | refine blk_alloc ?_ _)); refine blk_put (cs := #[.int .i64 ((rd_T54 l0 x23_1).f0), .string ((rd_T54 l0 x23_1).f1), .int .i64 0, .int .i64 0, .int .i64 0, .string (⟨#[]⟩ : ByteArray), .bool false, .complex .f64 0 0, .int .i64 0]) ?_ 2 _ rfl; (with_reducible repeat (first | refine blk_drewN ?_ _ | refine blk_drew ?_ | refine blk_alloc ?_ _)); refine blk_put (cs := #[.int .i64 ((rd_T54 l0 x23_1).f0), .string (⟨#[]⟩ : ByteArray), .int .i64 0, .int .i64 0, .int .i64 0, .string (⟨#[]⟩ : ByteArray), .bool false, .complex .f64 0 0, .int .i64 0]) ?_ 1 _ rfl; (with_reducible repeat (first | refine blk_drewN ?_ _ | refine blk_drew ?_ | refine blk_alloc ?_ _)); refine blk_put (cs := #[.int .i64 0, .string (⟨#[]⟩ : ByteArray), .int .i64 0, .int .i64 0, .int .i64 0, .string (⟨#[]⟩ : ByteArray), .bool false, .complex .f64 0 0, .int .i64 0]) ?_ 0 _ rfl; (with_reducible repeat (first | refine blk_drewN ?_ _ | refine blk_drew ?_ | refine blk_alloc ?_ _)); exact BK472.out) hb); have n3_ := Aside0.mk (below_step (Bl) hb); clear HO_5; clear BK472; clear HB; have HO_5 := n0_; have HO475 := n1_; have BK472 := n2_; have HB := n3_; clear n0_ n1_ n2_ n3_; clear hb ho44; obtain ⟨Ao46, co46, eo46⟩ := Kd.R_slice HO475.out; subst eo46) | ((with_reducible refine gate_builtin (b := .append) (xs := #[.tmp 27, .tmp 31]) rfl ?_); at_builtin; refine Kd.R_append_rows (Kd.int .u8) (w0 := w) w.heap.size rfl (.tmp 27) (.tmp 31) 33 5 (.int .u8 0) 1 rfl Try.underlying33 info5 rfl (by decide) (by omega) u5 x5_1 y473 _ _ _ (fun k_ => some k_ ≠ (.slice Ao46 y473.length co46 : Value).ownBlock) (fun _ => False) rfl rfl ?aO ?aR (fun _ _ h => h) (fun _ h => h.elim) ?aF ?aB ?aS ?aL ?_; (case aR => repeat (first | exact (Kd.R_reads' HO475.out).2.2 | (with_reducible refine Kd.C_alloc ?_ _) | (with_reducible refine Kd.C_drewN ?_ _) | (with_reducible refine Kd.C_drew ?_))); (case aB => exact (Bl)); (case aF => exact (fun k_ hk => Kd.fresh' (Kd.R_lt (Rw HO475.out)) k_ hk)); (case aO => exact (by (with_reducible repeat (first | apply Kd.R_alloc | apply Kd.R_drewN | apply Kd.R_drew)); exact Kd.R_mono HO_5.out (fun _ hk => hk.2))); (case aS => exact (below_size (Bl))); (case aL => have := LMc10.out; omega); intro v477 w45 ho hb hg hat; rw [← Ny476.out] at ho; have n0_ := Aside0.mk (blk_grown (g := gb472) (o := .cells #[.int .i64 ((rd_T54 l0 x23_1).f0), .string ((rd_T54 l0 x23_1).f1), .int .i64 ((rd_T54 l0 x23_1).f2), .int .i64 ((rd_T54 l0 x23_1).f3.f0), .int .i64 ((rd_T54 l0 x23_1).f3.f1), .string ((rd_T54 l0 x23_1).f3.f2), .bool ((rd_T54 l0 x23_1).f3.f3), .complex .f64 ((rd_T54 l0 x23_1).f3.f4).re ((rd_T54 l0 x23_1).f3.f4).im, .int .i64 ((rd_T54 l0 x23_1).f4)] 54 (0, 0)) (Bk BK472.out) hg (Kd.R_ne HO_5.out BK472.out (by decide))); have n1_ := Aside0.mk (Kd.R_after (ok := (fun _ => True)) (Rw HO475.out) hg hat); have n2_ := Aside0.mk (hb); have n3_ := Aside0.mk (ho); clear BK472; clear HO475; clear HB; clear HO_5; have BK472 := n0_; have HO475 := n1_; have HB := n2_; have HO478 := n3_; clear n0_ n1_ n2_ n3_; clear ho hb hg hat; obtain ⟨_, _, _, _, _, _, _, _, _⟩ := cz9 BK472.out; obtain ⟨_, _, _, _, _, _, _, _, _⟩ := fz9 BK472.out) | ((with_reducible refine gate_callee (f := 30) rfl ?_); refine goesL_ (some 39) rfl rfl Try.func30 (by kernel_rfl) rfl #[.string ((rd_T54 l0 x23_1).f1)] rfl (Mp) ?_; (with_reducible refine (octet_Text.calls k1 ((rd_T54 l0 x23_1).f1) t479 t480 _ A12.out).mono ?_); rintro e w48 ⟨v481, rfl, ho0, hb⟩; refine ⟨_, rfl, ?_⟩; have n0_ := Aside0.mk (Kd.R_elder' (Rw HO475.out) (Kd.R_base ho0) hb); have n1_ := Aside0.mk (Kd.R_elder' (Rw HO478.out) (Kd.R_base ho0) hb); have n2_ := Aside0.mk (Kd.R_lower (Kd.R_new' (Kd.R_new' ho0 (Kd.R_lt (Rw HO475.out))) (Kd.R_lt (Rw HO478.out))) (below_size (Bl))); have n3_ := Aside0.mk (blk_below (g := gb472) (o := .cells #[.int .i64 ((rd_T54 l0 x23_1).f0), .string ((rd_T54 l0 x23_1).f1), .int .i64 ((rd_T54 l0 x23_1).f2), .int .i64 ((rd_T54 l0 x23_1).f3.f0), .int .i64 ((rd_T54 l0 x23_1).f3.f1), .string ((rd_T54 l0 x23_1).f3.f2), .bool ((rd_T54 l0 x23_1).f3.f3), .complex .f64 ((rd_T54 l0 x23_1).f3.f4).re ((rd_T54 l0 x23_1).f3.f4).im, .int .i64 ((rd_T54 l0 x23_1).f4)] 54 (0, 0)) (Bk BK472.out) hb); have n4_ := Aside0.mk (below_step (Bl) hb); clear HO475; clear HO478; clear BK472; clear HB; have HO475 := n0_; have HO478 := n1_; have HO482 := n2_; have BK472 := n3_; have HB := n4_; clear n0_ n1_ n2_ n3_ n4_; (try clear hb); (try clear hb2); (try clear hk); (try clear hi); (try clear ho0); obtain ⟨Ao49, co49, eo49⟩ := Kd.R_slice HO478.out; subst eo49; obtain ⟨Ao50, co50, eo50⟩ := Kd.R_slice HO482.out; subst eo50))
             have n0_ := Aside0.mk (Kd.R_drew HO475.out)
             have n1_ := Aside0.mk (Kd.R_drew HO478.out)
             have n2_ := Aside0.mk (Kd.R_drew HO482.out)
             have n3_ := Aside0.mk (blk_drew BK472.out)
             have n4_ := Aside0.mk (below_drew1 HB.out)
             clear HO475
             clear HO478
             clear HO482
             clear BK472
             clear HB
             have HO475 := n0_
             have HO478 := n1_
             have HO482 := n2_
             have BK472 := n3_
             have HB := n4_
             clear n0_ n1_ n2_ n3_ n4_
             refine start_ (n := 9) (S := fun w' => w'.cell? ⟨gb472, 0, none⟩ = some (.int .i64 ((rd_T54 l0 x23_1).f0)) ∧ w'.cell? ⟨gb472, 1, none⟩ = some (.string ((rd_T54 l0 x23_1).f1)) ∧ w'.cell? ⟨gb472, 2, none⟩ = some (.int .i64 ((rd_T54 l0 x23_1).f2)) ∧ w'.cell? ⟨gb472, 3, none⟩ = some (.int .i64 ((rd_T54 l0 x23_1).f3.f0)) ∧ w'.cell? ⟨gb472, 4, none⟩ = some (.int .i64 ((rd_T54 l0 x23_1).f3.f1)) ∧ w'.cell? ⟨gb472, 5, none⟩ = some (.string ((rd_T54 l0 x23_1).f3.f2)) ∧ w'.cell? ⟨gb472, 6, none⟩ = some (.bool ((rd_T54 l0 x23_1).f3.f3)) ∧ w'.cell? ⟨gb472, 7, none⟩ = some (.complex .f64 ((rd_T54 l0 x23_1).f3.f4).re ((rd_T54 l0 x23_1).f3.f4).im) ∧ w'.cell? ⟨gb472, 8, none⟩ = some (.int .i64 ((rd_T54 l0 x23_1).f4))) (ds := []) #[false, false, false, false, false, false, false, false, false] (by kernel_rfl) rfl rfl ⟨(blk_cell BK472.out 0).trans rfl, (blk_cell BK472.out 1).trans rfl, (blk_cell BK472.out 2).trans rfl, (blk_cell BK472.out 3).trans rfl, (blk_cell BK472.out 4).trans rfl, (blk_cell BK472.out 5).trans rfl, (blk_cell BK472.out 6).trans rfl, (blk_cell BK472.out 7).trans rfl, (blk_cell BK472.out 8).trans rfl⟩ (fun hHeld => ?_); refine with_tabW pred_Put.tab11 pred_Put.bits11 (fun HT_ HW_ => ?_)
             generalize w48.drew = w51 at HO475 HO478 HO482 BK472 HB hHeld ⊢
             refine pure_ (i := 0) (N := some 42) (v := ?_) (a' := ?_) #[true, false, false, false, false, false, false, false, false] rfl rfl (any_of HT_.out (by kernel_rfl)) (fun _ _ _ h => h) (Or.inl ⟨by rfl, ?_⟩) ?_ ?_
             rotate_left
             ·intro w'
              go_simp
              with_reducible rfl
             rotate_left
             ·simp only [Act.put, List.setIfInBounds_toArray, List.set_cons_zero, List.set_cons_succ, i64_w, i32_w]
              rfl
             refine pure_ (i := 1) (N := some 43) (v := ?_) (a' := ?_) #[true, true, false, false, false, false, false, false, false] rfl rfl (any_of HT_.out (by kernel_rfl)) (fun _ _ _ h => h) (Or.inl ⟨by rfl, ?_⟩) ?_ ?_
             rotate_left
             ·intro w'
              go_simp
              with_reducible rfl
             rotate_left
             ·simp only [Act.put, List.setIfInBounds_toArray, List.set_cons_zero, List.set_cons_succ, i64_w, i32_w]
              rfl
             refine pure_ (i := 3) (N := some 45) (v := ?_) (a' := ?_) #[true, true, false, true, false, false, false, false, false] rfl rfl (any_of HT_.out (by kernel_rfl)) (fun _ _ _ h => h) (Or.inl ⟨by rfl, ?_⟩) ?_ ?_
             rotate_left
             ·intro w'
              go_simp
              with_reducible rfl
             rotate_left
             ·simp only [Act.put, List.setIfInBounds_toArray, List.set_cons_zero, List.set_cons_succ, i64_w, i32_w]
              rfl
             refine take_ (i := 4) (N := some 46) (v := ?_) (a' := ?_) #[true, true, false, true, true, false, false, false, false] rfl rfl (take_ofW HT_.out HW_.out (by kernel_rfl)) (fun _ _ _ h => h) (Or.inl ⟨by rfl, ?_⟩) hHeld ?_ ?_
             rotate_left
             ·rintro w' ⟨s0, s1, s2, s3, s4, s5, s6, s7, s8⟩
              go_simp
              with_reducible rfl
             rotate_left
             ·simp only [Act.put, List.setIfInBounds_toArray, List.set_cons_zero, List.set_cons_succ, i64_w, i32_w]
              rfl
             refine pure_ (i := 5) (N := some 47) (v := ?_) (a' := ?_) #[true, true, false, true, true, true, false, false, false] rfl rfl (any_of HT_.out (by kernel_rfl)) (fun _ _ _ h => h) (Or.inl ⟨by rfl, ?_⟩) ?_ ?_
             rotate_left
             ·intro w'
              go_simp
              with_reducible rfl
             rotate_left
             ·simp only [Act.put, List.setIfInBounds_toArray, List.set_cons_zero, List.set_cons_succ, i64_w, i32_w]
              rfl
             refine join_ (σ := Value × Value) 2 #[true, true, true, true, true, true, true, false, false] (fun s_ => [(44, s_.1), (48, s_.2)]) (fun s_ w' => (w'.cell? ⟨gb472, 0, none⟩ = some (.int .i64 ((rd_T54 l0 x23_1).f0)) ∧ w'.cell? ⟨gb472, 1, none⟩ = some (.string ((rd_T54 l0 x23_1).f1)) ∧ w'.cell? ⟨gb472, 2, none⟩ = some (.int .i64 ((rd_T54 l0 x23_1).f2)) ∧ w'.cell? ⟨gb472, 3, none⟩ = some (.int .i64 ((rd_T54 l0 x23_1).f3.f0)) ∧ w'.cell? ⟨gb472, 4, none⟩ = some (.int .i64 ((rd_T54 l0 x23_1).f3.f1)) ∧ w'.cell? ⟨gb472, 5, none⟩ = some (.string ((rd_T54 l0 x23_1).f3.f2)) ∧ w'.cell? ⟨gb472, 6, none⟩ = some (.bool ((rd_T54 l0 x23_1).f3.f3)) ∧ w'.cell? ⟨gb472, 7, none⟩ = some (.complex .f64 ((rd_T54 l0 x23_1).f3.f4).re ((rd_T54 l0 x23_1).f3.f4).im) ∧ w'.cell? ⟨gb472, 8, none⟩ = some (.int .i64 ((rd_T54 l0 x23_1).f4))) ∧ (Kd.R (Kd.int .u8) 5 w' w.heap.size (fun k_ => some k_ ≠ (.slice Ao50 t479.length co50 : Value).ownBlock ∧ some k_ ≠ (s_.1 : Value).ownBlock ∧ some k_ ≠ (s_.2 : Value).ownBlock) (.slice Ao46 y473.length co46) y473) ∧ (Kd.R (Kd.int .u8) 5 w' w.heap.size (fun k_ => some k_ ≠ (.slice Ao46 y473.length co46 : Value).ownBlock ∧ some k_ ≠ (s_.1 : Value).ownBlock ∧ some k_ ≠ (s_.2 : Value).ownBlock) (.slice Ao50 t479.length co50) t479) ∧ (Kd.R (Kd.int .u8) 5 w' w.heap.size (fun k_ => some k_ ≠ (.slice Ao46 y473.length co46 : Value).ownBlock ∧ some k_ ≠ (.slice Ao50 t479.length co50 : Value).ownBlock ∧ some k_ ≠ (s_.2 : Value).ownBlock) s_.1 y483) ∧ (Kd.R (Kd.int .u8) 5 w' w.heap.size (fun k_ => some k_ ≠ (.slice Ao46 y473.length co46 : Value).ownBlock ∧ some k_ ≠ (.slice Ao50 t479.length co50 : Value).ownBlock ∧ some k_ ≠ (s_.1 : Value).ownBlock) s_.2 y486) ∧ (w'.heap[gb472]? = some (.cells #[.int .i64 ((rd_T54 l0 x23_1).f0), .string ((rd_T54 l0 x23_1).f1), .int .i64 ((rd_T54 l0 x23_1).f2), .int .i64 ((rd_T54 l0 x23_1).f3.f0), .int .i64 ((rd_T54 l0 x23_1).f3.f1), .string ((rd_T54 l0 x23_1).f3.f2), .bool ((rd_T54 l0 x23_1).f3.f3), .complex .f64 ((rd_T54 l0 x23_1).f3.f4).re ((rd_T54 l0 x23_1).f3.f4).im, .int .i64 ((rd_T54 l0 x23_1).f4)] 54 (0, 0))) ∧ (Below w.heap.size w w')) ?_ ?_
             rotate_left
             ·intro hCont
              refine two_ (i := 2) (j := 6) (Ni := some 44) (Nj := some 48) #[true, true, true, true, true, true, false, false, false] #[true, true, false, true, true, true, true, false, false] rfl rfl rfl rfl (two_of HT_.out (by kernel_rfl)) (by decide) (by decide) (fun K hK => ?_) (fun K hK => ?_)
              ·skip
               refine Kd.R_append_rows_step (Kd.int .u8) (w0 := w) w.heap.size (by rfl) (.tmp 42) (.tmp 43) 33 5 (.int .u8 0) 1 rfl Try.underlying33 info5 rfl (by decide) (by omega) (.slice Ao49 y476.length co49) y476 t479 _ _ _ (fun k_ => some k_ ≠ (.slice Ao46 y473.length co46 : Value).ownBlock ∧ some k_ ≠ (.slice Ao50 t479.length co50 : Value).ownBlock) (fun _ => False) rfl rfl ?aO ?aR (fun _ _ h => h) (fun _ h => h.elim) ?aF ?aB ?aS ?aL ?_
               (case aR => repeat (first | exact (Kd.R_reads' HO482.out).2.2 | (with_reducible refine Kd.C_alloc ?_ _) | (with_reducible refine Kd.C_drewN ?_ _) | (with_reducible refine Kd.C_drew ?_)))
               (case aB => exact (Bl))
               (case aF => exact (fun k_ hk => ⟨Kd.fresh' (Kd.R_lt (Rw HO475.out)) k_ hk, Kd.fresh' (Kd.R_lt (Rw HO482.out)) k_ hk⟩))
               (case aO => exact (Rw HO478.out))
               (case aS => exact (below_size (Bl)))
               (case aL => have := LMc13.out; omega)
               intro v484 w52 ho hb hg hat
               rw [← Ny483.out] at ho
               have n0_ := Aside0.mk (blk_grown (g := gb472) (o := .cells #[.int .i64 ((rd_T54 l0 x23_1).f0), .string ((rd_T54 l0 x23_1).f1), .int .i64 ((rd_T54 l0 x23_1).f2), .int .i64 ((rd_T54 l0 x23_1).f3.f0), .int .i64 ((rd_T54 l0 x23_1).f3.f1), .string ((rd_T54 l0 x23_1).f3.f2), .bool ((rd_T54 l0 x23_1).f3.f3), .complex .f64 ((rd_T54 l0 x23_1).f3.f4).re ((rd_T54 l0 x23_1).f3.f4).im, .int .i64 ((rd_T54 l0 x23_1).f4)] 54 (0, 0)) (Bk BK472.out) hg (Kd.R_ne HO478.out BK472.out (by decide)))
               have n1_ := Aside0.mk (Kd.R_after (ok := (fun k_ => some k_ ≠ (.slice Ao50 t479.length co50 : Value).ownBlock)) (by (with_reducible repeat (first | apply Kd.R_alloc | apply Kd.R_drewN | apply Kd.R_drew)); exact Kd.R_mono HO475.out (fun _ hk => ⟨hk.2, hk.1.2⟩)) hg hat)
               have n2_ := Aside0.mk (Kd.R_after (ok := (fun k_ => some k_ ≠ (.slice Ao46 y473.length co46 : Value).ownBlock)) (by (with_reducible repeat (first | apply Kd.R_alloc | apply Kd.R_drewN | apply Kd.R_drew)); exact Kd.R_mono HO482.out (fun _ hk => ⟨hk.1.2, hk.2⟩)) hg hat)
               have n3_ := Aside0.mk (hb)
               have n4_ := Aside0.mk (ho)
               clear BK472
               clear HO475
               clear HO482
               clear HB
               clear HO478
               have BK472 := n0_
               have HO475 := n1_
               have HO482 := n2_
               have HB := n3_
               have HO485 := n4_
               clear n0_ n1_ n2_ n3_ n4_
               clear ho hb hg hat
               refine hK.out _ _ ⟨(blk_cell BK472.out 0).trans rfl, (blk_cell BK472.out 1).trans rfl, (blk_cell BK472.out 2).trans rfl, (blk_cell BK472.out 3).trans rfl, (blk_cell BK472.out 4).trans rfl, (blk_cell BK472.out 5).trans rfl, (blk_cell BK472.out 6).trans rfl, (blk_cell BK472.out 7).trans rfl, (blk_cell BK472.out 8).trans rfl⟩ (fun hHeld => ?_)
               clear hK K
               refine norm_ (a' := ?_) ?_ ?_
               rotate_left
               ·show Act.put _ (some 44) _ = _
                simp only [Act.put, List.setIfInBounds_toArray, List.set_cons_zero, List.set_cons_succ, i64_w, i32_w]
                rfl
               refine one_ (i := 6) (N := some 48) #[true, true, true, true, true, true, true, false, false] rfl rfl (one_of HT_.out (by kernel_rfl)) (by decide) (fun K hK => ?_)
               refine Kd.R_lit_step (Kd.int .u8) _ 5 ?hg (N := 48) ?hd (xs := ([((rd_T54 l0 x23_1).f2) % 256] : List Int)) (inner := [.int .u8 (((rd_T54 l0 x23_1).f2) % 256)]) (ok := fun _ => True) (okp := fun _ => True) ?hr ?hp (fun _ hk => hk) trivial (Below.refl _ _) (Nat.le_refl _) (by simp) ?_; (case hd => rfl); (case hg => rfl); (case hr => first | (go_simp; done) | (go_simp; rfl)); (case hp => exact (Reps.one (show Kd.M (Kd.int .u8) _ _ _ (((rd_T54 l0 x23_1).f2) % 256) [.int .u8 (((rd_T54 l0 x23_1).f2) % 256)] from rfl) (Reps.none _ _)))
               intro v487 w53 ho54 hb hg_ hnew_
               clear hg_ hnew_
               (first | rw [← Ny486.out] at ho54 | (simp only [Int.reduceToNat] at ho54; rw [← Ny486.out] at ho54))
               have n0_ := Aside0.mk (Kd.R_elder' (Rw HO475.out) (Kd.R_base ho54) hb)
               have n1_ := Aside0.mk (Kd.R_elder' (Rw HO482.out) (Kd.R_base ho54) hb)
               have n2_ := Aside0.mk (Kd.R_elder' (Rw HO485.out) (Kd.R_base ho54) hb)
               have n3_ := Aside0.mk (Kd.R_lower (Kd.R_new' (Kd.R_new' (Kd.R_new' ho54 (Kd.R_lt (Rw HO475.out))) (Kd.R_lt (Rw HO482.out))) (Kd.R_lt (Rw HO485.out))) (below_size (Bl)))
               have n4_ := Aside0.mk (blk_below (g := gb472) (o := .cells #[.int .i64 ((rd_T54 l0 x23_1).f0), .string ((rd_T54 l0 x23_1).f1), .int .i64 ((rd_T54 l0 x23_1).f2), .int .i64 ((rd_T54 l0 x23_1).f3.f0), .int .i64 ((rd_T54 l0 x23_1).f3.f1), .string ((rd_T54 l0 x23_1).f3.f2), .bool ((rd_T54 l0 x23_1).f3.f3), .complex .f64 ((rd_T54 l0 x23_1).f3.f4).re ((rd_T54 l0 x23_1).f3.f4).im, .int .i64 ((rd_T54 l0 x23_1).f4)] 54 (0, 0)) (Bk BK472.out) hb)
               have n5_ := Aside0.mk (below_step (Bl) hb)
               clear HO475
               clear HO482
               clear HO485
               clear BK472
               clear HB
               have HO475 := n0_
               have HO482 := n1_
               have HO485 := n2_
               have HO488 := n3_
               have BK472 := n4_
               have HB := n5_
               clear n0_ n1_ n2_ n3_ n4_ n5_
               clear hb ho54
               refine hK.out _ _ ⟨(blk_cell BK472.out 0).trans rfl, (blk_cell BK472.out 1).trans rfl, (blk_cell BK472.out 2).trans rfl, (blk_cell BK472.out 3).trans rfl, (blk_cell BK472.out 4).trans rfl, (blk_cell BK472.out 5).trans rfl, (blk_cell BK472.out 6).trans rfl, (blk_cell BK472.out 7).trans rfl, (blk_cell BK472.out 8).trans rfl⟩ (fun hHeld => ?_)
               clear hK K
               refine norm_ (a' := ?_) ?_ ?_
               rotate_left
               ·show Act.put _ (some 48) _ = _
                simp only [Act.put, List.setIfInBounds_toArray, List.set_cons_zero, List.set_cons_succ, i64_w, i32_w]
                rfl
               exact norm_ (by simp only [putAll, Act.put, List.setIfInBounds_toArray, List.set_cons_zero, List.set_cons_succ]) (hCont (v484, v487) _ ⟨hHeld, (by (with_reducible repeat (first | apply Kd.R_alloc | apply Kd.R_drewN | apply Kd.R_drew)); exact Kd.R_mono HO475.out (fun _ hk => ⟨hk.1.1, ⟨hk.1.2, hk.2⟩⟩)), (by (with_reducible repeat (first | apply Kd.R_alloc | apply Kd.R_drewN | apply Kd.R_drew)); exact Kd.R_mono HO482.out (fun _ hk => ⟨hk.1.1, ⟨hk.1.2, hk.2⟩⟩)), (by (with_reducible repeat (first | apply Kd.R_alloc | apply Kd.R_drewN | apply Kd.R_drew)); exact Kd.R_mono HO485.out (fun _ hk => ⟨hk.1.1, ⟨hk.1.2, hk.2⟩⟩)), (by (with_reducible repeat (first | apply Kd.R_alloc | apply Kd.R_drewN | apply Kd.R_drew)); exact Kd.R_mono HO488.out (fun _ hk => ⟨hk.1.1.2, ⟨hk.1.2, hk.2⟩⟩)), (Bk BK472.out), (Bl)⟩)
              ·skip
               refine Kd.R_lit_step (Kd.int .u8) _ 5 ?hg (N := 48) ?hd (xs := ([((rd_T54 l0 x23_1).f2) % 256] : List Int)) (inner := [.int .u8 (((rd_T54 l0 x23_1).f2) % 256)]) (ok := fun _ => True) (okp := fun _ => True) ?hr ?hp (fun _ hk => hk) trivial (Below.refl _ _) (Nat.le_refl _) (by simp) ?_; (case hd => rfl); (case hg => rfl); (case hr => first | (go_simp; done) | (go_simp; rfl)); (case hp => exact (Reps.one (show Kd.M (Kd.int .u8) _ _ _ (((rd_T54 l0 x23_1).f2) % 256) [.int .u8 (((rd_T54 l0 x23_1).f2) % 256)] from rfl) (Reps.none _ _)))
               intro v487 w52 ho53 hb hg_ hnew_
               clear hg_ hnew_
               (first | rw [← Ny486.out] at ho53 | (simp only [Int.reduceToNat] at ho53; rw [← Ny486.out] at ho53))
               have n0_ := Aside0.mk (Kd.R_elder' (Rw HO475.out) (Kd.R_base ho53) hb)
               have n1_ := Aside0.mk (Kd.R_elder' (Rw HO478.out) (Kd.R_base ho53) hb)
               have n2_ := Aside0.mk (Kd.R_elder' (Rw HO482.out) (Kd.R_base ho53) hb)
               have n3_ := Aside0.mk (Kd.R_lower (Kd.R_new' (Kd.R_new' (Kd.R_new' ho53 (Kd.R_lt (Rw HO475.out))) (Kd.R_lt (Rw HO478.out))) (Kd.R_lt (Rw HO482.out))) (below_size (Bl)))
               have n4_ := Aside0.mk (blk_below (g := gb472) (o := .cells #[.int .i64 ((rd_T54 l0 x23_1).f0), .string ((rd_T54 l0 x23_1).f1), .int .i64 ((rd_T54 l0 x23_1).f2), .int .i64 ((rd_T54 l0 x23_1).f3.f0), .int .i64 ((rd_T54 l0 x23_1).f3.f1), .string ((rd_T54 l0 x23_1).f3.f2), .bool ((rd_T54 l0 x23_1).f3.f3), .complex .f64 ((rd_T54 l0 x23_1).f3.f4).re ((rd_T54 l0 x23_1).f3.f4).im, .int .i64 ((rd_T54 l0 x23_1).f4)] 54 (0, 0)) (Bk BK472.out) hb)
               have n5_ := Aside0.mk (below_step (Bl) hb)
               clear HO475
               clear HO478
               clear HO482
               clear BK472
               clear HB
               have HO475 := n0_
               have HO478 := n1_
               have HO482 := n2_
               have HO488 := n3_
               have BK472 := n4_
               have HB := n5_
               clear n0_ n1_ n2_ n3_ n4_ n5_
               clear hb ho53
               refine hK.out _ _ ⟨(blk_cell BK472.out 0).trans rfl, (blk_cell BK472.out 1).trans rfl, (blk_cell BK472.out 2).trans rfl, (blk_cell BK472.out 3).trans rfl, (blk_cell BK472.out 4).trans rfl, (blk_cell BK472.out 5).trans rfl, (blk_cell BK472.out 6).trans rfl, (blk_cell BK472.out 7).trans rfl, (blk_cell BK472.out 8).trans rfl⟩ (fun hHeld => ?_)
               clear hK K
               refine norm_ (a' := ?_) ?_ ?_
               rotate_left
               ·show Act.put _ (some 48) _ = _
                simp only [Act.put, List.setIfInBounds_toArray, List.set_cons_zero, List.set_cons_succ, i64_w, i32_w]
                rfl
               refine one_ (i := 2) (N := some 44) #[true, true, true, true, true, true, true, false, false] rfl rfl (one_of HT_.out (by kernel_rfl)) (by decide) (fun K hK => ?_)
               refine Kd.R_append_rows_step (Kd.int .u8) (w0 := w) w.heap.size (by rfl) (.tmp 42) (.tmp 43) 33 5 (.int .u8 0) 1 rfl Try.underlying33 info5 rfl (by decide) (by omega) (.slice Ao49 y476.length co49) y476 t479 _ _ _ (fun k_ => some k_ ≠ (.slice Ao46 y473.length co46 : Value).ownBlock ∧ some k_ ≠ (.slice Ao50 t479.length co50 : Value).ownBlock ∧ some k_ ≠ (v487 : Value).ownBlock) (fun _ => False) rfl rfl ?aO ?aR (fun _ _ h => h) (fun _ h => h.elim) ?aF ?aB ?aS ?aL ?_
               (case aR => repeat (first | exact (Kd.R_reads' HO482.out).2.2 | (with_reducible refine Kd.C_alloc ?_ _) | (with_reducible refine Kd.C_drewN ?_ _) | (with_reducible refine Kd.C_drew ?_)))
               (case aB => exact (Bl))
               (case aF => exact (fun k_ hk => ⟨Kd.fresh' (Kd.R_lt (Rw HO475.out)) k_ hk, Kd.fresh' (Kd.R_lt (Rw HO482.out)) k_ hk, Kd.fresh' (Kd.R_lt (Rw HO488.out)) k_ hk⟩))
               (case aO => exact (by (with_reducible repeat (first | apply Kd.R_alloc | apply Kd.R_drewN | apply Kd.R_drew)); exact Kd.R_mono HO478.out (fun _ hk => ⟨hk.1.1, ⟨hk.1.2, hk.2⟩⟩)))
               (case aS => exact (below_size (Bl)))
               (case aL => have := LMc13.out; omega)
               intro v484 w54 ho hb hg hat
               rw [← Ny483.out] at ho
               have n0_ := Aside0.mk (blk_grown (g := gb472) (o := .cells #[.int .i64 ((rd_T54 l0 x23_1).f0), .string ((rd_T54 l0 x23_1).f1), .int .i64 ((rd_T54 l0 x23_1).f2), .int .i64 ((rd_T54 l0 x23_1).f3.f0), .int .i64 ((rd_T54 l0 x23_1).f3.f1), .string ((rd_T54 l0 x23_1).f3.f2), .bool ((rd_T54 l0 x23_1).f3.f3), .complex .f64 ((rd_T54 l0 x23_1).f3.f4).re ((rd_T54 l0 x23_1).f3.f4).im, .int .i64 ((rd_T54 l0 x23_1).f4)] 54 (0, 0)) (Bk BK472.out) hg (Kd.R_ne HO478.out BK472.out (by decide)))
               have n1_ := Aside0.mk (Kd.R_after (ok := (fun k_ => some k_ ≠ (.slice Ao50 t479.length co50 : Value).ownBlock ∧ some k_ ≠ (v487 : Value).ownBlock)) (by (with_reducible repeat (first | apply Kd.R_alloc | apply Kd.R_drewN | apply Kd.R_drew)); exact Kd.R_mono HO475.out (fun _ hk => ⟨⟨hk.1.2, hk.2⟩, hk.1.1.2⟩)) hg hat)
               have n2_ := Aside0.mk (Kd.R_after (ok := (fun k_ => some k_ ≠ (.slice Ao46 y473.length co46 : Value).ownBlock ∧ some k_ ≠ (v487 : Value).ownBlock)) (by (with_reducible repeat (first | apply Kd.R_alloc | apply Kd.R_drewN | apply Kd.R_drew)); exact Kd.R_mono HO482.out (fun _ hk => ⟨⟨hk.1.1.2, hk.2⟩, hk.1.2⟩)) hg hat)
               have n3_ := Aside0.mk (Kd.R_after (ok := (fun k_ => some k_ ≠ (.slice Ao46 y473.length co46 : Value).ownBlock ∧ some k_ ≠ (.slice Ao50 t479.length co50 : Value).ownBlock)) (by (with_reducible repeat (first | apply Kd.R_alloc | apply Kd.R_drewN | apply Kd.R_drew)); exact Kd.R_mono HO488.out (fun _ hk => ⟨⟨hk.1.1.2, hk.2⟩, hk.1.2⟩)) hg hat)
               have n4_ := Aside0.mk (hb)
               have n5_ := Aside0.mk (ho)
               clear BK472
               clear HO475
               clear HO482
               clear HO488
               clear HB
               clear HO478
               have BK472 := n0_
               have HO475 := n1_
               have HO482 := n2_
               have HO488 := n3_
               have HB := n4_
               have HO485 := n5_
               clear n0_ n1_ n2_ n3_ n4_ n5_
               clear ho hb hg hat
               refine hK.out _ _ ⟨(blk_cell BK472.out 0).trans rfl, (blk_cell BK472.out 1).trans rfl, (blk_cell BK472.out 2).trans rfl, (blk_cell BK472.out 3).trans rfl, (blk_cell BK472.out 4).trans rfl, (blk_cell BK472.out 5).trans rfl, (blk_cell BK472.out 6).trans rfl, (blk_cell BK472.out 7).trans rfl, (blk_cell BK472.out 8).trans rfl⟩ (fun hHeld => ?_)
               clear hK K
               refine norm_ (a' := ?_) ?_ ?_
               rotate_left
               ·show Act.put _ (some 44) _ = _
                simp only [Act.put, List.setIfInBounds_toArray, List.set_cons_zero, List.set_cons_succ, i64_w, i32_w]
                rfl
               exact norm_ (by simp only [putAll, Act.put, List.setIfInBounds_toArray, List.set_cons_zero, List.set_cons_succ]) (hCont (v484, v487) _ ⟨hHeld, (by (with_reducible repeat (first | apply Kd.R_alloc | apply Kd.R_drewN | apply Kd.R_drew)); exact Kd.R_mono HO475.out (fun _ hk => ⟨hk.1.1, ⟨hk.2, hk.1.2⟩⟩)), (by (with_reducible repeat (first | apply Kd.R_alloc | apply Kd.R_drewN | apply Kd.R_drew)); exact Kd.R_mono HO482.out (fun _ hk => ⟨hk.1.1, ⟨hk.2, hk.1.2⟩⟩)), (Rw HO485.out), (by (with_reducible repeat (first | apply Kd.R_alloc | apply Kd.R_drewN | apply Kd.R_drew)); exact Kd.R_mono HO488.out (fun _ hk => ⟨hk.1.1, ⟨hk.1.2, hk.2⟩⟩)), (Bk BK472.out), (Bl)⟩)
             rintro ⟨v484, v487⟩ w55 ⟨hS_, h0_, h1_, h2_, h3_, h4_, h5_⟩
             have n0_ : Aside0 (Kd.R (Kd.int .u8) 5 w55 w.heap.size (fun k_ => some k_ ≠ (.slice Ao50 t479.length co50 : Value).ownBlock ∧ some k_ ≠ (v484 : Value).ownBlock ∧ some k_ ≠ (v487 : Value).ownBlock) (.slice Ao46 y473.length co46) y473) := ⟨h0_⟩
             have n1_ : Aside0 (Kd.R (Kd.int .u8) 5 w55 w.heap.size (fun k_ => some k_ ≠ (.slice Ao46 y473.length co46 : Value).ownBlock ∧ some k_ ≠ (v484 : Value).ownBlock ∧ some k_ ≠ (v487 : Value).ownBlock) (.slice Ao50 t479.length co50) t479) := ⟨h1_⟩
             have n2_ : Aside0 (Kd.R (Kd.int .u8) 5 w55 w.heap.size (fun k_ => some k_ ≠ (.slice Ao46 y473.length co46 : Value).ownBlock ∧ some k_ ≠ (.slice Ao50 t479.length co50 : Value).ownBlock ∧ some k_ ≠ (v487 : Value).ownBlock) v484 y483) := ⟨h2_⟩
             have n3_ : Aside0 (Kd.R (Kd.int .u8) 5 w55 w.heap.size (fun k_ => some k_ ≠ (.slice Ao46 y473.length co46 : Value).ownBlock ∧ some k_ ≠ (.slice Ao50 t479.length co50 : Value).ownBlock ∧ some k_ ≠ (v484 : Value).ownBlock) v487 y486) := ⟨h3_⟩
             have n4_ : Aside0 (w55.heap[gb472]? = some (.cells #[.int .i64 ((rd_T54 l0 x23_1).f0), .string ((rd_T54 l0 x23_1).f1), .int .i64 ((rd_T54 l0 x23_1).f2), .int .i64 ((rd_T54 l0 x23_1).f3.f0), .int .i64 ((rd_T54 l0 x23_1).f3.f1), .string ((rd_T54 l0 x23_1).f3.f2), .bool ((rd_T54 l0 x23_1).f3.f3), .complex .f64 ((rd_T54 l0 x23_1).f3.f4).re ((rd_T54 l0 x23_1).f3.f4).im, .int .i64 ((rd_T54 l0 x23_1).f4)] 54 (0, 0))) := ⟨h4_⟩
             have n5_ : Aside0 (Below w.heap.size w w55) := ⟨h5_⟩
             clear HO475
             clear HO478
             clear HO482
             clear BK472
             clear HB
             clear h0_ h1_ h2_ h3_ h4_ h5_
             have HO475 := n0_
             have HO482 := n1_
             have HO485 := n2_
             have HO488 := n3_
             have BK472 := n4_
             have HB := n5_
             clear n0_ n1_ n2_ n3_ n4_ n5_
             have hHeld : w55.cell? ⟨gb472, 0, none⟩ = some (.int .i64 ((rd_T54 l0 x23_1).f0)) ∧ w55.cell? ⟨gb472, 1, none⟩ = some (.string ((rd_T54 l0 x23_1).f1)) ∧ w55.cell? ⟨gb472, 2, none⟩ = some (.int .i64 ((rd_T54 l0 x23_1).f2)) ∧ w55.cell? ⟨gb472, 3, none⟩ = some (.int .i64 ((rd_T54 l0 x23_1).f3.f0)) ∧ w55.cell? ⟨gb472, 4, none⟩ = some (.int .i64 ((rd_T54 l0 x23_1).f3.f1)) ∧ w55.cell? ⟨gb472, 5, none⟩ = some (.string ((rd_T54 l0 x23_1).f3.f2)) ∧ w55.cell? ⟨gb472, 6, none⟩ = some (.bool ((rd_T54 l0 x23_1).f3.f3)) ∧ w55.cell? ⟨gb472, 7, none⟩ = some (.complex .f64 ((rd_T54 l0 x23_1).f3.f4).re ((rd_T54 l0 x23_1).f3.f4).im) ∧ w55.cell? ⟨gb472, 8, none⟩ = some (.int .i64 ((rd_T54 l0 x23_1).f4)) := hS_
             obtain ⟨Ao57, co57, eo57⟩ := Kd.R_slice HO488.out
             (first | subst eo57 | (injection eo57 with f1_ f2_ f3_; have f4_ := f1_.symm; have f5_ := f3_.symm; clear f1_ f2_ f3_; subst f4_; subst f5_))
             refine norm_ (a' := ?_) ?_ ?_
             rotate_left
             ·simp only [putAll, Act.put, List.setIfInBounds_toArray, List.set_cons_zero, List.set_cons_succ]
              rfl
             refine one_ (i := 7) (N := some 49) #[true, true, true, true, true, true, true, true, false] rfl rfl (one_of HT_.out (by kernel_rfl)) (by decide) (fun K hK => ?_)
             refine Kd.R_append_rows_step (Kd.int .u8) (w0 := w) w.heap.size (by rfl) (.tmp 44) (.tmp 48) 33 5 (.int .u8 0) 1 rfl Try.underlying33 info5 rfl (by decide) (by omega) v484 y483 y486 _ _ _ (fun k_ => some k_ ≠ (.slice Ao46 y473.length co46 : Value).ownBlock ∧ some k_ ≠ (.slice Ao50 t479.length co50 : Value).ownBlock ∧ some k_ ≠ (.slice Ao57 y486.length co57 : Value).ownBlock) (fun _ => False) rfl rfl ?aO ?aR (fun _ _ h => h) (fun _ h => h.elim) ?aF ?aB ?aS ?aL ?_
             (case aR => repeat (first | exact (Kd.R_reads' HO488.out).2.2 | (with_reducible refine Kd.C_alloc ?_ _) | (with_reducible refine Kd.C_drewN ?_ _) | (with_reducible refine Kd.C_drew ?_)))
             (case aB => exact (Bl))
             (case aF => exact (fun k_ hk => ⟨Kd.fresh' (Kd.R_lt (Rw HO475.out)) k_ hk, Kd.fresh' (Kd.R_lt (Rw HO482.out)) k_ hk, Kd.fresh' (Kd.R_lt (Rw HO488.out)) k_ hk⟩))
             (case aO => exact (Rw HO485.out))
             (case aS => exact (below_size (Bl)))
             (case aL => have := LMc14.out; omega)
             intro v490 w56 ho hb hg hat
             rw [← Ny489.out] at ho
             have n0_ := Aside0.mk (blk_grown (g := gb472) (o := .cells #[.int .i64 ((rd_T54 l0 x23_1).f0), .string ((rd_T54 l0 x23_1).f1), .int .i64 ((rd_T54 l0 x23_1).f2), .int .i64 ((rd_T54 l0 x23_1).f3.f0), .int .i64 ((rd_T54 l0 x23_1).f3.f1), .string ((rd_T54 l0 x23_1).f3.f2), .bool ((rd_T54 l0 x23_1).f3.f3), .complex .f64 ((rd_T54 l0 x23_1).f3.f4).re ((rd_T54 l0 x23_1).f3.f4).im, .int .i64 ((rd_T54 l0 x23_1).f4)] 54 (0, 0)) (Bk BK472.out) hg (Kd.R_ne HO485.out BK472.out (by decide)))
             have n1_ := Aside0.mk (Kd.R_after (ok := (fun k_ => some k_ ≠ (.slice Ao50 t479.length co50 : Value).ownBlock ∧ some k_ ≠ (.slice Ao57 y486.length co57 : Value).ownBlock)) (by (with_reducible repeat (first | apply Kd.R_alloc | apply Kd.R_drewN | apply Kd.R_drew)); exact Kd.R_mono HO475.out (fun _ hk => ⟨⟨hk.1, hk.2.2⟩, hk.2.1⟩)) hg hat)
             have n2_ := Aside0.mk (Kd.R_after (ok := (fun k_ => some k_ ≠ (.slice Ao46 y473.length co46 : Value).ownBlock ∧ some k_ ≠ (.slice Ao57 y486.length co57 : Value).ownBlock)) (by (with_reducible repeat (first | apply Kd.R_alloc | apply Kd.R_drewN | apply Kd.R_drew)); exact Kd.R_mono HO482.out (fun _ hk => ⟨⟨hk.1, hk.2.2⟩, hk.2.1⟩)) hg hat)
             have n3_ := Aside0.mk (Kd.R_after (ok := (fun k_ => some k_ ≠ (.slice Ao46 y473.length co46 : Value).ownBlock ∧ some k_ ≠ (.slice Ao50 t479.length co50 : Value).ownBlock)) (by (with_reducible repeat (first | apply Kd.R_alloc | apply Kd.R_drewN | apply Kd.R_drew)); exact Kd.R_mono HO488.out (fun _ hk => ⟨⟨hk.1, hk.2.1⟩, hk.2.2⟩)) hg hat)
             have n4_ := Aside0.mk (hb)
             have n5_ := Aside0.mk (ho)
             clear BK472
             clear HO475
             clear HO482
             clear HO488
             clear HB
             clear HO485
             have BK472 := n0_
             have HO475 := n1_
             have HO482 := n2_
             have HO488 := n3_
             have HB := n4_
             have HO491 := n5_
             clear n0_ n1_ n2_ n3_ n4_ n5_
             clear ho hb hg hat
             refine hK.out _ _ ⟨(blk_cell BK472.out 0).trans rfl, (blk_cell BK472.out 1).trans rfl, (blk_cell BK472.out 2).trans rfl, (blk_cell BK472.out 3).trans rfl, (blk_cell BK472.out 4).trans rfl, (blk_cell BK472.out 5).trans rfl, (blk_cell BK472.out 6).trans rfl, (blk_cell BK472.out 7).trans rfl, (blk_cell BK472.out 8).trans rfl⟩ (fun hHeld => ?_)
             clear hK K
             refine norm_ (a' := ?_) ?_ ?_
             rotate_left
             ·show Act.put _ (some 49) _ = _
              simp only [Act.put, List.setIfInBounds_toArray, List.set_cons_zero, List.set_cons_succ, i64_w, i32_w]
              rfl
             refine pure_ (i := 8) (N := some 5) (v := ?_) (a' := ?_) #[true, true, true, true, true, true, true, true, true] rfl rfl (any_of HT_.out (by kernel_rfl)) (fun _ _ _ h => h) (Or.inl ⟨by rfl, ?_⟩) ?_ ?_
             rotate_left
             ·intro w'
              go_simp
              with_reducible rfl
             rotate_left
             ·simp only [Act.put, List.setIfInBounds_toArray, List.set_cons_zero, List.set_cons_succ, i64_w, i32_w]
              rfl
             refine done_ (done_of HT_.out (by kernel_rfl)) ?_
             obtain ⟨_, _, _, _, _, _, _, _, _⟩ := cz9 BK472.out
             obtain ⟨_, _, _, _, _, _, _, _, _⟩ := fz9 BK472.out
             try go_wp2_with (first | ((with_reducible refine gate_callee (f := 31) rfl ?_); refine goesL_ (some 52) rfl rfl Try.func31 (by kernel_rfl) rfl #[.int .i64 ((rd_T54 l0 x23_1).f2)] rfl (Mp) ?_; (with_reducible refine (pred_bare.calls ((rd_T54 l0 x23_1).f2) true _ A15.out).mono ?_); rintro e w' ⟨rfl, ⟨nd, rfl⟩⟩; refine ⟨_, rfl, ?_⟩))
             go_roundg k1
             case measure => have := HK1.out; omega
             case rel => exact ⟨(y489), (wrap64 (x23_1 + 1)), (by first | rfl | (simp; done) | (simp [*]; done)), H', ⟨by have := HK1.out; omega⟩, ⟨by (with_reducible repeat (first | apply Kd.R_alloc | apply Kd.R_drewN | apply Kd.R_drew)); exact Kd.R_mono HO491.out (fun _ hk => trivial)⟩, ⟨Bl⟩⟩
           ·replace c16 := Bool.eq_false_iff.mpr c16
            subst c16
            have H1 : ((value_Put.f k1 ((rd_T54 l0 x23_1).f3.f0) ((rd_T54 l0 x23_1).f3.f1) ((rd_T54 l0 x23_1).f3.f2) ((rd_T54 l0 x23_1).f3.f3) ((rd_T54 l0 x23_1).f3.f4)).bind fun bt499 => (if y489.length + bt499.1.length < 140737488355328 then ((some (y489 ++ bt499.1 : List Int)).bind fun y503 => (if ((rd_T54 l0 x23_1).f2) = 10 then ((octet_Uint.f k1 (IntKind.u64.wrap ((rd_T54 l0 x23_1).f4))).bind fun t506 => (if y503.length + t506.length < 140737488355328 then (pred_Put.l0 k1 (y503 ++ t506) l0 (l0.length : Int) (wrap64 (x23_1 + 1))) else (none))) else (pred_Put.l0 k1 y503 l0 (l0.length : Int) (wrap64 (x23_1 + 1))))) else (none))) = some (r1, r2) := by rw [if_neg (show ¬ (false = true) by decide)] at H; exact H
            clear H
            have H := H1
            clear H1
            replace H := Option.bind_eq_some_iff.mp H
            obtain ⟨⟨t499, t502⟩, A590, H⟩ := H
            replace H : (if y489.length + t499.length < 140737488355328 then ((some (y489 ++ t499 : List Int)).bind fun y503 => (if ((rd_T54 l0 x23_1).f2) = 10 then ((octet_Uint.f k1 (IntKind.u64.wrap ((rd_T54 l0 x23_1).f4))).bind fun t506 => (if y503.length + t506.length < 140737488355328 then (pred_Put.l0 k1 (y503 ++ t506) l0 (l0.length : Int) (wrap64 (x23_1 + 1))) else (none))) else (pred_Put.l0 k1 y503 l0 (l0.length : Int) (wrap64 (x23_1 + 1))))) else (none)) = some (r1, r2) := H
            have A59 := Aside0.mk A590
            clear A590
            by_cases c60 : y489.length + t499.length < 140737488355328
            ·rw [if_pos c60] at H
             have LMc60 := Aside0.mk c60
             clear c60
             obtain ⟨y503, hy503⟩ : ∃ y_ : List Int, y_ = (y489 ++ t499) := ⟨_, rfl⟩
             replace H : (if ((rd_T54 l0 x23_1).f2) = 10 then ((octet_Uint.f k1 (IntKind.u64.wrap ((rd_T54 l0 x23_1).f4))).bind fun t506 => (if y503.length + t506.length < 140737488355328 then (pred_Put.l0 k1 (y503 ++ t506) l0 (l0.length : Int) (wrap64 (x23_1 + 1))) else (none))) else (pred_Put.l0 k1 y503 l0 (l0.length : Int) (wrap64 (x23_1 + 1)))) = some (r1, r2) := by first | (rw [hy503]; with_reducible exact H) | (have H2_ := (Option.bind_some _ _).symm.trans H; rw [hy503]; with_reducible exact H2_) | (have H2_ := (Option.bind_some _ _).symm.trans H; with_reducible exact H2_) | with_reducible exact H | (rw [hy503]; exact H) | exact H
             have Ny503 := Aside0.mk hy503
             clear hy503
             by_cases c61 : ((rd_T54 l0 x23_1).f2) = 10
             ·rw [if_pos c61] at H
              have c61b0 : (((rd_T54 l0 x23_1).f2) == 10) = true := beq_iff_eq.mpr c61
              have c61b1 : (((rd_T54 l0 x23_1).f2) != 10) = false := bne_eq_false_iff_eq.mpr c61
              clear c61
              replace H := Option.bind_eq_some_iff.mp H
              obtain ⟨t506, A620, H⟩ := H
              replace H : (if y503.length + t506.length < 140737488355328 then (pred_Put.l0 k1 (y503 ++ t506) l0 (l0.length : Int) (wrap64 (x23_1 + 1))) else (none)) = some (r1, r2) := H
              have A62 := Aside0.mk A620
              clear A620
              by_cases c63 : y503.length + t506.length < 140737488355328
              ·rw [if_pos c63] at H
               have LMc63 := Aside0.mk c63
               clear c63
               obtain ⟨y509, hy509⟩ : ∃ y_ : List Int, y_ = (y503 ++ t506) := ⟨_, rfl⟩
               replace H : (pred_Put.l0 k1 y509 l0 (l0.length : Int) (wrap64 (x23_1 + 1))) = some (r1, r2) := by first | (rw [hy509]; with_reducible exact H) | (have H2_ := (Option.bind_some _ _).symm.trans H; rw [hy509]; with_reducible exact H2_) | (have H2_ := (Option.bind_some _ _).symm.trans H; with_reducible exact H2_) | with_reducible exact H | (rw [hy509]; exact H) | exact H
               have Ny509 := Aside0.mk hy509
               clear hy509
               have H' := Aside0.mk H
               clear H
               have p471 : 0 ≤ (x23_1 : Int) := of_decide_eq_true (As)
               have q471 : x23_1 < (l0.length : Int) := of_decide_eq_true (As)
               obtain ⟨ad471, e471, hx471_0, hx471_1, hx471_2, hx471_3, hx471_4, hx471_5, hx471_6, hx471_7, hx471_8⟩ := at_T54 HR0.out x23_1 p471 q471
               cases e471
               replace hx471_0 := (HB.out.cell (World.block_lt_of_cell? w _ hx471_0)).trans hx471_0
               replace hx471_1 := (HB.out.cell (World.block_lt_of_cell? w _ hx471_1)).trans hx471_1
               replace hx471_2 := (HB.out.cell (World.block_lt_of_cell? w _ hx471_2)).trans hx471_2
               replace hx471_3 := (HB.out.cell (World.block_lt_of_cell? w _ hx471_3)).trans hx471_3
               replace hx471_4 := (HB.out.cell (World.block_lt_of_cell? w _ hx471_4)).trans hx471_4
               replace hx471_5 := (HB.out.cell (World.block_lt_of_cell? w _ hx471_5)).trans hx471_5
               replace hx471_6 := (HB.out.cell (World.block_lt_of_cell? w _ hx471_6)).trans hx471_6
               replace hx471_7 := (HB.out.cell (World.block_lt_of_cell? w _ hx471_7)).trans hx471_7
               replace hx471_8 := (HB.out.cell (World.block_lt_of_cell? w _ hx471_8)).trans hx471_8
               replace p471 := eq_true p471
               replace q471 := eq_true q471
               try go_wp2_with (first | ((with_reducible refine gate_dst (N := 7) rfl ?_); refine box_event ?hg (N := 7) ?hd (cs := #[.int .i64 0, .string (⟨#[]⟩ : ByteArray), .int .i64 0, .int .i64 0, .int .i64 0, .string (⟨#[]⟩ : ByteArray), .bool false, .complex .f64 0 0, .int .i64 0]) (t := 54) ?hr ?_; (case hd => rfl); (case hg => rfl); (case hr => first | (go_simp; done) | (go_simp; rfl)); intro gb472 hg w64 hbox hb; have n0_ := Aside0.mk (Kd.R_below (Rw HO_5.out) hb); have n1_ := Aside0.mk (below_step (Bl) hb); have n2_ := Aside0.mk (hbox); have n3_ := Aside0.mk ((by rw [hg]; exact (below_size (Bl)) : w.heap.size ≤ gb472)); have n4_ := Aside0.mk ((by rw [hg]; exact (below_size (Bl)) : w.heap.size ≤ gb472)); clear HO_5; clear HB; have HO_5 := n0_; have HB := n1_; have BK472 := n2_; have GW472 := n3_; have GE472 := n4_; clear n0_ n1_ n2_ n3_ n4_; clear hb hbox hg; obtain ⟨_, _, _, _, _, _, _, _, _⟩ := cz9 BK472.out; obtain ⟨_, _, _, _, _, _, _, _, _⟩ := fz9 BK472.out) | ((with_reducible refine gate_dst (N := 31) rfl ?_); refine Kd.R_lit (Kd.int .u8) _ 5 ?hg (N := 31) ?hd (xs := ([((rd_T54 l0 x23_1).f0) % 256] : List Int)) (inner := [.int .u8 (((rd_T54 l0 x23_1).f0) % 256)]) (ok := fun _ => True) (okp := fun _ => True) ?hr ?hp (fun _ hk => hk) trivial (Below.refl _ _) (Nat.le_refl _) (by simp) ?_; (case hd => rfl); (case hg => rfl); (case hr => first | (go_simp; done) | (go_simp; rfl)); (case hp => exact (Reps.one (show Kd.M (Kd.int .u8) _ _ _ (((rd_T54 l0 x23_1).f0) % 256) [.int .u8 (((rd_T54 l0 x23_1).f0) % 256)] from rfl) (Reps.none _ _))); intro v474 w66 ho67 hb hg_ hnew_; clear hg_ hnew_; (first | rw [← Ny473.out] at ho67 | (simp only [Int.reduceToNat] at ho67; rw [← Ny473.out] at ho67)); have n0_ := Aside0.mk (Kd.R_elder' (by (with_reducible repeat (first | apply Kd.R_alloc | apply Kd.R_drewN | apply Kd.R_drew)); exact (Kd.R_mono (Kd.R_far (p := ⟨gb472, 8, none⟩) (Kd.R_far (p := ⟨gb472, 7, none⟩) (Kd.R_far (p := ⟨gb472, 6, none⟩) (Kd.R_far (p := ⟨gb472, 5, none⟩) (Kd.R_far (p := ⟨gb472, 4, none⟩) (Kd.R_far (p := ⟨gb472, 3, none⟩) (Kd.R_far (p := ⟨gb472, 2, none⟩) (Kd.R_far (p := ⟨gb472, 1, none⟩) (Kd.R_far (p := ⟨gb472, 0, none⟩) (Kd.R_types HO_5.out BK472.out (by decide)) (fun _ hk => hk.2) (.int .i64 ((rd_T54 l0 x23_1).f0))) (fun _ hk => hk.2) (.string ((rd_T54 l0 x23_1).f1))) (fun _ hk => hk.2) (.int .i64 ((rd_T54 l0 x23_1).f2))) (fun _ hk => hk.2) (.int .i64 ((rd_T54 l0 x23_1).f3.f0))) (fun _ hk => hk.2) (.int .i64 ((rd_T54 l0 x23_1).f3.f1))) (fun _ hk => hk.2) (.string ((rd_T54 l0 x23_1).f3.f2))) (fun _ hk => hk.2) (.bool ((rd_T54 l0 x23_1).f3.f3))) (fun _ hk => hk.2) (.complex .f64 ((rd_T54 l0 x23_1).f3.f4).re ((rd_T54 l0 x23_1).f3.f4).im)) (fun _ hk => hk.2) (.int .i64 ((rd_T54 l0 x23_1).f4))) (fun _ h_ => h_.1))) (Kd.R_base ho67) hb); have n1_ := Aside0.mk (Kd.R_lower (Kd.R_new' ho67 (Kd.R_lt (by (with_reducible repeat (first | apply Kd.R_alloc | apply Kd.R_drewN | apply Kd.R_drew)); exact (Kd.R_mono (Kd.R_far (p := ⟨gb472, 8, none⟩) (Kd.R_far (p := ⟨gb472, 7, none⟩) (Kd.R_far (p := ⟨gb472, 6, none⟩) (Kd.R_far (p := ⟨gb472, 5, none⟩) (Kd.R_far (p := ⟨gb472, 4, none⟩) (Kd.R_far (p := ⟨gb472, 3, none⟩) (Kd.R_far (p := ⟨gb472, 2, none⟩) (Kd.R_far (p := ⟨gb472, 1, none⟩) (Kd.R_far (p := ⟨gb472, 0, none⟩) (Kd.R_types HO_5.out BK472.out (by decide)) (fun _ hk => hk.2) (.int .i64 ((rd_T54 l0 x23_1).f0))) (fun _ hk => hk.2) (.string ((rd_T54 l0 x23_1).f1))) (fun _ hk => hk.2) (.int .i64 ((rd_T54 l0 x23_1).f2))) (fun _ hk => hk.2) (.int .i64 ((rd_T54 l0 x23_1).f3.f0))) (fun _ hk => hk.2) (.int .i64 ((rd_T54 l0 x23_1).f3.f1))) (fun _ hk => hk.2) (.string ((rd_T54 l0 x23_1).f3.f2))) (fun _ hk => hk.2) (.bool ((rd_T54 l0 x23_1).f3.f3))) (fun _ hk => hk.2) (.complex .f64 ((rd_T54 l0 x23_1).f3.f4).re ((rd_T54 l0 x23_1).f3.f4).im)) (fun _ hk => hk.2) (.int .i64 ((rd_T54 l0 x23_1).f4))) (fun _ h_ => h_.1))))) (below_size (Bl))); have n2_ := Aside0.mk (blk_below (g := gb472) (o := .cells #[.int .i64 ((rd_T54 l0 x23_1).f0), .string ((rd_T54 l0 x23_1).f1), .int .i64 ((rd_T54 l0 x23_1).f2), .int .i64 ((rd_T54 l0 x23_1).f3.f0), .int .i64 ((rd_T54 l0 x23_1).f3.f1), .string ((rd_T54 l0 x23_1).f3.f2), .bool ((rd_T54 l0 x23_1).f3.f3), .complex .f64 ((rd_T54 l0 x23_1).f3.f4).re ((rd_T54 l0 x23_1).f3.f4).im, .int .i64 ((rd_T54 l0 x23_1).f4)] 54 (0, 0)) (by (with_reducible repeat (first | refine blk_drewN ?_ _ | refine blk_drew ?_ | refine blk_alloc ?_ _)); refine blk_put (cs := #[.int .i64 ((rd_T54 l0 x23_1).f0), .string ((rd_T54 l0 x23_1).f1), .int .i64 ((rd_T54 l0 x23_1).f2), .int .i64 ((rd_T54 l0 x23_1).f3.f0), .int .i64 ((rd_T54 l0 x23_1).f3.f1), .string ((rd_T54 l0 x23_1).f3.f2), .bool ((rd_T54 l0 x23_1).f3.f3), .complex .f64 ((rd_T54 l0 x23_1).f3.f4).re ((rd_T54 l0 x23_1).f3.f4).im, .int .i64 0]) ?_ 8 _ rfl; (with_reducible repeat (first | refine blk_drewN ?_ _ | refine blk_drew ?_ | refine blk_alloc ?_ _)); refine blk_put (cs := #[.int .i64 ((rd_T54 l0 x23_1).f0), .string ((rd_T54 l0 x23_1).f1), .int .i64 ((rd_T54 l0 x23_1).f2), .int .i64 ((rd_T54 l0 x23_1).f3.f0), .int .i64 ((rd_T54 l0 x23_1).f3.f1), .string ((rd_T54 l0 x23_1).f3.f2), .bool ((rd_T54 l0 x23_1).f3.f3), .complex .f64 0 0, .int .i64 0]) ?_ 7 _ rfl; (with_reducible repeat (first | refine blk_drewN ?_ _ | refine blk_drew ?_ | refine blk_alloc ?_ _)); refine blk_put (cs := #[.int .i64 ((rd_T54 l0 x23_1).f0), .string ((rd_T54 l0 x23_1).f1), .int .i64 ((rd_T54 l0 x23_1).f2), .int .i64 ((rd_T54 l0 x23_1).f3.f0), .int .i64 ((rd_T54 l0 x23_1).f3.f1), .string ((rd_T54 l0 x23_1).f3.f2), .bool false, .complex .f64 0 0, .int .i64 0]) ?_ 6 _ rfl; (with_reducible repeat (first | refine blk_drewN ?_ _ | refine blk_drew ?_ | refine blk_alloc ?_ _)); refine blk_put (cs := #[.int .i64 ((rd_T54 l0 x23_1).f0), .string ((rd_T54 l0 x23_1).f1), .int .i64 ((rd_T54 l0 x23_1).f2), .int .i64 ((rd_T54 l0 x23_1).f3.f0), .int .i64 ((rd_T54 l0 x23_1).f3.f1), .string (⟨#[]⟩ : ByteArray), .bool false, .complex .f64 0 0, .int .i64 0]) ?_ 5 _ rfl; (with_reducible repeat (first | refine blk_drewN ?_ _ | refine blk_drew ?_ | refine blk_alloc ?_ _)); refine blk_put (cs := #[.int .i64 ((rd_T54 l0 x23_1).f0), .string ((rd_T54 l0 x23_1).f1), .int .i64 ((rd_T54 l0 x23_1).f2), .int .i64 ((rd_T54 l0 x23_1).f3.f0), .int .i64 0, .string (⟨#[]⟩ : ByteArray), .bool false, .complex .f64 0 0, .int .i64 0]) ?_ 4 _ rfl; (with_reducible repeat (first | refine blk_drewN ?_ _ | refine blk_drew ?_ | refine blk_alloc ?_ _)); refine blk_put (cs := #[.int .i64 ((rd_T54 l0 x23_1).f0), .string ((rd_T54 l0 x23_1).f1), .int .i64 ((rd_T54 l0 x23_1).f2), .int .i64 0, .int .i64 0, .string (⟨#[]⟩ : ByteArray), .bool false, .complex .f64 0 0, .int .i64 0]) ?_ 3 _ rfl; (with_reducible repeat (first | refine blk_drewN ?_ _ | refine blk_drew ?_ | refine blk_alloc ?_ _)); refine blk_put (cs := #[.int .i64 ((rd_T54 l0 x23_1).f0), .string ((rd_T54 l0 x23_1).f1), .int .i64 0, .int .i64 0, .int .i64 0, .string (⟨#[]⟩ : ByteArray), .bool false, .complex .f64 0 0, .int .i64 0]) ?_ 2 _ rfl; (with_reducible repeat (first | refine blk_drewN ?_ _ | refine blk_drew ?_ | refine blk_alloc ?_ _)); refine blk_put (cs := #[.int .i64 ((rd_T54 l0 x23_1).f0), .string (⟨#[]⟩ : ByteArray), .int .i64 0, .int .i64 0, .int .i64 0, .string (⟨#[]⟩ : ByteArray), .bool false, .complex .f64 0 0, .int .i64 0]) ?_ 1 _ rfl; (with_reducible repeat (first | refine blk_drewN ?_ _ | refine blk_drew ?_ | refine blk_alloc ?_ _)); refine blk_put (cs := #[.int .i64 0, .string (⟨#[]⟩ : ByteArray), .int .i64 0, .int .i64 0, .int .i64 0, .string (⟨#[]⟩ : ByteArray), .bool false, .complex .f64 0 0, .int .i64 0]) ?_ 0 _ rfl; (with_reducible repeat (first | refine blk_drewN ?_ _ | refine blk_drew ?_ | refine blk_alloc ?_ _)); exact BK472.out) hb); have n3_ := Aside0.mk (below_step (Bl) hb); clear HO_5; clear BK472; clear HB; have HO_5 := n0_; have HO475 := n1_; have BK472 := n2_; have HB := n3_; clear n0_ n1_ n2_ n3_; clear hb ho67; obtain ⟨Ao69, co69, eo69⟩ := Kd.R_slice HO475.out; subst eo69) | ((with_reducible refine gate_builtin (b := .append) (xs := #[.tmp 27, .tmp 31]) rfl ?_); at_builtin; refine Kd.R_append_rows (Kd.int .u8) (w0 := w) w.heap.size rfl (.tmp 27) (.tmp 31) 33 5 (.int .u8 0) 1 rfl Try.underlying33 info5 rfl (by decide) (by omega) u5 x5_1 y473 _ _ _ (fun k_ => some k_ ≠ (.slice Ao69 y473.length co69 : Value).ownBlock) (fun _ => False) rfl rfl ?aO ?aR (fun _ _ h => h) (fun _ h => h.elim) ?aF ?aB ?aS ?aL ?_; (case aR => repeat (first | exact (Kd.R_reads' HO475.out).2.2 | (with_reducible refine Kd.C_alloc ?_ _) | (with_reducible refine Kd.C_drewN ?_ _) | (with_reducible refine Kd.C_drew ?_))); (case aB => exact (Bl)); (case aF => exact (fun k_ hk => Kd.fresh' (Kd.R_lt (Rw HO475.out)) k_ hk)); (case aO => exact (by (with_reducible repeat (first | apply Kd.R_alloc | apply Kd.R_drewN | apply Kd.R_drew)); exact Kd.R_mono HO_5.out (fun _ hk => hk.2))); (case aS => exact (below_size (Bl))); (case aL => have := LMc10.out; omega); intro v477 w68 ho hb hg hat; rw [← Ny476.out] at ho; have n0_ := Aside0.mk (blk_grown (g := gb472) (o := .cells #[.int .i64 ((rd_T54 l0 x23_1).f0), .string ((rd_T54 l0 x23_1).f1), .int .i64 ((rd_T54 l0 x23_1).f2), .int .i64 ((rd_T54 l0 x23_1).f3.f0), .int .i64 ((rd_T54 l0 x23_1).f3.f1), .string ((rd_T54 l0 x23_1).f3.f2), .bool ((rd_T54 l0 x23_1).f3.f3), .complex .f64 ((rd_T54 l0 x23_1).f3.f4).re ((rd_T54 l0 x23_1).f3.f4).im, .int .i64 ((rd_T54 l0 x23_1).f4)] 54 (0, 0)) (Bk BK472.out) hg (Kd.R_ne HO_5.out BK472.out (by decide))); have n1_ := Aside0.mk (Kd.R_after (ok := (fun _ => True)) (Rw HO475.out) hg hat); have n2_ := Aside0.mk (hb); have n3_ := Aside0.mk (ho); clear BK472; clear HO475; clear HB; clear HO_5; have BK472 := n0_; have HO475 := n1_; have HB := n2_; have HO478 := n3_; clear n0_ n1_ n2_ n3_; clear ho hb hg hat; obtain ⟨_, _, _, _, _, _, _, _, _⟩ := cz9 BK472.out; obtain ⟨_, _, _, _, _, _, _, _, _⟩ := fz9 BK472.out) | ((with_reducible refine gate_callee (f := 30) rfl ?_); refine goesL_ (some 39) rfl rfl Try.func30 (by kernel_rfl) rfl #[.string ((rd_T54 l0 x23_1).f1)] rfl (Mp) ?_; (with_reducible refine (octet_Text.calls k1 ((rd_T54 l0 x23_1).f1) t479 t480 _ A12.out).mono ?_); rintro e w71 ⟨v481, rfl, ho0, hb⟩; refine ⟨_, rfl, ?_⟩; have n0_ := Aside0.mk (Kd.R_elder' (Rw HO475.out) (Kd.R_base ho0) hb); have n1_ := Aside0.mk (Kd.R_elder' (Rw HO478.out) (Kd.R_base ho0) hb); have n2_ := Aside0.mk (Kd.R_lower (Kd.R_new' (Kd.R_new' ho0 (Kd.R_lt (Rw HO475.out))) (Kd.R_lt (Rw HO478.out))) (below_size (Bl))); have n3_ := Aside0.mk (blk_below (g := gb472) (o := .cells #[.int .i64 ((rd_T54 l0 x23_1).f0), .string ((rd_T54 l0 x23_1).f1), .int .i64 ((rd_T54 l0 x23_1).f2), .int .i64 ((rd_T54 l0 x23_1).f3.f0), .int .i64 ((rd_T54 l0 x23_1).f3.f1), .string ((rd_T54 l0 x23_1).f3.f2), .bool ((rd_T54 l0 x23_1).f3.f3), .complex .f64 ((rd_T54 l0 x23_1).f3.f4).re ((rd_T54 l0 x23_1).f3.f4).im, .int .i64 ((rd_T54 l0 x23_1).f4)] 54 (0, 0)) (Bk BK472.out) hb); have n4_ := Aside0.mk (below_step (Bl) hb); clear HO475; clear HO478; clear BK472; clear HB; have HO475 := n0_; have HO478 := n1_; have HO482 := n2_; have BK472 := n3_; have HB := n4_; clear n0_ n1_ n2_ n3_ n4_; (try clear hb); (try clear hb2); (try clear hk); (try clear hi); (try clear ho0); obtain ⟨Ao72, co72, eo72⟩ := Kd.R_slice HO478.out; subst eo72; obtain ⟨Ao73, co73, eo73⟩ := Kd.R_slice HO482.out; subst eo73))
               have n0_ := Aside0.mk (Kd.R_drew HO475.out)
               have n1_ := Aside0.mk (Kd.R_drew HO478.out)
               have n2_ := Aside0.mk (Kd.R_drew HO482.out)
               have n3_ := Aside0.mk (blk_drew BK472.out)
               have n4_ := Aside0.mk (below_drew1 HB.out)
               clear HO475
               clear HO478
               clear HO482
               clear BK472
               clear HB
               have HO475 := n0_
               have HO478 := n1_
               have HO482 := n2_
               have BK472 := n3_
               have HB := n4_
               clear n0_ n1_ n2_ n3_ n4_
               refine start_ (n := 9) (S := fun w' => w'.cell? ⟨gb472, 0, none⟩ = some (.int .i64 ((rd_T54 l0 x23_1).f0)) ∧ w'.cell? ⟨gb472, 1, none⟩ = some (.string ((rd_T54 l0 x23_1).f1)) ∧ w'.cell? ⟨gb472, 2, none⟩ = some (.int .i64 ((rd_T54 l0 x23_1).f2)) ∧ w'.cell? ⟨gb472, 3, none⟩ = some (.int .i64 ((rd_T54 l0 x23_1).f3.f0)) ∧ w'.cell? ⟨gb472, 4, none⟩ = some (.int .i64 ((rd_T54 l0 x23_1).f3.f1)) ∧ w'.cell? ⟨gb472, 5, none⟩ = some (.string ((rd_T54 l0 x23_1).f3.f2)) ∧ w'.cell? ⟨gb472, 6, none⟩ = some (.bool ((rd_T54 l0 x23_1).f3.f3)) ∧ w'.cell? ⟨gb472, 7, none⟩ = some (.complex .f64 ((rd_T54 l0 x23_1).f3.f4).re ((rd_T54 l0 x23_1).f3.f4).im) ∧ w'.cell? ⟨gb472, 8, none⟩ = some (.int .i64 ((rd_T54 l0 x23_1).f4))) (ds := []) #[false, false, false, false, false, false, false, false, false] (by kernel_rfl) rfl rfl ⟨(blk_cell BK472.out 0).trans rfl, (blk_cell BK472.out 1).trans rfl, (blk_cell BK472.out 2).trans rfl, (blk_cell BK472.out 3).trans rfl, (blk_cell BK472.out 4).trans rfl, (blk_cell BK472.out 5).trans rfl, (blk_cell BK472.out 6).trans rfl, (blk_cell BK472.out 7).trans rfl, (blk_cell BK472.out 8).trans rfl⟩ (fun hHeld => ?_); refine with_tabW pred_Put.tab11 pred_Put.bits11 (fun HT_ HW_ => ?_)
               generalize w71.drew = w74 at HO475 HO478 HO482 BK472 HB hHeld ⊢
               refine pure_ (i := 0) (N := some 42) (v := ?_) (a' := ?_) #[true, false, false, false, false, false, false, false, false] rfl rfl (any_of HT_.out (by kernel_rfl)) (fun _ _ _ h => h) (Or.inl ⟨by rfl, ?_⟩) ?_ ?_
               rotate_left
               ·intro w'
                go_simp
                with_reducible rfl
               rotate_left
               ·simp only [Act.put, List.setIfInBounds_toArray, List.set_cons_zero, List.set_cons_succ, i64_w, i32_w]
                rfl
               refine pure_ (i := 1) (N := some 43) (v := ?_) (a' := ?_) #[true, true, false, false, false, false, false, false, false] rfl rfl (any_of HT_.out (by kernel_rfl)) (fun _ _ _ h => h) (Or.inl ⟨by rfl, ?_⟩) ?_ ?_
               rotate_left
               ·intro w'
                go_simp
                with_reducible rfl
               rotate_left
               ·simp only [Act.put, List.setIfInBounds_toArray, List.set_cons_zero, List.set_cons_succ, i64_w, i32_w]
                rfl
               refine pure_ (i := 3) (N := some 45) (v := ?_) (a' := ?_) #[true, true, false, true, false, false, false, false, false] rfl rfl (any_of HT_.out (by kernel_rfl)) (fun _ _ _ h => h) (Or.inl ⟨by rfl, ?_⟩) ?_ ?_
               rotate_left
               ·intro w'
                go_simp
                with_reducible rfl
               rotate_left
               ·simp only [Act.put, List.setIfInBounds_toArray, List.set_cons_zero, List.set_cons_succ, i64_w, i32_w]
                rfl
               refine take_ (i := 4) (N := some 46) (v := ?_) (a' := ?_) #[true, true, false, true, true, false, false, false, false] rfl rfl (take_ofW HT_.out HW_.out (by kernel_rfl)) (fun _ _ _ h => h) (Or.inl ⟨by rfl, ?_⟩) hHeld ?_ ?_
               rotate_left
               ·rintro w' ⟨s0, s1, s2, s3, s4, s5, s6, s7, s8⟩
                go_simp
                with_reducible rfl
               rotate_left
               ·simp only [Act.put, List.setIfInBounds_toArray, List.set_cons_zero, List.set_cons_succ, i64_w, i32_w]
                rfl
               refine pure_ (i := 5) (N := some 47) (v := ?_) (a' := ?_) #[true, true, false, true, true, true, false, false, false] rfl rfl (any_of HT_.out (by kernel_rfl)) (fun _ _ _ h => h) (Or.inl ⟨by rfl, ?_⟩) ?_ ?_
               rotate_left
               ·intro w'
                go_simp
                with_reducible rfl
               rotate_left
               ·simp only [Act.put, List.setIfInBounds_toArray, List.set_cons_zero, List.set_cons_succ, i64_w, i32_w]
                rfl
               refine join_ (σ := Value × Value) 2 #[true, true, true, true, true, true, true, false, false] (fun s_ => [(44, s_.1), (48, s_.2)]) (fun s_ w' => (w'.cell? ⟨gb472, 0, none⟩ = some (.int .i64 ((rd_T54 l0 x23_1).f0)) ∧ w'.cell? ⟨gb472, 1, none⟩ = some (.string ((rd_T54 l0 x23_1).f1)) ∧ w'.cell? ⟨gb472, 2, none⟩ = some (.int .i64 ((rd_T54 l0 x23_1).f2)) ∧ w'.cell? ⟨gb472, 3, none⟩ = some (.int .i64 ((rd_T54 l0 x23_1).f3.f0)) ∧ w'.cell? ⟨gb472, 4, none⟩ = some (.int .i64 ((rd_T54 l0 x23_1).f3.f1)) ∧ w'.cell? ⟨gb472, 5, none⟩ = some (.string ((rd_T54 l0 x23_1).f3.f2)) ∧ w'.cell? ⟨gb472, 6, none⟩ = some (.bool ((rd_T54 l0 x23_1).f3.f3)) ∧ w'.cell? ⟨gb472, 7, none⟩ = some (.complex .f64 ((rd_T54 l0 x23_1).f3.f4).re ((rd_T54 l0 x23_1).f3.f4).im) ∧ w'.cell? ⟨gb472, 8, none⟩ = some (.int .i64 ((rd_T54 l0 x23_1).f4))) ∧ (Kd.R (Kd.int .u8) 5 w' w.heap.size (fun k_ => some k_ ≠ (.slice Ao73 t479.length co73 : Value).ownBlock ∧ some k_ ≠ (s_.1 : Value).ownBlock ∧ some k_ ≠ (s_.2 : Value).ownBlock) (.slice Ao69 y473.length co69) y473) ∧ (Kd.R (Kd.int .u8) 5 w' w.heap.size (fun k_ => some k_ ≠ (.slice Ao69 y473.length co69 : Value).ownBlock ∧ some k_ ≠ (s_.1 : Value).ownBlock ∧ some k_ ≠ (s_.2 : Value).ownBlock) (.slice Ao73 t479.length co73) t479) ∧ (Kd.R (Kd.int .u8) 5 w' w.heap.size (fun k_ => some k_ ≠ (.slice Ao69 y473.length co69 : Value).ownBlock ∧ some k_ ≠ (.slice Ao73 t479.length co73 : Value).ownBlock ∧ some k_ ≠ (s_.2 : Value).ownBlock) s_.1 y483) ∧ (Kd.R (Kd.int .u8) 5 w' w.heap.size (fun k_ => some k_ ≠ (.slice Ao69 y473.length co69 : Value).ownBlock ∧ some k_ ≠ (.slice Ao73 t479.length co73 : Value).ownBlock ∧ some k_ ≠ (s_.1 : Value).ownBlock) s_.2 y486) ∧ (w'.heap[gb472]? = some (.cells #[.int .i64 ((rd_T54 l0 x23_1).f0), .string ((rd_T54 l0 x23_1).f1), .int .i64 ((rd_T54 l0 x23_1).f2), .int .i64 ((rd_T54 l0 x23_1).f3.f0), .int .i64 ((rd_T54 l0 x23_1).f3.f1), .string ((rd_T54 l0 x23_1).f3.f2), .bool ((rd_T54 l0 x23_1).f3.f3), .complex .f64 ((rd_T54 l0 x23_1).f3.f4).re ((rd_T54 l0 x23_1).f3.f4).im, .int .i64 ((rd_T54 l0 x23_1).f4)] 54 (0, 0))) ∧ (Below w.heap.size w w')) ?_ ?_
               rotate_left
               ·intro hCont
                refine two_ (i := 2) (j := 6) (Ni := some 44) (Nj := some 48) #[true, true, true, true, true, true, false, false, false] #[true, true, false, true, true, true, true, false, false] rfl rfl rfl rfl (two_of HT_.out (by kernel_rfl)) (by decide) (by decide) (fun K hK => ?_) (fun K hK => ?_)
                ·skip
                 refine Kd.R_append_rows_step (Kd.int .u8) (w0 := w) w.heap.size (by rfl) (.tmp 42) (.tmp 43) 33 5 (.int .u8 0) 1 rfl Try.underlying33 info5 rfl (by decide) (by omega) (.slice Ao72 y476.length co72) y476 t479 _ _ _ (fun k_ => some k_ ≠ (.slice Ao69 y473.length co69 : Value).ownBlock ∧ some k_ ≠ (.slice Ao73 t479.length co73 : Value).ownBlock) (fun _ => False) rfl rfl ?aO ?aR (fun _ _ h => h) (fun _ h => h.elim) ?aF ?aB ?aS ?aL ?_
                 (case aR => repeat (first | exact (Kd.R_reads' HO482.out).2.2 | (with_reducible refine Kd.C_alloc ?_ _) | (with_reducible refine Kd.C_drewN ?_ _) | (with_reducible refine Kd.C_drew ?_)))
                 (case aB => exact (Bl))
                 (case aF => exact (fun k_ hk => ⟨Kd.fresh' (Kd.R_lt (Rw HO475.out)) k_ hk, Kd.fresh' (Kd.R_lt (Rw HO482.out)) k_ hk⟩))
                 (case aO => exact (Rw HO478.out))
                 (case aS => exact (below_size (Bl)))
                 (case aL => have := LMc13.out; omega)
                 intro v484 w75 ho hb hg hat
                 rw [← Ny483.out] at ho
                 have n0_ := Aside0.mk (blk_grown (g := gb472) (o := .cells #[.int .i64 ((rd_T54 l0 x23_1).f0), .string ((rd_T54 l0 x23_1).f1), .int .i64 ((rd_T54 l0 x23_1).f2), .int .i64 ((rd_T54 l0 x23_1).f3.f0), .int .i64 ((rd_T54 l0 x23_1).f3.f1), .string ((rd_T54 l0 x23_1).f3.f2), .bool ((rd_T54 l0 x23_1).f3.f3), .complex .f64 ((rd_T54 l0 x23_1).f3.f4).re ((rd_T54 l0 x23_1).f3.f4).im, .int .i64 ((rd_T54 l0 x23_1).f4)] 54 (0, 0)) (Bk BK472.out) hg (Kd.R_ne HO478.out BK472.out (by decide)))
                 have n1_ := Aside0.mk (Kd.R_after (ok := (fun k_ => some k_ ≠ (.slice Ao73 t479.length co73 : Value).ownBlock)) (by (with_reducible repeat (first | apply Kd.R_alloc | apply Kd.R_drewN | apply Kd.R_drew)); exact Kd.R_mono HO475.out (fun _ hk => ⟨hk.2, hk.1.2⟩)) hg hat)
                 have n2_ := Aside0.mk (Kd.R_after (ok := (fun k_ => some k_ ≠ (.slice Ao69 y473.length co69 : Value).ownBlock)) (by (with_reducible repeat (first | apply Kd.R_alloc | apply Kd.R_drewN | apply Kd.R_drew)); exact Kd.R_mono HO482.out (fun _ hk => ⟨hk.1.2, hk.2⟩)) hg hat)
                 have n3_ := Aside0.mk (hb)
                 have n4_ := Aside0.mk (ho)
                 clear BK472
                 clear HO475
                 clear HO482
                 clear HB
                 clear HO478
                 have BK472 := n0_
                 have HO475 := n1_
                 have HO482 := n2_
                 have HB := n3_
                 have HO485 := n4_
                 clear n0_ n1_ n2_ n3_ n4_
                 clear ho hb hg hat
                 refine hK.out _ _ ⟨(blk_cell BK472.out 0).trans rfl, (blk_cell BK472.out 1).trans rfl, (blk_cell BK472.out 2).trans rfl, (blk_cell BK472.out 3).trans rfl, (blk_cell BK472.out 4).trans rfl, (blk_cell BK472.out 5).trans rfl, (blk_cell BK472.out 6).trans rfl, (blk_cell BK472.out 7).trans rfl, (blk_cell BK472.out 8).trans rfl⟩ (fun hHeld => ?_)
                 clear hK K
                 refine norm_ (a' := ?_) ?_ ?_
                 rotate_left
                 ·show Act.put _ (some 44) _ = _
                  simp only [Act.put, List.setIfInBounds_toArray, List.set_cons_zero, List.set_cons_succ, i64_w, i32_w]
                  rfl
                 refine one_ (i := 6) (N := some 48) #[true, true, true, true, true, true, true, false, false] rfl rfl (one_of HT_.out (by kernel_rfl)) (by decide) (fun K hK => ?_)
                 refine Kd.R_lit_step (Kd.int .u8) _ 5 ?hg (N := 48) ?hd (xs := ([((rd_T54 l0 x23_1).f2) % 256] : List Int)) (inner := [.int .u8 (((rd_T54 l0 x23_1).f2) % 256)]) (ok := fun _ => True) (okp := fun _ => True) ?hr ?hp (fun _ hk => hk) trivial (Below.refl _ _) (Nat.le_refl _) (by simp) ?_; (case hd => rfl); (case hg => rfl); (case hr => first | (go_simp; done) | (go_simp; rfl)); (case hp => exact (Reps.one (show Kd.M (Kd.int .u8) _ _ _ (((rd_T54 l0 x23_1).f2) % 256) [.int .u8 (((rd_T54 l0 x23_1).f2) % 256)] from rfl) (Reps.none _ _)))
                 intro v487 w76 ho77 hb hg_ hnew_
                 clear hg_ hnew_
                 (first | rw [← Ny486.out] at ho77 | (simp only [Int.reduceToNat] at ho77; rw [← Ny486.out] at ho77))
                 have n0_ := Aside0.mk (Kd.R_elder' (Rw HO475.out) (Kd.R_base ho77) hb)
                 have n1_ := Aside0.mk (Kd.R_elder' (Rw HO482.out) (Kd.R_base ho77) hb)
                 have n2_ := Aside0.mk (Kd.R_elder' (Rw HO485.out) (Kd.R_base ho77) hb)
                 have n3_ := Aside0.mk (Kd.R_lower (Kd.R_new' (Kd.R_new' (Kd.R_new' ho77 (Kd.R_lt (Rw HO475.out))) (Kd.R_lt (Rw HO482.out))) (Kd.R_lt (Rw HO485.out))) (below_size (Bl)))
                 have n4_ := Aside0.mk (blk_below (g := gb472) (o := .cells #[.int .i64 ((rd_T54 l0 x23_1).f0), .string ((rd_T54 l0 x23_1).f1), .int .i64 ((rd_T54 l0 x23_1).f2), .int .i64 ((rd_T54 l0 x23_1).f3.f0), .int .i64 ((rd_T54 l0 x23_1).f3.f1), .string ((rd_T54 l0 x23_1).f3.f2), .bool ((rd_T54 l0 x23_1).f3.f3), .complex .f64 ((rd_T54 l0 x23_1).f3.f4).re ((rd_T54 l0 x23_1).f3.f4).im, .int .i64 ((rd_T54 l0 x23_1).f4)] 54 (0, 0)) (Bk BK472.out) hb)
                 have n5_ := Aside0.mk (below_step (Bl) hb)
                 clear HO475
                 clear HO482
                 clear HO485
                 clear BK472
                 clear HB
                 have HO475 := n0_
                 have HO482 := n1_
                 have HO485 := n2_
                 have HO488 := n3_
                 have BK472 := n4_
                 have HB := n5_
                 clear n0_ n1_ n2_ n3_ n4_ n5_
                 clear hb ho77
                 refine hK.out _ _ ⟨(blk_cell BK472.out 0).trans rfl, (blk_cell BK472.out 1).trans rfl, (blk_cell BK472.out 2).trans rfl, (blk_cell BK472.out 3).trans rfl, (blk_cell BK472.out 4).trans rfl, (blk_cell BK472.out 5).trans rfl, (blk_cell BK472.out 6).trans rfl, (blk_cell BK472.out 7).trans rfl, (blk_cell BK472.out 8).trans rfl⟩ (fun hHeld => ?_)
                 clear hK K
                 refine norm_ (a' := ?_) ?_ ?_
                 rotate_left
                 ·show Act.put _ (some 48) _ = _
                  simp only [Act.put, List.setIfInBounds_toArray, List.set_cons_zero, List.set_cons_succ, i64_w, i32_w]
                  rfl
                 exact norm_ (by simp only [putAll, Act.put, List.setIfInBounds_toArray, List.set_cons_zero, List.set_cons_succ]) (hCont (v484, v487) _ ⟨hHeld, (by (with_reducible repeat (first | apply Kd.R_alloc | apply Kd.R_drewN | apply Kd.R_drew)); exact Kd.R_mono HO475.out (fun _ hk => ⟨hk.1.1, ⟨hk.1.2, hk.2⟩⟩)), (by (with_reducible repeat (first | apply Kd.R_alloc | apply Kd.R_drewN | apply Kd.R_drew)); exact Kd.R_mono HO482.out (fun _ hk => ⟨hk.1.1, ⟨hk.1.2, hk.2⟩⟩)), (by (with_reducible repeat (first | apply Kd.R_alloc | apply Kd.R_drewN | apply Kd.R_drew)); exact Kd.R_mono HO485.out (fun _ hk => ⟨hk.1.1, ⟨hk.1.2, hk.2⟩⟩)), (by (with_reducible repeat (first | apply Kd.R_alloc | apply Kd.R_drewN | apply Kd.R_drew)); exact Kd.R_mono HO488.out (fun _ hk => ⟨hk.1.1.2, ⟨hk.1.2, hk.2⟩⟩)), (Bk BK472.out), (Bl)⟩)
                ·skip
                 refine Kd.R_lit_step (Kd.int .u8) _ 5 ?hg (N := 48) ?hd (xs := ([((rd_T54 l0 x23_1).f2) % 256] : List Int)) (inner := [.int .u8 (((rd_T54 l0 x23_1).f2) % 256)]) (ok := fun _ => True) (okp := fun _ => True) ?hr ?hp (fun _ hk => hk) trivial (Below.refl _ _) (Nat.le_refl _) (by simp) ?_; (case hd => rfl); (case hg => rfl); (case hr => first | (go_simp; done) | (go_simp; rfl)); (case hp => exact (Reps.one (show Kd.M (Kd.int .u8) _ _ _ (((rd_T54 l0 x23_1).f2) % 256) [.int .u8 (((rd_T54 l0 x23_1).f2) % 256)] from rfl) (Reps.none _ _)))
                 intro v487 w75 ho76 hb hg_ hnew_
                 clear hg_ hnew_
                 (first | rw [← Ny486.out] at ho76 | (simp only [Int.reduceToNat] at ho76; rw [← Ny486.out] at ho76))
                 have n0_ := Aside0.mk (Kd.R_elder' (Rw HO475.out) (Kd.R_base ho76) hb)
                 have n1_ := Aside0.mk (Kd.R_elder' (Rw HO478.out) (Kd.R_base ho76) hb)
                 have n2_ := Aside0.mk (Kd.R_elder' (Rw HO482.out) (Kd.R_base ho76) hb)
                 have n3_ := Aside0.mk (Kd.R_lower (Kd.R_new' (Kd.R_new' (Kd.R_new' ho76 (Kd.R_lt (Rw HO475.out))) (Kd.R_lt (Rw HO478.out))) (Kd.R_lt (Rw HO482.out))) (below_size (Bl)))
                 have n4_ := Aside0.mk (blk_below (g := gb472) (o := .cells #[.int .i64 ((rd_T54 l0 x23_1).f0), .string ((rd_T54 l0 x23_1).f1), .int .i64 ((rd_T54 l0 x23_1).f2), .int .i64 ((rd_T54 l0 x23_1).f3.f0), .int .i64 ((rd_T54 l0 x23_1).f3.f1), .string ((rd_T54 l0 x23_1).f3.f2), .bool ((rd_T54 l0 x23_1).f3.f3), .complex .f64 ((rd_T54 l0 x23_1).f3.f4).re ((rd_T54 l0 x23_1).f3.f4).im, .int .i64 ((rd_T54 l0 x23_1).f4)] 54 (0, 0)) (Bk BK472.out) hb)
                 have n5_ := Aside0.mk (below_step (Bl) hb)
                 clear HO475
                 clear HO478
                 clear HO482
                 clear BK472
                 clear HB
                 have HO475 := n0_
                 have HO478 := n1_
                 have HO482 := n2_
                 have HO488 := n3_
                 have BK472 := n4_
                 have HB := n5_
                 clear n0_ n1_ n2_ n3_ n4_ n5_
                 clear hb ho76
                 refine hK.out _ _ ⟨(blk_cell BK472.out 0).trans rfl, (blk_cell BK472.out 1).trans rfl, (blk_cell BK472.out 2).trans rfl, (blk_cell BK472.out 3).trans rfl, (blk_cell BK472.out 4).trans rfl, (blk_cell BK472.out 5).trans rfl, (blk_cell BK472.out 6).trans rfl, (blk_cell BK472.out 7).trans rfl, (blk_cell BK472.out 8).trans rfl⟩ (fun hHeld => ?_)
                 clear hK K
                 refine norm_ (a' := ?_) ?_ ?_
                 rotate_left
                 ·show Act.put _ (some 48) _ = _
                  simp only [Act.put, List.setIfInBounds_toArray, List.set_cons_zero, List.set_cons_succ, i64_w, i32_w]
                  rfl
                 refine one_ (i := 2) (N := some 44) #[true, true, true, true, true, true, true, false, false] rfl rfl (one_of HT_.out (by kernel_rfl)) (by decide) (fun K hK => ?_)
                 refine Kd.R_append_rows_step (Kd.int .u8) (w0 := w) w.heap.size (by rfl) (.tmp 42) (.tmp 43) 33 5 (.int .u8 0) 1 rfl Try.underlying33 info5 rfl (by decide) (by omega) (.slice Ao72 y476.length co72) y476 t479 _ _ _ (fun k_ => some k_ ≠ (.slice Ao69 y473.length co69 : Value).ownBlock ∧ some k_ ≠ (.slice Ao73 t479.length co73 : Value).ownBlock ∧ some k_ ≠ (v487 : Value).ownBlock) (fun _ => False) rfl rfl ?aO ?aR (fun _ _ h => h) (fun _ h => h.elim) ?aF ?aB ?aS ?aL ?_
                 (case aR => repeat (first | exact (Kd.R_reads' HO482.out).2.2 | (with_reducible refine Kd.C_alloc ?_ _) | (with_reducible refine Kd.C_drewN ?_ _) | (with_reducible refine Kd.C_drew ?_)))
                 (case aB => exact (Bl))
                 (case aF => exact (fun k_ hk => ⟨Kd.fresh' (Kd.R_lt (Rw HO475.out)) k_ hk, Kd.fresh' (Kd.R_lt (Rw HO482.out)) k_ hk, Kd.fresh' (Kd.R_lt (Rw HO488.out)) k_ hk⟩))
                 (case aO => exact (by (with_reducible repeat (first | apply Kd.R_alloc | apply Kd.R_drewN | apply Kd.R_drew)); exact Kd.R_mono HO478.out (fun _ hk => ⟨hk.1.1, ⟨hk.1.2, hk.2⟩⟩)))
                 (case aS => exact (below_size (Bl)))
                 (case aL => have := LMc13.out; omega)
                 intro v484 w77 ho hb hg hat
                 rw [← Ny483.out] at ho
                 have n0_ := Aside0.mk (blk_grown (g := gb472) (o := .cells #[.int .i64 ((rd_T54 l0 x23_1).f0), .string ((rd_T54 l0 x23_1).f1), .int .i64 ((rd_T54 l0 x23_1).f2), .int .i64 ((rd_T54 l0 x23_1).f3.f0), .int .i64 ((rd_T54 l0 x23_1).f3.f1), .string ((rd_T54 l0 x23_1).f3.f2), .bool ((rd_T54 l0 x23_1).f3.f3), .complex .f64 ((rd_T54 l0 x23_1).f3.f4).re ((rd_T54 l0 x23_1).f3.f4).im, .int .i64 ((rd_T54 l0 x23_1).f4)] 54 (0, 0)) (Bk BK472.out) hg (Kd.R_ne HO478.out BK472.out (by decide)))
                 have n1_ := Aside0.mk (Kd.R_after (ok := (fun k_ => some k_ ≠ (.slice Ao73 t479.length co73 : Value).ownBlock ∧ some k_ ≠ (v487 : Value).ownBlock)) (by (with_reducible repeat (first | apply Kd.R_alloc | apply Kd.R_drewN | apply Kd.R_drew)); exact Kd.R_mono HO475.out (fun _ hk => ⟨⟨hk.1.2, hk.2⟩, hk.1.1.2⟩)) hg hat)
                 have n2_ := Aside0.mk (Kd.R_after (ok := (fun k_ => some k_ ≠ (.slice Ao69 y473.length co69 : Value).ownBlock ∧ some k_ ≠ (v487 : Value).ownBlock)) (by (with_reducible repeat (first | apply Kd.R_alloc | apply Kd.R_drewN | apply Kd.R_drew)); exact Kd.R_mono HO482.out (fun _ hk => ⟨⟨hk.1.1.2, hk.2⟩, hk.1.2⟩)) hg hat)
                 have n3_ := Aside0.mk (Kd.R_after (ok := (fun k_ => some k_ ≠ (.slice Ao69 y473.length co69 : Value).ownBlock ∧ some k_ ≠ (.slice Ao73 t479.length co73 : Value).ownBlock)) (by (with_reducible repeat (first | apply Kd.R_alloc | apply Kd.R_drewN | apply Kd.R_drew)); exact Kd.R_mono HO488.out (fun _ hk => ⟨⟨hk.1.1.2, hk.2⟩, hk.1.2⟩)) hg hat)
                 have n4_ := Aside0.mk (hb)
                 have n5_ := Aside0.mk (ho)
                 clear BK472
                 clear HO475
                 clear HO482
                 clear HO488
                 clear HB
                 clear HO478
                 have BK472 := n0_
                 have HO475 := n1_
                 have HO482 := n2_
                 have HO488 := n3_
                 have HB := n4_
                 have HO485 := n5_
                 clear n0_ n1_ n2_ n3_ n4_ n5_
                 clear ho hb hg hat
                 refine hK.out _ _ ⟨(blk_cell BK472.out 0).trans rfl, (blk_cell BK472.out 1).trans rfl, (blk_cell BK472.out 2).trans rfl, (blk_cell BK472.out 3).trans rfl, (blk_cell BK472.out 4).trans rfl, (blk_cell BK472.out 5).trans rfl, (blk_cell BK472.out 6).trans rfl, (blk_cell BK472.out 7).trans rfl, (blk_cell BK472.out 8).trans rfl⟩ (fun hHeld => ?_)
                 clear hK K
                 refine norm_ (a' := ?_) ?_ ?_
                 rotate_left
                 ·show Act.put _ (some 44) _ = _
                  simp only [Act.put, List.setIfInBounds_toArray, List.set_cons_zero, List.set_cons_succ, i64_w, i32_w]
                  rfl
                 exact norm_ (by simp only [putAll, Act.put, List.setIfInBounds_toArray, List.set_cons_zero, List.set_cons_succ]) (hCont (v484, v487) _ ⟨hHeld, (by (with_reducible repeat (first | apply Kd.R_alloc | apply Kd.R_drewN | apply Kd.R_drew)); exact Kd.R_mono HO475.out (fun _ hk => ⟨hk.1.1, ⟨hk.2, hk.1.2⟩⟩)), (by (with_reducible repeat (first | apply Kd.R_alloc | apply Kd.R_drewN | apply Kd.R_drew)); exact Kd.R_mono HO482.out (fun _ hk => ⟨hk.1.1, ⟨hk.2, hk.1.2⟩⟩)), (Rw HO485.out), (by (with_reducible repeat (first | apply Kd.R_alloc | apply Kd.R_drewN | apply Kd.R_drew)); exact Kd.R_mono HO488.out (fun _ hk => ⟨hk.1.1, ⟨hk.1.2, hk.2⟩⟩)), (Bk BK472.out), (Bl)⟩)
               rintro ⟨v484, v487⟩ w78 ⟨hS_, h0_, h1_, h2_, h3_, h4_, h5_⟩
               have n0_ : Aside0 (Kd.R (Kd.int .u8) 5 w78 w.heap.size (fun k_ => some k_ ≠ (.slice Ao73 t479.length co73 : Value).ownBlock ∧ some k_ ≠ (v484 : Value).ownBlock ∧ some k_ ≠ (v487 : Value).ownBlock) (.slice Ao69 y473.length co69) y473) := ⟨h0_⟩
               have n1_ : Aside0 (Kd.R (Kd.int .u8) 5 w78 w.heap.size (fun k_ => some k_ ≠ (.slice Ao69 y473.length co69 : Value).ownBlock ∧ some k_ ≠ (v484 : Value).ownBlock ∧ some k_ ≠ (v487 : Value).ownBlock) (.slice Ao73 t479.length co73) t479) := ⟨h1_⟩
               have n2_ : Aside0 (Kd.R (Kd.int .u8) 5 w78 w.heap.size (fun k_ => some k_ ≠ (.slice Ao69 y473.length co69 : Value).ownBlock ∧ some k_ ≠ (.slice Ao73 t479.length co73 : Value).ownBlock ∧ some k_ ≠ (v487 : Value).ownBlock) v484 y483) := ⟨h2_⟩
               have n3_ : Aside0 (Kd.R (Kd.int .u8) 5 w78 w.heap.size (fun k_ => some k_ ≠ (.slice Ao69 y473.length co69 : Value).ownBlock ∧ some k_ ≠ (.slice Ao73 t479.length co73 : Value).ownBlock ∧ some k_ ≠ (v484 : Value).ownBlock) v487 y486) := ⟨h3_⟩
               have n4_ : Aside0 (w78.heap[gb472]? = some (.cells #[.int .i64 ((rd_T54 l0 x23_1).f0), .string ((rd_T54 l0 x23_1).f1), .int .i64 ((rd_T54 l0 x23_1).f2), .int .i64 ((rd_T54 l0 x23_1).f3.f0), .int .i64 ((rd_T54 l0 x23_1).f3.f1), .string ((rd_T54 l0 x23_1).f3.f2), .bool ((rd_T54 l0 x23_1).f3.f3), .complex .f64 ((rd_T54 l0 x23_1).f3.f4).re ((rd_T54 l0 x23_1).f3.f4).im, .int .i64 ((rd_T54 l0 x23_1).f4)] 54 (0, 0))) := ⟨h4_⟩
               have n5_ : Aside0 (Below w.heap.size w w78) := ⟨h5_⟩
               clear HO475
               clear HO478
               clear HO482
               clear BK472
               clear HB
               clear h0_ h1_ h2_ h3_ h4_ h5_
               have HO475 := n0_
               have HO482 := n1_
               have HO485 := n2_
               have HO488 := n3_
               have BK472 := n4_
               have HB := n5_
               clear n0_ n1_ n2_ n3_ n4_ n5_
               have hHeld : w78.cell? ⟨gb472, 0, none⟩ = some (.int .i64 ((rd_T54 l0 x23_1).f0)) ∧ w78.cell? ⟨gb472, 1, none⟩ = some (.string ((rd_T54 l0 x23_1).f1)) ∧ w78.cell? ⟨gb472, 2, none⟩ = some (.int .i64 ((rd_T54 l0 x23_1).f2)) ∧ w78.cell? ⟨gb472, 3, none⟩ = some (.int .i64 ((rd_T54 l0 x23_1).f3.f0)) ∧ w78.cell? ⟨gb472, 4, none⟩ = some (.int .i64 ((rd_T54 l0 x23_1).f3.f1)) ∧ w78.cell? ⟨gb472, 5, none⟩ = some (.string ((rd_T54 l0 x23_1).f3.f2)) ∧ w78.cell? ⟨gb472, 6, none⟩ = some (.bool ((rd_T54 l0 x23_1).f3.f3)) ∧ w78.cell? ⟨gb472, 7, none⟩ = some (.complex .f64 ((rd_T54 l0 x23_1).f3.f4).re ((rd_T54 l0 x23_1).f3.f4).im) ∧ w78.cell? ⟨gb472, 8, none⟩ = some (.int .i64 ((rd_T54 l0 x23_1).f4)) := hS_
               obtain ⟨Ao80, co80, eo80⟩ := Kd.R_slice HO488.out
               (first | subst eo80 | (injection eo80 with f1_ f2_ f3_; have f4_ := f1_.symm; have f5_ := f3_.symm; clear f1_ f2_ f3_; subst f4_; subst f5_))
               refine norm_ (a' := ?_) ?_ ?_
               rotate_left
               ·simp only [putAll, Act.put, List.setIfInBounds_toArray, List.set_cons_zero, List.set_cons_succ]
                rfl
               refine one_ (i := 7) (N := some 49) #[true, true, true, true, true, true, true, true, false] rfl rfl (one_of HT_.out (by kernel_rfl)) (by decide) (fun K hK => ?_)
               refine Kd.R_append_rows_step (Kd.int .u8) (w0 := w) w.heap.size (by rfl) (.tmp 44) (.tmp 48) 33 5 (.int .u8 0) 1 rfl Try.underlying33 info5 rfl (by decide) (by omega) v484 y483 y486 _ _ _ (fun k_ => some k_ ≠ (.slice Ao69 y473.length co69 : Value).ownBlock ∧ some k_ ≠ (.slice Ao73 t479.length co73 : Value).ownBlock ∧ some k_ ≠ (.slice Ao80 y486.length co80 : Value).ownBlock) (fun _ => False) rfl rfl ?aO ?aR (fun _ _ h => h) (fun _ h => h.elim) ?aF ?aB ?aS ?aL ?_
               (case aR => repeat (first | exact (Kd.R_reads' HO488.out).2.2 | (with_reducible refine Kd.C_alloc ?_ _) | (with_reducible refine Kd.C_drewN ?_ _) | (with_reducible refine Kd.C_drew ?_)))
               (case aB => exact (Bl))
               (case aF => exact (fun k_ hk => ⟨Kd.fresh' (Kd.R_lt (Rw HO475.out)) k_ hk, Kd.fresh' (Kd.R_lt (Rw HO482.out)) k_ hk, Kd.fresh' (Kd.R_lt (Rw HO488.out)) k_ hk⟩))
               (case aO => exact (Rw HO485.out))
               (case aS => exact (below_size (Bl)))
               (case aL => have := LMc14.out; omega)
               intro v490 w79 ho hb hg hat
               rw [← Ny489.out] at ho
               have n0_ := Aside0.mk (blk_grown (g := gb472) (o := .cells #[.int .i64 ((rd_T54 l0 x23_1).f0), .string ((rd_T54 l0 x23_1).f1), .int .i64 ((rd_T54 l0 x23_1).f2), .int .i64 ((rd_T54 l0 x23_1).f3.f0), .int .i64 ((rd_T54 l0 x23_1).f3.f1), .string ((rd_T54 l0 x23_1).f3.f2), .bool ((rd_T54 l0 x23_1).f3.f3), .complex .f64 ((rd_T54 l0 x23_1).f3.f4).re ((rd_T54 l0 x23_1).f3.f4).im, .int .i64 ((rd_T54 l0 x23_1).f4)] 54 (0, 0)) (Bk BK472.out) hg (Kd.R_ne HO485.out BK472.out (by decide)))
               have n1_ := Aside0.mk (Kd.R_after (ok := (fun k_ => some k_ ≠ (.slice Ao73 t479.length co73 : Value).ownBlock ∧ some k_ ≠ (.slice Ao80 y486.length co80 : Value).ownBlock)) (by (with_reducible repeat (first | apply Kd.R_alloc | apply Kd.R_drewN | apply Kd.R_drew)); exact Kd.R_mono HO475.out (fun _ hk => ⟨⟨hk.1, hk.2.2⟩, hk.2.1⟩)) hg hat)
               have n2_ := Aside0.mk (Kd.R_after (ok := (fun k_ => some k_ ≠ (.slice Ao69 y473.length co69 : Value).ownBlock ∧ some k_ ≠ (.slice Ao80 y486.length co80 : Value).ownBlock)) (by (with_reducible repeat (first | apply Kd.R_alloc | apply Kd.R_drewN | apply Kd.R_drew)); exact Kd.R_mono HO482.out (fun _ hk => ⟨⟨hk.1, hk.2.2⟩, hk.2.1⟩)) hg hat)
               have n3_ := Aside0.mk (Kd.R_after (ok := (fun k_ => some k_ ≠ (.slice Ao69 y473.length co69 : Value).ownBlock ∧ some k_ ≠ (.slice Ao73 t479.length co73 : Value).ownBlock)) (by (with_reducible repeat (first | apply Kd.R_alloc | apply Kd.R_drewN | apply Kd.R_drew)); exact Kd.R_mono HO488.out (fun _ hk => ⟨⟨hk.1, hk.2.1⟩, hk.2.2⟩)) hg hat)
               have n4_ := Aside0.mk (hb)
               have n5_ := Aside0.mk (ho)
               clear BK472
               clear HO475
               clear HO482
               clear HO488
               clear HB
               clear HO485
               have BK472 := n0_
               have HO475 := n1_
               have HO482 := n2_
               have HO488 := n3_
               have HB := n4_
               have HO491 := n5_
               clear n0_ n1_ n2_ n3_ n4_ n5_
               clear ho hb hg hat
               refine hK.out _ _ ⟨(blk_cell BK472.out 0).trans rfl, (blk_cell BK472.out 1).trans rfl, (blk_cell BK472.out 2).trans rfl, (blk_cell BK472.out 3).trans rfl, (blk_cell BK472.out 4).trans rfl, (blk_cell BK472.out 5).trans rfl, (blk_cell BK472.out 6).trans rfl, (blk_cell BK472.out 7).trans rfl, (blk_cell BK472.out 8).trans rfl⟩ (fun hHeld => ?_)
               clear hK K
               refine norm_ (a' := ?_) ?_ ?_
               rotate_left
               ·show Act.put _ (some 49) _ = _
                simp only [Act.put, List.setIfInBounds_toArray, List.set_cons_zero, List.set_cons_succ, i64_w, i32_w]
                rfl
               refine pure_ (i := 8) (N := some 5) (v := ?_) (a' := ?_) #[true, true, true, true, true, true, true, true, true] rfl rfl (any_of HT_.out (by kernel_rfl)) (fun _ _ _ h => h) (Or.inl ⟨by rfl, ?_⟩) ?_ ?_
               rotate_left
               ·intro w'
                go_simp
                with_reducible rfl
               rotate_left
               ·simp only [Act.put, List.setIfInBounds_toArray, List.set_cons_zero, List.set_cons_succ, i64_w, i32_w]
                rfl
               refine done_ (done_of HT_.out (by kernel_rfl)) ?_
               obtain ⟨_, _, _, _, _, _, _, _, _⟩ := cz9 BK472.out
               obtain ⟨_, _, _, _, _, _, _, _, _⟩ := fz9 BK472.out
               try go_wp2_with (first | ((with_reducible refine gate_callee (f := 31) rfl ?_); refine goesL_ (some 52) rfl rfl Try.func31 (by kernel_rfl) rfl #[.int .i64 ((rd_T54 l0 x23_1).f2)] rfl (Mp) ?_; (with_reducible refine (pred_bare.calls ((rd_T54 l0 x23_1).f2) false _ A15.out).mono ?_); rintro e w' ⟨rfl, ⟨nd, rfl⟩⟩; refine ⟨_, rfl, ?_⟩) | ((with_reducible refine gate_callee (f := 32) rfl ?_); refine goesL_ (some 57) rfl rfl Try.func32 (by kernel_rfl) rfl #[.agg #[.int .i64 ((rd_T54 l0 x23_1).f3.f0), .int .i64 ((rd_T54 l0 x23_1).f3.f1), .string ((rd_T54 l0 x23_1).f3.f2), .bool ((rd_T54 l0 x23_1).f3.f3), .complex .f64 ((rd_T54 l0 x23_1).f3.f4).re ((rd_T54 l0 x23_1).f3.f4).im]] rfl (Mp) ?_; (with_reducible refine (value_Put.calls k1 ((rd_T54 l0 x23_1).f3.f0) ((rd_T54 l0 x23_1).f3.f1) ((rd_T54 l0 x23_1).f3.f2) ((rd_T54 l0 x23_1).f3.f3) ((rd_T54 l0 x23_1).f3.f4) t499 t502 _ A59.out).mono ?_); rintro e w82 ⟨v500, rfl, ho0, hb⟩; refine ⟨_, rfl, ?_⟩; have n0_ := Aside0.mk (Kd.R_elder' (Rw HO475.out) (Kd.R_base ho0) hb); have n1_ := Aside0.mk (Kd.R_elder' (Rw HO482.out) (Kd.R_base ho0) hb); have n2_ := Aside0.mk (Kd.R_elder' (Rw HO488.out) (Kd.R_base ho0) hb); have n3_ := Aside0.mk (Kd.R_elder' (Rw HO491.out) (Kd.R_base ho0) hb); have n4_ := Aside0.mk (Kd.R_lower (Kd.R_new' (Kd.R_new' (Kd.R_new' (Kd.R_new' ho0 (Kd.R_lt (Rw HO475.out))) (Kd.R_lt (Rw HO482.out))) (Kd.R_lt (Rw HO488.out))) (Kd.R_lt (Rw HO491.out))) (below_size (Bl))); have n5_ := Aside0.mk (blk_below (g := gb472) (o := .cells #[.int .i64 ((rd_T54 l0 x23_1).f0), .string ((rd_T54 l0 x23_1).f1), .int .i64 ((rd_T54 l0 x23_1).f2), .int .i64 ((rd_T54 l0 x23_1).f3.f0), .int .i64 ((rd_T54 l0 x23_1).f3.f1), .string ((rd_T54 l0 x23_1).f3.f2), .bool ((rd_T54 l0 x23_1).f3.f3), .complex .f64 ((rd_T54 l0 x23_1).f3.f4).re ((rd_T54 l0 x23_1).f3.f4).im, .int .i64 ((rd_T54 l0 x23_1).f4)] 54 (0, 0)) (Bk BK472.out) hb); have n6_ := Aside0.mk (below_step (Bl) hb); clear HO475; clear HO482; clear HO488; clear HO491; clear BK472; clear HB; have HO475 := n0_; have HO482 := n1_; have HO488 := n2_; have HO491 := n3_; have HO501 := n4_; have BK472 := n5_; have HB := n6_; clear n0_ n1_ n2_ n3_ n4_ n5_ n6_; (try clear hb); (try clear hb2); (try clear hk); (try clear hi); (try clear ho0); obtain ⟨Ao84, co84, eo84⟩ := Kd.R_slice HO501.out; subst eo84) | ((with_reducible refine gate_builtin (b := .append) (xs := #[.tmp 60, .tmp 61]) rfl ?_); at_builtin; refine Kd.R_append_rows (Kd.int .u8) (w0 := w) w.heap.size rfl (.tmp 60) (.tmp 61) 33 5 (.int .u8 0) 1 rfl Try.underlying33 info5 rfl (by decide) (by omega) v490 y489 t499 _ _ _ (fun k_ => some k_ ≠ (.slice Ao69 y473.length co69 : Value).ownBlock ∧ some k_ ≠ (.slice Ao73 t479.length co73 : Value).ownBlock ∧ some k_ ≠ (.slice Ao80 y486.length co80 : Value).ownBlock ∧ some k_ ≠ (.slice Ao84 t499.length co84 : Value).ownBlock) (fun _ => False) rfl rfl ?aO ?aR (fun _ _ h => h) (fun _ h => h.elim) ?aF ?aB ?aS ?aL ?_; (case aR => repeat (first | exact (Kd.R_reads' HO501.out).2.2 | (with_reducible refine Kd.C_alloc ?_ _) | (with_reducible refine Kd.C_drewN ?_ _) | (with_reducible refine Kd.C_drew ?_))); (case aB => exact (Bl)); (case aF => exact (fun k_ hk => ⟨Kd.fresh' (Kd.R_lt (Rw HO475.out)) k_ hk, Kd.fresh' (Kd.R_lt (Rw HO482.out)) k_ hk, Kd.fresh' (Kd.R_lt (Rw HO488.out)) k_ hk, Kd.fresh' (Kd.R_lt (Rw HO501.out)) k_ hk⟩)); (case aO => exact (by (with_reducible repeat (first | apply Kd.R_alloc | apply Kd.R_drewN | apply Kd.R_drew)); exact Kd.R_mono HO491.out (fun _ hk => ⟨hk.1.1, ⟨hk.1.2.1, ⟨hk.1.2.2, hk.2⟩⟩⟩))); (case aS => exact (below_size (Bl))); (case aL => have := LMc60.out; omega); intro v504 w83 ho hb hg hat; rw [← Ny503.out] at ho; have n0_ := Aside0.mk (blk_grown (g := gb472) (o := .cells #[.int .i64 ((rd_T54 l0 x23_1).f0), .string ((rd_T54 l0 x23_1).f1), .int .i64 ((rd_T54 l0 x23_1).f2), .int .i64 ((rd_T54 l0 x23_1).f3.f0), .int .i64 ((rd_T54 l0 x23_1).f3.f1), .string ((rd_T54 l0 x23_1).f3.f2), .bool ((rd_T54 l0 x23_1).f3.f3), .complex .f64 ((rd_T54 l0 x23_1).f3.f4).re ((rd_T54 l0 x23_1).f3.f4).im, .int .i64 ((rd_T54 l0 x23_1).f4)] 54 (0, 0)) (Bk BK472.out) hg (Kd.R_ne HO491.out BK472.out (by decide))); have n1_ := Aside0.mk (Kd.R_after (ok := (fun k_ => some k_ ≠ (.slice Ao73 t479.length co73 : Value).ownBlock ∧ some k_ ≠ (.slice Ao80 y486.length co80 : Value).ownBlock ∧ some k_ ≠ (.slice Ao84 t499.length co84 : Value).ownBlock)) (by (with_reducible repeat (first | apply Kd.R_alloc | apply Kd.R_drewN | apply Kd.R_drew)); exact Kd.R_mono HO475.out (fun _ hk => ⟨⟨hk.1.1.1, ⟨hk.1.1.2, hk.2⟩⟩, hk.1.2⟩)) hg hat); have n2_ := Aside0.mk (Kd.R_after (ok := (fun k_ => some k_ ≠ (.slice Ao69 y473.length co69 : Value).ownBlock ∧ some k_ ≠ (.slice Ao80 y486.length co80 : Value).ownBlock ∧ some k_ ≠ (.slice Ao84 t499.length co84 : Value).ownBlock)) (by (with_reducible repeat (first | apply Kd.R_alloc | apply Kd.R_drewN | apply Kd.R_drew)); exact Kd.R_mono HO482.out (fun _ hk => ⟨⟨hk.1.1.1, ⟨hk.1.1.2, hk.2⟩⟩, hk.1.2⟩)) hg hat); have n3_ := Aside0.mk (Kd.R_after (ok := (fun k_ => some k_ ≠ (.slice Ao69 y473.length co69 : Value).ownBlock ∧ some k_ ≠ (.slice Ao73 t479.length co73 : Value).ownBlock ∧ some k_ ≠ (.slice Ao84 t499.length co84 : Value).ownBlock)) (by (with_reducible repeat (first | apply Kd.R_alloc | apply Kd.R_drewN | apply Kd.R_drew)); exact Kd.R_mono HO488.out (fun _ hk => ⟨⟨hk.1.1.1, ⟨hk.1.1.2, hk.2⟩⟩, hk.1.2⟩)) hg hat); have n4_ := Aside0.mk (Kd.R_after (ok := (fun k_ => some k_ ≠ (.slice Ao69 y473.length co69 : Value).ownBlock ∧ some k_ ≠ (.slice Ao73 t479.length co73 : Value).ownBlock ∧ some k_ ≠ (.slice Ao80 y486.length co80 : Value).ownBlock)) (by (with_reducible repeat (first | apply Kd.R_alloc | apply Kd.R_drewN | apply Kd.R_drew)); exact Kd.R_mono HO501.out (fun _ hk => ⟨⟨hk.1.1.1.2, ⟨hk.1.1.2, hk.1.2⟩⟩, hk.2⟩)) hg hat); have n5_ := Aside0.mk (hb); have n6_ := Aside0.mk (ho); clear BK472; clear HO475; clear HO482; clear HO488; clear HO501; clear HB; clear HO491; have BK472 := n0_; have HO475 := n1_; have HO482 := n2_; have HO488 := n3_; have HO501 := n4_; have HB := n5_; have HO505 := n6_; clear n0_ n1_ n2_ n3_ n4_ n5_ n6_; clear ho hb hg hat; obtain ⟨_, _, _, _, _, _, _, _, _⟩ := cz9 BK472.out; obtain ⟨_, _, _, _, _, _, _, _, _⟩ := fz9 BK472.out) | ((with_reducible refine gate_callee (f := 29) rfl ?_); refine goesL_ (some 70) rfl rfl Try.func29 (by kernel_rfl) rfl #[.int .u64 (IntKind.u64.wrap ((rd_T54 l0 x23_1).f4))] rfl (Mp) ?_; (with_reducible refine (octet_Uint.calls k1 (IntKind.u64.wrap ((rd_T54 l0 x23_1).f4)) t506 _ A62.out).mono ?_); rintro e w86 ⟨v507, rfl, ho0, hb⟩; refine ⟨_, rfl, ?_⟩; have n0_ := Aside0.mk (Kd.R_elder' (Rw HO475.out) (Kd.R_base ho0) hb); have n1_ := Aside0.mk (Kd.R_elder' (Rw HO482.out) (Kd.R_base ho0) hb); have n2_ := Aside0.mk (Kd.R_elder' (Rw HO488.out) (Kd.R_base ho0) hb); have n3_ := Aside0.mk (Kd.R_elder' (Rw HO501.out) (Kd.R_base ho0) hb); have n4_ := Aside0.mk (Kd.R_elder' (Rw HO505.out) (Kd.R_base ho0) hb); have n5_ := Aside0.mk (Kd.R_lower (Kd.R_new' (Kd.R_new' (Kd.R_new' (Kd.R_new' (Kd.R_new' ho0 (Kd.R_lt (Rw HO475.out))) (Kd.R_lt (Rw HO482.out))) (Kd.R_lt (Rw HO488.out))) (Kd.R_lt (Rw HO501.out))) (Kd.R_lt (Rw HO505.out))) (below_size (Bl))); have n6_ := Aside0.mk (blk_below (g := gb472) (o := .cells #[.int .i64 ((rd_T54 l0 x23_1).f0), .string ((rd_T54 l0 x23_1).f1), .int .i64 ((rd_T54 l0 x23_1).f2), .int .i64 ((rd_T54 l0 x23_1).f3.f0), .int .i64 ((rd_T54 l0 x23_1).f3.f1), .string ((rd_T54 l0 x23_1).f3.f2), .bool ((rd_T54 l0 x23_1).f3.f3), .complex .f64 ((rd_T54 l0 x23_1).f3.f4).re ((rd_T54 l0 x23_1).f3.f4).im, .int .i64 ((rd_T54 l0 x23_1).f4)] 54 (0, 0)) (Bk BK472.out) hb); have n7_ := Aside0.mk (below_step (Bl) hb); clear HO475; clear HO482; clear HO488; clear HO501; clear HO505; clear BK472; clear HB; have HO475 := n0_; have HO482 := n1_; have HO488 := n2_; have HO501 := n3_; have HO505 := n4_; have HO508 := n5_; have BK472 := n6_; have HB := n7_; clear n0_ n1_ n2_ n3_ n4_ n5_ n6_ n7_; (try clear hb); (try clear hb2); (try clear hk); (try clear hi); (try clear ho0); obtain ⟨Ao88, co88, eo88⟩ := Kd.R_slice HO508.out; subst eo88) | ((with_reducible refine gate_builtin (b := .append) (xs := #[.tmp 66, .tmp 70]) rfl ?_); at_builtin; refine Kd.R_append_rows (Kd.int .u8) (w0 := w) w.heap.size rfl (.tmp 66) (.tmp 70) 33 5 (.int .u8 0) 1 rfl Try.underlying33 info5 rfl (by decide) (by omega) v504 y503 t506 _ _ _ (fun k_ => some k_ ≠ (.slice Ao69 y473.length co69 : Value).ownBlock ∧ some k_ ≠ (.slice Ao73 t479.length co73 : Value).ownBlock ∧ some k_ ≠ (.slice Ao80 y486.length co80 : Value).ownBlock ∧ some k_ ≠ (.slice Ao84 t499.length co84 : Value).ownBlock ∧ some k_ ≠ (.slice Ao88 t506.length co88 : Value).ownBlock) (fun _ => False) rfl rfl ?aO ?aR (fun _ _ h => h) (fun _ h => h.elim) ?aF ?aB ?aS ?aL ?_; (case aR => repeat (first | exact (Kd.R_reads' HO508.out).2.2 | (with_reducible refine Kd.C_alloc ?_ _) | (with_reducible refine Kd.C_drewN ?_ _) | (with_reducible refine Kd.C_drew ?_))); (case aB => exact (Bl)); (case aF => exact (fun k_ hk => ⟨Kd.fresh' (Kd.R_lt (Rw HO475.out)) k_ hk, Kd.fresh' (Kd.R_lt (Rw HO482.out)) k_ hk, Kd.fresh' (Kd.R_lt (Rw HO488.out)) k_ hk, Kd.fresh' (Kd.R_lt (Rw HO501.out)) k_ hk, Kd.fresh' (Kd.R_lt (Rw HO508.out)) k_ hk⟩)); (case aO => exact (by (with_reducible repeat (first | apply Kd.R_alloc | apply Kd.R_drewN | apply Kd.R_drew)); exact Kd.R_mono HO505.out (fun _ hk => ⟨hk.1.1, ⟨hk.1.2.1, ⟨hk.1.2.2.1, ⟨hk.1.2.2.2, hk.2⟩⟩⟩⟩))); (case aS => exact (below_size (Bl))); (case aL => have := LMc63.out; omega); intro v510 w87 ho hb hg hat; rw [← Ny509.out] at ho; have n0_ := Aside0.mk (blk_grown (g := gb472) (o := .cells #[.int .i64 ((rd_T54 l0 x23_1).f0), .string ((rd_T54 l0 x23_1).f1), .int .i64 ((rd_T54 l0 x23_1).f2), .int .i64 ((rd_T54 l0 x23_1).f3.f0), .int .i64 ((rd_T54 l0 x23_1).f3.f1), .string ((rd_T54 l0 x23_1).f3.f2), .bool ((rd_T54 l0 x23_1).f3.f3), .complex .f64 ((rd_T54 l0 x23_1).f3.f4).re ((rd_T54 l0 x23_1).f3.f4).im, .int .i64 ((rd_T54 l0 x23_1).f4)] 54 (0, 0)) (Bk BK472.out) hg (Kd.R_ne HO505.out BK472.out (by decide))); have n1_ := Aside0.mk (Kd.R_after (ok := (fun k_ => some k_ ≠ (.slice Ao73 t479.length co73 : Value).ownBlock ∧ some k_ ≠ (.slice Ao80 y486.length co80 : Value).ownBlock ∧ some k_ ≠ (.slice Ao84 t499.length co84 : Value).ownBlock ∧ some k_ ≠ (.slice Ao88 t506.length co88 : Value).ownBlock)) (by (with_reducible repeat (first | apply Kd.R_alloc | apply Kd.R_drewN | apply Kd.R_drew)); exact Kd.R_mono HO475.out (fun _ hk => ⟨⟨hk.1.1.1, ⟨hk.1.1.2.1, ⟨hk.1.1.2.2, hk.2⟩⟩⟩, hk.1.2⟩)) hg hat); have n2_ := Aside0.mk (Kd.R_after (ok := (fun k_ => some k_ ≠ (.slice Ao69 y473.length co69 : Value).ownBlock ∧ some k_ ≠ (.slice Ao80 y486.length co80 : Value).ownBlock ∧ some k_ ≠ (.slice Ao84 t499.length co84 : Value).ownBlock ∧ some k_ ≠ (.slice Ao88 t506.length co88 : Value).ownBlock)) (by (with_reducible repeat (first | apply Kd.R_alloc | apply Kd.R_drewN | apply Kd.R_drew)); exact Kd.R_mono HO482.out (fun _ hk => ⟨⟨hk.1.1.1, ⟨hk.1.1.2.1, ⟨hk.1.1.2.2, hk.2⟩⟩⟩, hk.1.2⟩)) hg hat); have n3_ := Aside0.mk (Kd.R_after (ok := (fun k_ => some k_ ≠ (.slice Ao69 y473.length co69 : Value).ownBlock ∧ some k_ ≠ (.slice Ao73 t479.length co73 : Value).ownBlock ∧ some k_ ≠ (.slice Ao84 t499.length co84 : Value).ownBlock ∧ some k_ ≠ (.slice Ao88 t506.length co88 : Value).ownBlock)) (by (with_reducible repeat (first | apply Kd.R_alloc | apply Kd.R_drewN | apply Kd.R_drew)); exact Kd.R_mono HO488.out (fun _ hk => ⟨⟨hk.1.1.1, ⟨hk.1.1.2.1, ⟨hk.1.1.2.2, hk.2⟩⟩⟩, hk.1.2⟩)) hg hat); have n4_ := Aside0.mk (Kd.R_after (ok := (fun k_ => some k_ ≠ (.slice Ao69 y473.length co69 : Value).ownBlock ∧ some k_ ≠ (.slice Ao73 t479.length co73 : Value).ownBlock ∧ some k_ ≠ (.slice Ao80 y486.length co80 : Value).ownBlock ∧ some k_ ≠ (.slice Ao88 t506.length co88 : Value).ownBlock)) (by (with_reducible repeat (first | apply Kd.R_alloc | apply Kd.R_drewN | apply Kd.R_drew)); exact Kd.R_mono HO501.out (fun _ hk => ⟨⟨hk.1.1.1, ⟨hk.1.1.2.1, ⟨hk.1.1.2.2, hk.2⟩⟩⟩, hk.1.2⟩)) hg hat); have n5_ := Aside0.mk (Kd.R_after (ok := (fun k_ => some k_ ≠ (.slice Ao69 y473.length co69 : Value).ownBlock ∧ some k_ ≠ (.slice Ao73 t479.length co73 : Value).ownBlock ∧ some k_ ≠ (.slice Ao80 y486.length co80 : Value).ownBlock ∧ some k_ ≠ (.slice Ao84 t499.length co84 : Value).ownBlock)) (by (with_reducible repeat (first | apply Kd.R_alloc | apply Kd.R_drewN | apply Kd.R_drew)); exact Kd.R_mono HO508.out (fun _ hk => ⟨⟨hk.1.1.1.1.2, ⟨hk.1.1.1.2, ⟨hk.1.1.2, hk.1.2⟩⟩⟩, hk.2⟩)) hg hat); have n6_ := Aside0.mk (hb); have n7_ := Aside0.mk (ho); clear BK472; clear HO475; clear HO482; clear HO488; clear HO501; clear HO508; clear HB; clear HO505; have BK472 := n0_; have HO475 := n1_; have HO482 := n2_; have HO488 := n3_; have HO501 := n4_; have HO508 := n5_; have HB := n6_; have HO511 := n7_; clear n0_ n1_ n2_ n3_ n4_ n5_ n6_ n7_; clear ho hb hg hat))
               go_roundg k1
               case measure => have := HK1.out; omega
               case rel => exact ⟨(y509), (wrap64 (x23_1 + 1)), (by first | rfl | (simp; done) | (simp [*]; done)), H', ⟨by have := HK1.out; omega⟩, ⟨by (with_reducible repeat (first | apply Kd.R_alloc | apply Kd.R_drewN | apply Kd.R_drew)); exact Kd.R_mono HO511.out (fun _ hk => trivial)⟩, ⟨Bl⟩⟩
              ·rw [if_neg c63] at H
               exact absurd H (by simp)
             ·rw [if_neg c61] at H
              have c61b0 : (((rd_T54 l0 x23_1).f2) == 10) = false := beq_eq_false_iff_ne.mpr c61
              have c61b1 : (((rd_T54 l0 x23_1).f2) != 10) = true := bne_iff_ne.mpr c61
              have H' := Aside0.mk H
              clear H
              have p471 : 0 ≤ (x23_1 : Int) := of_decide_eq_true (As)
              have q471 : x23_1 < (l0.length : Int) := of_decide_eq_true (As)
              obtain ⟨ad471, e471, hx471_0, hx471_1, hx471_2, hx471_3, hx471_4, hx471_5, hx471_6, hx471_7, hx471_8⟩ := at_T54 HR0.out x23_1 p471 q471
              cases e471
              replace hx471_0 := (HB.out.cell (World.block_lt_of_cell? w _ hx471_0)).trans hx471_0
              replace hx471_1 := (HB.out.cell (World.block_lt_of_cell? w _ hx471_1)).trans hx471_1
              replace hx471_2 := (HB.out.cell (World.block_lt_of_cell? w _ hx471_2)).trans hx471_2
              replace hx471_3 := (HB.out.cell (World.block_lt_of_cell? w _ hx471_3)).trans hx471_3
              replace hx471_4 := (HB.out.cell (World.block_lt_of_cell? w _ hx471_4)).trans hx471_4
              replace hx471_5 := (HB.out.cell (World.block_lt_of_cell? w _ hx471_5)).trans hx471_5
              replace hx471_6 := (HB.out.cell (World.block_lt_of_cell? w _ hx471_6)).trans hx471_6
              replace hx471_7 := (HB.out.cell (World.block_lt_of_cell? w _ hx471_7)).trans hx471_7
              replace hx471_8 := (HB.out.cell (World.block_lt_of_cell? w _ hx471_8)).trans hx471_8
              replace p471 := eq_true p471
              replace q471 := eq_true q471
              try go_wp2_with (first | ((with_reducible refine gate_dst (N := 7) rfl ?_); refine box_event ?hg (N := 7) ?hd (cs := #[.int .i64 0, .string (⟨#[]⟩ : ByteArray), .int .i64 0, .int .i64 0, .int .i64 0, .string (⟨#[]⟩ : ByteArray), .bool false, .complex .f64 0 0, .int .i64 0]) (t := 54) ?hr ?_; (case hd => rfl); (case hg => rfl); (case hr => first | (go_simp; done) | (go_simp; rfl)); intro gb472 hg w89 hbox hb; have n0_ := Aside0.mk (Kd.R_below (Rw HO_5.out) hb); have n1_ := Aside0.mk (below_step (Bl) hb); have n2_ := Aside0.mk (hbox); have n3_ := Aside0.mk ((by rw [hg]; exact (below_size (Bl)) : w.heap.size ≤ gb472)); have n4_ := Aside0.mk ((by rw [hg]; exact (below_size (Bl)) : w.heap.size ≤ gb472)); clear HO_5; clear HB; have HO_5 := n0_; have HB := n1_; have BK472 := n2_; have GW472 := n3_; have GE472 := n4_; clear n0_ n1_ n2_ n3_ n4_; clear hb hbox hg; obtain ⟨_, _, _, _, _, _, _, _, _⟩ := cz9 BK472.out; obtain ⟨_, _, _, _, _, _, _, _, _⟩ := fz9 BK472.out) | ((with_reducible refine gate_dst (N := 31) rfl ?_); refine Kd.R_lit (Kd.int .u8) _ 5 ?hg (N := 31) ?hd (xs := ([((rd_T54 l0 x23_1).f0) % 256] : List Int)) (inner := [.int .u8 (((rd_T54 l0 x23_1).f0) % 256)]) (ok := fun _ => True) (okp := fun _ => True) ?hr ?hp (fun _ hk => hk) trivial (Below.refl _ _) (Nat.le_refl _) (by simp) ?_; (case hd => rfl); (case hg => rfl); (case hr => first | (go_simp; done) | (go_simp; rfl)); (case hp => exact (Reps.one (show Kd.M (Kd.int .u8) _ _ _ (((rd_T54 l0 x23_1).f0) % 256) [.int .u8 (((rd_T54 l0 x23_1).f0) % 256)] from rfl) (Reps.none _ _))); intro v474 w91 ho92 hb hg_ hnew_; clear hg_ hnew_; (first | rw [← Ny473.out] at ho92 | (simp only [Int.reduceToNat] at ho92; rw [← Ny473.out] at ho92)); have n0_ := Aside0.mk (Kd.R_elder' (by (with_reducible repeat (first | apply Kd.R_alloc | apply Kd.R_drewN | apply Kd.R_drew)); exact (Kd.R_mono (Kd.R_far (p := ⟨gb472, 8, none⟩) (Kd.R_far (p := ⟨gb472, 7, none⟩) (Kd.R_far (p := ⟨gb472, 6, none⟩) (Kd.R_far (p := ⟨gb472, 5, none⟩) (Kd.R_far (p := ⟨gb472, 4, none⟩) (Kd.R_far (p := ⟨gb472, 3, none⟩) (Kd.R_far (p := ⟨gb472, 2, none⟩) (Kd.R_far (p := ⟨gb472, 1, none⟩) (Kd.R_far (p := ⟨gb472, 0, none⟩) (Kd.R_types HO_5.out BK472.out (by decide)) (fun _ hk => hk.2) (.int .i64 ((rd_T54 l0 x23_1).f0))) (fun _ hk => hk.2) (.string ((rd_T54 l0 x23_1).f1))) (fun _ hk => hk.2) (.int .i64 ((rd_T54 l0 x23_1).f2))) (fun _ hk => hk.2) (.int .i64 ((rd_T54 l0 x23_1).f3.f0))) (fun _ hk => hk.2) (.int .i64 ((rd_T54 l0 x23_1).f3.f1))) (fun _ hk => hk.2) (.string ((rd_T54 l0 x23_1).f3.f2))) (fun _ hk => hk.2) (.bool ((rd_T54 l0 x23_1).f3.f3))) (fun _ hk => hk.2) (.complex .f64 ((rd_T54 l0 x23_1).f3.f4).re ((rd_T54 l0 x23_1).f3.f4).im)) (fun _ hk => hk.2) (.int .i64 ((rd_T54 l0 x23_1).f4))) (fun _ h_ => h_.1))) (Kd.R_base ho92) hb); have n1_ := Aside0.mk (Kd.R_lower (Kd.R_new' ho92 (Kd.R_lt (by (with_reducible repeat (first | apply Kd.R_alloc | apply Kd.R_drewN | apply Kd.R_drew)); exact (Kd.R_mono (Kd.R_far (p := ⟨gb472, 8, none⟩) (Kd.R_far (p := ⟨gb472, 7, none⟩) (Kd.R_far (p := ⟨gb472, 6, none⟩) (Kd.R_far (p := ⟨gb472, 5, none⟩) (Kd.R_far (p := ⟨gb472, 4, none⟩) (Kd.R_far (p := ⟨gb472, 3, none⟩) (Kd.R_far (p := ⟨gb472, 2, none⟩) (Kd.R_far (p := ⟨gb472, 1, none⟩) (Kd.R_far (p := ⟨gb472, 0, none⟩) (Kd.R_types HO_5.out BK472.out (by decide)) (fun _ hk => hk.2) (.int .i64 ((rd_T54 l0 x23_1).f0))) (fun _ hk => hk.2) (.string ((rd_T54 l0 x23_1).f1))) (fun _ hk => hk.2) (.int .i64 ((rd_T54 l0 x23_1).f2))) (fun _ hk => hk.2) (.int .i64 ((rd_T54 l0 x23_1).f3.f0))) (fun _ hk => hk.2) (.int .i64 ((rd_T54 l0 x23_1).f3.f1))) (fun _ hk => hk.2) (.string ((rd_T54 l0 x23_1).f3.f2))) (fun _ hk => hk.2) (.bool ((rd_T54 l0 x23_1).f3.f3))) (fun _ hk => hk.2) (.complex .f64 ((rd_T54 l0 x23_1).f3.f4).re ((rd_T54 l0 x23_1).f3.f4).im)) (fun _ hk => hk.2) (.int .i64 ((rd_T54 l0 x23_1).f4))) (fun _ h_ => h_.1))))) (below_size (Bl))); have n2_ := Aside0.mk (blk_below (g := gb472) (o := .cells #[.int .i64 ((rd_T54 l0 x23_1).f0), .string ((rd_T54 l0 x23_1).f1), .int .i64 ((rd_T54 l0 x23_1).f2), .int .i64 ((rd_T54 l0 x23_1).f3.f0), .int .i64 ((rd_T54 l0 x23_1).f3.f1), .string ((rd_T54 l0 x23_1).f3.f2), .bool ((rd_T54 l0 x23_1).f3.f3), .complex .f64 ((rd_T54 l0 x23_1).f3.f4).re ((rd_T54 l0 x23_1).f3.f4).im, .int .i64 ((rd_T54 l0 x23_1).f4)] 54 (0, 0)) (by (with_reducible repeat (first | refine blk_drewN ?_ _ | refine blk_drew ?_ | refine blk_alloc ?_ _)); refine blk_put (cs := #[.int .i64 ((rd_T54 l0 x23_1).f0), .string ((rd_T54 l0 x23_1).f1), .int .i64 ((rd_T54 l0 x23_1).f2), .int .i64 ((rd_T54 l0 x23_1).f3.f0), .int .i64 ((rd_T54 l0 x23_1).f3.f1), .string ((rd_T54 l0 x23_1).f3.f2), .bool ((rd_T54 l0 x23_1).f3.f3), .complex .f64 ((rd_T54 l0 x23_1).f3.f4).re ((rd_T54 l0 x23_1).f3.f4).im, .int .i64 0]) ?_ 8 _ rfl; (with_reducible repeat (first | refine blk_drewN ?_ _ | refine blk_drew ?_ | refine blk_alloc ?_ _)); refine blk_put (cs := #[.int .i64 ((rd_T54 l0 x23_1).f0), .string ((rd_T54 l0 x23_1).f1), .int .i64 ((rd_T54 l0 x23_1).f2), .int .i64 ((rd_T54 l0 x23_1).f3.f0), .int .i64 ((rd_T54 l0 x23_1).f3.f1), .string ((rd_T54 l0 x23_1).f3.f2), .bool ((rd_T54 l0 x23_1).f3.f3), .complex .f64 0 0, .int .i64 0]) ?_ 7 _ rfl; (with_reducible repeat (first | refine blk_drewN ?_ _ | refine blk_drew ?_ | refine blk_alloc ?_ _)); refine blk_put (cs := #[.int .i64 ((rd_T54 l0 x23_1).f0), .string ((rd_T54 l0 x23_1).f1), .int .i64 ((rd_T54 l0 x23_1).f2), .int .i64 ((rd_T54 l0 x23_1).f3.f0), .int .i64 ((rd_T54 l0 x23_1).f3.f1), .string ((rd_T54 l0 x23_1).f3.f2), .bool false, .complex .f64 0 0, .int .i64 0]) ?_ 6 _ rfl; (with_reducible repeat (first | refine blk_drewN ?_ _ | refine blk_drew ?_ | refine blk_alloc ?_ _)); refine blk_put (cs := #[.int .i64 ((rd_T54 l0 x23_1).f0), .string ((rd_T54 l0 x23_1).f1), .int .i64 ((rd_T54 l0 x23_1).f2), .int .i64 ((rd_T54 l0 x23_1).f3.f0), .int .i64 ((rd_T54 l0 x23_1).f3.f1), .string (⟨#[]⟩ : ByteArray), .bool false, .complex .f64 0 0, .int .i64 0]) ?_ 5 _ rfl; (with_reducible repeat (first | refine blk_drewN ?_ _ | refine blk_drew ?_ | refine blk_alloc ?_ _)); refine blk_put (cs := #[.int .i64 ((rd_T54 l0 x23_1).f0), .string ((rd_T54 l0 x23_1).f1), .int .i64 ((rd_T54 l0 x23_1).f2), .int .i64 ((rd_T54 l0 x23_1).f3.f0), .int .i64 0, .string (⟨#[]⟩ : ByteArray), .bool false, .complex .f64 0 0, .int .i64 0]) ?_ 4 _ rfl; (with_reducible repeat (first | refine blk_drewN ?_ _ | refine blk_drew ?_ | refine blk_alloc ?_ _)); refine blk_put (cs := #[.int .i64 ((rd_T54 l0 x23_1).f0), .string ((rd_T54 l0 x23_1).f1), .int .i64 ((rd_T54 l0 x23_1).f2), .int .i64 0, .int .i64 0, .string (⟨#[]⟩ : ByteArray), .bool false, .complex .f64 0 0, .int .i64 0]) ?_ 3 _ rfl; (with_reducible repeat (first | refine blk_drewN ?_ _ | refine blk_drew ?_ | refine blk_alloc ?_ _)); refine blk_put (cs := #[.int .i64 ((rd_T54 l0 x23_1).f0), .string ((rd_T54 l0 x23_1).f1), .int .i64 0, .int .i64 0, .int .i64 0, .string (⟨#[]⟩ : ByteArray), .bool false, .complex .f64 0 0, .int .i64 0]) ?_ 2 _ rfl; (with_reducible repeat (first | refine blk_drewN ?_ _ | refine blk_drew ?_ | refine blk_alloc ?_ _)); refine blk_put (cs := #[.int .i64 ((rd_T54 l0 x23_1).f0), .string (⟨#[]⟩ : ByteArray), .int .i64 0, .int .i64 0, .int .i64 0, .string (⟨#[]⟩ : ByteArray), .bool false, .complex .f64 0 0, .int .i64 0]) ?_ 1 _ rfl; (with_reducible repeat (first | refine blk_drewN ?_ _ | refine blk_drew ?_ | refine blk_alloc ?_ _)); refine blk_put (cs := #[.int .i64 0, .string (⟨#[]⟩ : ByteArray), .int .i64 0, .int .i64 0, .int .i64 0, .string (⟨#[]⟩ : ByteArray), .bool false, .complex .f64 0 0, .int .i64 0]) ?_ 0 _ rfl; (with_reducible repeat (first | refine blk_drewN ?_ _ | refine blk_drew ?_ | refine blk_alloc ?_ _)); exact BK472.out) hb); have n3_ := Aside0.mk (below_step (Bl) hb); clear HO_5; clear BK472; clear HB; have HO_5 := n0_; have HO475 := n1_; have BK472 := n2_; have HB := n3_; clear n0_ n1_ n2_ n3_; clear hb ho92; obtain ⟨Ao94, co94, eo94⟩ := Kd.R_slice HO475.out; subst eo94) | ((with_reducible refine gate_builtin (b := .append) (xs := #[.tmp 27, .tmp 31]) rfl ?_); at_builtin; refine Kd.R_append_rows (Kd.int .u8) (w0 := w) w.heap.size rfl (.tmp 27) (.tmp 31) 33 5 (.int .u8 0) 1 rfl Try.underlying33 info5 rfl (by decide) (by omega) u5 x5_1 y473 _ _ _ (fun k_ => some k_ ≠ (.slice Ao94 y473.length co94 : Value).ownBlock) (fun _ => False) rfl rfl ?aO ?aR (fun _ _ h => h) (fun _ h => h.elim) ?aF ?aB ?aS ?aL ?_; (case aR => repeat (first | exact (Kd.R_reads' HO475.out).2.2 | (with_reducible refine Kd.C_alloc ?_ _) | (with_reducible refine Kd.C_drewN ?_ _) | (with_reducible refine Kd.C_drew ?_))); (case aB => exact (Bl)); (case aF => exact (fun k_ hk => Kd.fresh' (Kd.R_lt (Rw HO475.out)) k_ hk)); (case aO => exact (by (with_reducible repeat (first | apply Kd.R_alloc | apply Kd.R_drewN | apply Kd.R_drew)); exact Kd.R_mono HO_5.out (fun _ hk => hk.2))); (case aS => exact (below_size (Bl))); (case aL => have := LMc10.out; omega); intro v477 w93 ho hb hg hat; rw [← Ny476.out] at ho; have n0_ := Aside0.mk (blk_grown (g := gb472) (o := .cells #[.int .i64 ((rd_T54 l0 x23_1).f0), .string ((rd_T54 l0 x23_1).f1), .int .i64 ((rd_T54 l0 x23_1).f2), .int .i64 ((rd_T54 l0 x23_1).f3.f0), .int .i64 ((rd_T54 l0 x23_1).f3.f1), .string ((rd_T54 l0 x23_1).f3.f2), .bool ((rd_T54 l0 x23_1).f3.f3), .complex .f64 ((rd_T54 l0 x23_1).f3.f4).re ((rd_T54 l0 x23_1).f3.f4).im, .int .i64 ((rd_T54 l0 x23_1).f4)] 54 (0, 0)) (Bk BK472.out) hg (Kd.R_ne HO_5.out BK472.out (by decide))); have n1_ := Aside0.mk (Kd.R_after (ok := (fun _ => True)) (Rw HO475.out) hg hat); have n2_ := Aside0.mk (hb); have n3_ := Aside0.mk (ho); clear BK472; clear HO475; clear HB; clear HO_5; have BK472 := n0_; have HO475 := n1_; have HB := n2_; have HO478 := n3_; clear n0_ n1_ n2_ n3_; clear ho hb hg hat; obtain ⟨_, _, _, _, _, _, _, _, _⟩ := cz9 BK472.out; obtain ⟨_, _, _, _, _, _, _, _, _⟩ := fz9 BK472.out) | ((with_reducible refine gate_callee (f := 30) rfl ?_); refine goesL_ (some 39) rfl rfl Try.func30 (by kernel_rfl) rfl #[.string ((rd_T54 l0 x23_1).f1)] rfl (Mp) ?_; (with_reducible refine (octet_Text.calls k1 ((rd_T54 l0 x23_1).f1) t479 t480 _ A12.out).mono ?_); rintro e w96 ⟨v481, rfl, ho0, hb⟩; refine ⟨_, rfl, ?_⟩; have n0_ := Aside0.mk (Kd.R_elder' (Rw HO475.out) (Kd.R_base ho0) hb); have n1_ := Aside0.mk (Kd.R_elder' (Rw HO478.out) (Kd.R_base ho0) hb); have n2_ := Aside0.mk (Kd.R_lower (Kd.R_new' (Kd.R_new' ho0 (Kd.R_lt (Rw HO475.out))) (Kd.R_lt (Rw HO478.out))) (below_size (Bl))); have n3_ := Aside0.mk (blk_below (g := gb472) (o := .cells #[.int .i64 ((rd_T54 l0 x23_1).f0), .string ((rd_T54 l0 x23_1).f1), .int .i64 ((rd_T54 l0 x23_1).f2), .int .i64 ((rd_T54 l0 x23_1).f3.f0), .int .i64 ((rd_T54 l0 x23_1).f3.f1), .string ((rd_T54 l0 x23_1).f3.f2), .bool ((rd_T54 l0 x23_1).f3.f3), .complex .f64 ((rd_T54 l0 x23_1).f3.f4).re ((rd_T54 l0 x23_1).f3.f4).im, .int .i64 ((rd_T54 l0 x23_1).f4)] 54 (0, 0)) (Bk BK472.out) hb); have n4_ := Aside0.mk (below_step (Bl) hb); clear HO475; clear HO478; clear BK472; clear HB; have HO475 := n0_; have HO478 := n1_; have HO482 := n2_; have BK472 := n3_; have HB := n4_; clear n0_ n1_ n2_ n3_ n4_; (try clear hb); (try clear hb2); (try clear hk); (try clear hi); (try clear ho0); obtain ⟨Ao97, co97, eo97⟩ := Kd.R_slice HO478.out; subst eo97; obtain ⟨Ao98, co98, eo98⟩ := Kd.R_slice HO482.out; subst eo98))
              have n0_ := Aside0.mk (Kd.R_drew HO475.out)
              have n1_ := Aside0.mk (Kd.R_drew HO478.out)
              have n2_ := Aside0.mk (Kd.R_drew HO482.out)
              have n3_ := Aside0.mk (blk_drew BK472.out)
              have n4_ := Aside0.mk (below_drew1 HB.out)
              clear HO475
              clear HO478
              clear HO482
              clear BK472
              clear HB
              have HO475 := n0_
              have HO478 := n1_
              have HO482 := n2_
              have BK472 := n3_
              have HB := n4_
              clear n0_ n1_ n2_ n3_ n4_
              refine start_ (n := 9) (S := fun w' => w'.cell? ⟨gb472, 0, none⟩ = some (.int .i64 ((rd_T54 l0 x23_1).f0)) ∧ w'.cell? ⟨gb472, 1, none⟩ = some (.string ((rd_T54 l0 x23_1).f1)) ∧ w'.cell? ⟨gb472, 2, none⟩ = some (.int .i64 ((rd_T54 l0 x23_1).f2)) ∧ w'.cell? ⟨gb472, 3, none⟩ = some (.int .i64 ((rd_T54 l0 x23_1).f3.f0)) ∧ w'.cell? ⟨gb472, 4, none⟩ = some (.int .i64 ((rd_T54 l0 x23_1).f3.f1)) ∧ w'.cell? ⟨gb472, 5, none⟩ = some (.string ((rd_T54 l0 x23_1).f3.f2)) ∧ w'.cell? ⟨gb472, 6, none⟩ = some (.bool ((rd_T54 l0 x23_1).f3.f3)) ∧ w'.cell? ⟨gb472, 7, none⟩ = some (.complex .f64 ((rd_T54 l0 x23_1).f3.f4).re ((rd_T54 l0 x23_1).f3.f4).im) ∧ w'.cell? ⟨gb472, 8, none⟩ = some (.int .i64 ((rd_T54 l0 x23_1).f4))) (ds := []) #[false, false, false, false, false, false, false, false, false] (by kernel_rfl) rfl rfl ⟨(blk_cell BK472.out 0).trans rfl, (blk_cell BK472.out 1).trans rfl, (blk_cell BK472.out 2).trans rfl, (blk_cell BK472.out 3).trans rfl, (blk_cell BK472.out 4).trans rfl, (blk_cell BK472.out 5).trans rfl, (blk_cell BK472.out 6).trans rfl, (blk_cell BK472.out 7).trans rfl, (blk_cell BK472.out 8).trans rfl⟩ (fun hHeld => ?_); refine with_tabW pred_Put.tab11 pred_Put.bits11 (fun HT_ HW_ => ?_)
              generalize w96.drew = w99 at HO475 HO478 HO482 BK472 HB hHeld ⊢
              refine pure_ (i := 0) (N := some 42) (v := ?_) (a' := ?_) #[true, false, false, false, false, false, false, false, false] rfl rfl (any_of HT_.out (by kernel_rfl)) (fun _ _ _ h => h) (Or.inl ⟨by rfl, ?_⟩) ?_ ?_
              rotate_left
              ·intro w'
               go_simp
               with_reducible rfl
              rotate_left
              ·simp only [Act.put, List.setIfInBounds_toArray, List.set_cons_zero, List.set_cons_succ, i64_w, i32_w]
               rfl
              refine pure_ (i := 1) (N := some 43) (v := ?_) (a' := ?_) #[true, true, false, false, false, false, false, false, false] rfl rfl (any_of HT_.out (by kernel_rfl)) (fun _ _ _ h => h) (Or.inl ⟨by rfl, ?_⟩) ?_ ?_
              rotate_left
              ·intro w'
               go_simp
               with_reducible rfl
              rotate_left
              ·simp only [Act.put, List.setIfInBounds_toArray, List.set_cons_zero, List.set_cons_succ, i64_w, i32_w]
               rfl
              refine pure_ (i := 3) (N := some 45) (v := ?_) (a' := ?_) #[true, true, false, true, false, false, false, false, false] rfl rfl (any_of HT_.out (by kernel_rfl)) (fun _ _ _ h => h) (Or.inl ⟨by rfl, ?_⟩) ?_ ?_
              rotate_left
              ·intro w'
               go_simp
               with_reducible rfl
              rotate_left
              ·simp only [Act.put, List.setIfInBounds_toArray, List.set_cons_zero, List.set_cons_succ, i64_w, i32_w]
               rfl
              refine take_ (i := 4) (N := some 46) (v := ?_) (a' := ?_) #[true, true, false, true, true, false, false, false, false] rfl rfl (take_ofW HT_.out HW_.out (by kernel_rfl)) (fun _ _ _ h => h) (Or.inl ⟨by rfl, ?_⟩) hHeld ?_ ?_
              rotate_left
              ·rintro w' ⟨s0, s1, s2, s3, s4, s5, s6, s7, s8⟩
               go_simp
               with_reducible rfl
              rotate_left
              ·simp only [Act.put, List.setIfInBounds_toArray, List.set_cons_zero, List.set_cons_succ, i64_w, i32_w]
               rfl
              refine pure_ (i := 5) (N := some 47) (v := ?_) (a' := ?_) #[true, true, false, true, true, true, false, false, false] rfl rfl (any_of HT_.out (by kernel_rfl)) (fun _ _ _ h => h) (Or.inl ⟨by rfl, ?_⟩) ?_ ?_
              rotate_left
              ·intro w'
               go_simp
               with_reducible rfl
              rotate_left
              ·simp only [Act.put, List.setIfInBounds_toArray, List.set_cons_zero, List.set_cons_succ, i64_w, i32_w]
               rfl
              refine join_ (σ := Value × Value) 2 #[true, true, true, true, true, true, true, false, false] (fun s_ => [(44, s_.1), (48, s_.2)]) (fun s_ w' => (w'.cell? ⟨gb472, 0, none⟩ = some (.int .i64 ((rd_T54 l0 x23_1).f0)) ∧ w'.cell? ⟨gb472, 1, none⟩ = some (.string ((rd_T54 l0 x23_1).f1)) ∧ w'.cell? ⟨gb472, 2, none⟩ = some (.int .i64 ((rd_T54 l0 x23_1).f2)) ∧ w'.cell? ⟨gb472, 3, none⟩ = some (.int .i64 ((rd_T54 l0 x23_1).f3.f0)) ∧ w'.cell? ⟨gb472, 4, none⟩ = some (.int .i64 ((rd_T54 l0 x23_1).f3.f1)) ∧ w'.cell? ⟨gb472, 5, none⟩ = some (.string ((rd_T54 l0 x23_1).f3.f2)) ∧ w'.cell? ⟨gb472, 6, none⟩ = some (.bool ((rd_T54 l0 x23_1).f3.f3)) ∧ w'.cell? ⟨gb472, 7, none⟩ = some (.complex .f64 ((rd_T54 l0 x23_1).f3.f4).re ((rd_T54 l0 x23_1).f3.f4).im) ∧ w'.cell? ⟨gb472, 8, none⟩ = some (.int .i64 ((rd_T54 l0 x23_1).f4))) ∧ (Kd.R (Kd.int .u8) 5 w' w.heap.size (fun k_ => some k_ ≠ (.slice Ao98 t479.length co98 : Value).ownBlock ∧ some k_ ≠ (s_.1 : Value).ownBlock ∧ some k_ ≠ (s_.2 : Value).ownBlock) (.slice Ao94 y473.length co94) y473) ∧ (Kd.R (Kd.int .u8) 5 w' w.heap.size (fun k_ => some k_ ≠ (.slice Ao94 y473.length co94 : Value).ownBlock ∧ some k_ ≠ (s_.1 : Value).ownBlock ∧ some k_ ≠ (s_.2 : Value).ownBlock) (.slice Ao98 t479.length co98) t479) ∧ (Kd.R (Kd.int .u8) 5 w' w.heap.size (fun k_ => some k_ ≠ (.slice Ao94 y473.length co94 : Value).ownBlock ∧ some k_ ≠ (.slice Ao98 t479.length co98 : Value).ownBlock ∧ some k_ ≠ (s_.2 : Value).ownBlock) s_.1 y483) ∧ (Kd.R (Kd.int .u8) 5 w' w.heap.size (fun k_ => some k_ ≠ (.slice Ao94 y473.length co94 : Value).ownBlock ∧ some k_ ≠ (.slice Ao98 t479.length co98 : Value).ownBlock ∧ some k_ ≠ (s_.1 : Value).ownBlock) s_.2 y486) ∧ (w'.heap[gb472]? = some (.cells #[.int .i64 ((rd_T54 l0 x23_1).f0), .string ((rd_T54 l0 x23_1).f1), .int .i64 ((rd_T54 l0 x23_1).f2), .int .i64 ((rd_T54 l0 x23_1).f3.f0), .int .i64 ((rd_T54 l0 x23_1).f3.f1), .string ((rd_T54 l0 x23_1).f3.f2), .bool ((rd_T54 l0 x23_1).f3.f3), .complex .f64 ((rd_T54 l0 x23_1).f3.f4).re ((rd_T54 l0 x23_1).f3.f4).im, .int .i64 ((rd_T54 l0 x23_1).f4)] 54 (0, 0))) ∧ (Below w.heap.size w w')) ?_ ?_
              rotate_left
              ·intro hCont
               refine two_ (i := 2) (j := 6) (Ni := some 44) (Nj := some 48) #[true, true, true, true, true, true, false, false, false] #[true, true, false, true, true, true, true, false, false] rfl rfl rfl rfl (two_of HT_.out (by kernel_rfl)) (by decide) (by decide) (fun K hK => ?_) (fun K hK => ?_)
               ·skip
                refine Kd.R_append_rows_step (Kd.int .u8) (w0 := w) w.heap.size (by rfl) (.tmp 42) (.tmp 43) 33 5 (.int .u8 0) 1 rfl Try.underlying33 info5 rfl (by decide) (by omega) (.slice Ao97 y476.length co97) y476 t479 _ _ _ (fun k_ => some k_ ≠ (.slice Ao94 y473.length co94 : Value).ownBlock ∧ some k_ ≠ (.slice Ao98 t479.length co98 : Value).ownBlock) (fun _ => False) rfl rfl ?aO ?aR (fun _ _ h => h) (fun _ h => h.elim) ?aF ?aB ?aS ?aL ?_
                (case aR => repeat (first | exact (Kd.R_reads' HO482.out).2.2 | (with_reducible refine Kd.C_alloc ?_ _) | (with_reducible refine Kd.C_drewN ?_ _) | (with_reducible refine Kd.C_drew ?_)))
                (case aB => exact (Bl))
                (case aF => exact (fun k_ hk => ⟨Kd.fresh' (Kd.R_lt (Rw HO475.out)) k_ hk, Kd.fresh' (Kd.R_lt (Rw HO482.out)) k_ hk⟩))
                (case aO => exact (Rw HO478.out))
                (case aS => exact (below_size (Bl)))
                (case aL => have := LMc13.out; omega)
                intro v484 w100 ho hb hg hat
                rw [← Ny483.out] at ho
                have n0_ := Aside0.mk (blk_grown (g := gb472) (o := .cells #[.int .i64 ((rd_T54 l0 x23_1).f0), .string ((rd_T54 l0 x23_1).f1), .int .i64 ((rd_T54 l0 x23_1).f2), .int .i64 ((rd_T54 l0 x23_1).f3.f0), .int .i64 ((rd_T54 l0 x23_1).f3.f1), .string ((rd_T54 l0 x23_1).f3.f2), .bool ((rd_T54 l0 x23_1).f3.f3), .complex .f64 ((rd_T54 l0 x23_1).f3.f4).re ((rd_T54 l0 x23_1).f3.f4).im, .int .i64 ((rd_T54 l0 x23_1).f4)] 54 (0, 0)) (Bk BK472.out) hg (Kd.R_ne HO478.out BK472.out (by decide)))
                have n1_ := Aside0.mk (Kd.R_after (ok := (fun k_ => some k_ ≠ (.slice Ao98 t479.length co98 : Value).ownBlock)) (by (with_reducible repeat (first | apply Kd.R_alloc | apply Kd.R_drewN | apply Kd.R_drew)); exact Kd.R_mono HO475.out (fun _ hk => ⟨hk.2, hk.1.2⟩)) hg hat)
                have n2_ := Aside0.mk (Kd.R_after (ok := (fun k_ => some k_ ≠ (.slice Ao94 y473.length co94 : Value).ownBlock)) (by (with_reducible repeat (first | apply Kd.R_alloc | apply Kd.R_drewN | apply Kd.R_drew)); exact Kd.R_mono HO482.out (fun _ hk => ⟨hk.1.2, hk.2⟩)) hg hat)
                have n3_ := Aside0.mk (hb)
                have n4_ := Aside0.mk (ho)
                clear BK472
                clear HO475
                clear HO482
                clear HB
                clear HO478
                have BK472 := n0_
                have HO475 := n1_
                have HO482 := n2_
                have HB := n3_
                have HO485 := n4_
                clear n0_ n1_ n2_ n3_ n4_
                clear ho hb hg hat
                refine hK.out _ _ ⟨(blk_cell BK472.out 0).trans rfl, (blk_cell BK472.out 1).trans rfl, (blk_cell BK472.out 2).trans rfl, (blk_cell BK472.out 3).trans rfl, (blk_cell BK472.out 4).trans rfl, (blk_cell BK472.out 5).trans rfl, (blk_cell BK472.out 6).trans rfl, (blk_cell BK472.out 7).trans rfl, (blk_cell BK472.out 8).trans rfl⟩ (fun hHeld => ?_)
                clear hK K
                refine norm_ (a' := ?_) ?_ ?_
                rotate_left
                ·show Act.put _ (some 44) _ = _
                 simp only [Act.put, List.setIfInBounds_toArray, List.set_cons_zero, List.set_cons_succ, i64_w, i32_w]
                 rfl
                refine one_ (i := 6) (N := some 48) #[true, true, true, true, true, true, true, false, false] rfl rfl (one_of HT_.out (by kernel_rfl)) (by decide) (fun K hK => ?_)
                refine Kd.R_lit_step (Kd.int .u8) _ 5 ?hg (N := 48) ?hd (xs := ([((rd_T54 l0 x23_1).f2) % 256] : List Int)) (inner := [.int .u8 (((rd_T54 l0 x23_1).f2) % 256)]) (ok := fun _ => True) (okp := fun _ => True) ?hr ?hp (fun _ hk => hk) trivial (Below.refl _ _) (Nat.le_refl _) (by simp) ?_; (case hd => rfl); (case hg => rfl); (case hr => first | (go_simp; done) | (go_simp; rfl)); (case hp => exact (Reps.one (show Kd.M (Kd.int .u8) _ _ _ (((rd_T54 l0 x23_1).f2) % 256) [.int .u8 (((rd_T54 l0 x23_1).f2) % 256)] from rfl) (Reps.none _ _)))
                intro v487 w101 ho102 hb hg_ hnew_
                clear hg_ hnew_
                (first | rw [← Ny486.out] at ho102 | (simp only [Int.reduceToNat] at ho102; rw [← Ny486.out] at ho102))
                have n0_ := Aside0.mk (Kd.R_elder' (Rw HO475.out) (Kd.R_base ho102) hb)
                have n1_ := Aside0.mk (Kd.R_elder' (Rw HO482.out) (Kd.R_base ho102) hb)
                have n2_ := Aside0.mk (Kd.R_elder' (Rw HO485.out) (Kd.R_base ho102) hb)
                have n3_ := Aside0.mk (Kd.R_lower (Kd.R_new' (Kd.R_new' (Kd.R_new' ho102 (Kd.R_lt (Rw HO475.out))) (Kd.R_lt (Rw HO482.out))) (Kd.R_lt (Rw HO485.out))) (below_size (Bl)))
                have n4_ := Aside0.mk (blk_below (g := gb472) (o := .cells #[.int .i64 ((rd_T54 l0 x23_1).f0), .string ((rd_T54 l0 x23_1).f1), .int .i64 ((rd_T54 l0 x23_1).f2), .int .i64 ((rd_T54 l0 x23_1).f3.f0), .int .i64 ((rd_T54 l0 x23_1).f3.f1), .string ((rd_T54 l0 x23_1).f3.f2), .bool ((rd_T54 l0 x23_1).f3.f3), .complex .f64 ((rd_T54 l0 x23_1).f3.f4).re ((rd_T54 l0 x23_1).f3.f4).im, .int .i64 ((rd_T54 l0 x23_1).f4)] 54 (0, 0)) (Bk BK472.out) hb)
                have n5_ := Aside0.mk (below_step (Bl) hb)
                clear HO475
                clear HO482
                clear HO485
                clear BK472
                clear HB
                have HO475 := n0_
                have HO482 := n1_
                have HO485 := n2_
                have HO488 := n3_
                have BK472 := n4_
                have HB := n5_
                clear n0_ n1_ n2_ n3_ n4_ n5_
                clear hb ho102
                refine hK.out _ _ ⟨(blk_cell BK472.out 0).trans rfl, (blk_cell BK472.out 1).trans rfl, (blk_cell BK472.out 2).trans rfl, (blk_cell BK472.out 3).trans rfl, (blk_cell BK472.out 4).trans rfl, (blk_cell BK472.out 5).trans rfl, (blk_cell BK472.out 6).trans rfl, (blk_cell BK472.out 7).trans rfl, (blk_cell BK472.out 8).trans rfl⟩ (fun hHeld => ?_)
                clear hK K
                refine norm_ (a' := ?_) ?_ ?_
                rotate_left
                ·show Act.put _ (some 48) _ = _
                 simp only [Act.put, List.setIfInBounds_toArray, List.set_cons_zero, List.set_cons_succ, i64_w, i32_w]
                 rfl
                exact norm_ (by simp only [putAll, Act.put, List.setIfInBounds_toArray, List.set_cons_zero, List.set_cons_succ]) (hCont (v484, v487) _ ⟨hHeld, (by (with_reducible repeat (first | apply Kd.R_alloc | apply Kd.R_drewN | apply Kd.R_drew)); exact Kd.R_mono HO475.out (fun _ hk => ⟨hk.1.1, ⟨hk.1.2, hk.2⟩⟩)), (by (with_reducible repeat (first | apply Kd.R_alloc | apply Kd.R_drewN | apply Kd.R_drew)); exact Kd.R_mono HO482.out (fun _ hk => ⟨hk.1.1, ⟨hk.1.2, hk.2⟩⟩)), (by (with_reducible repeat (first | apply Kd.R_alloc | apply Kd.R_drewN | apply Kd.R_drew)); exact Kd.R_mono HO485.out (fun _ hk => ⟨hk.1.1, ⟨hk.1.2, hk.2⟩⟩)), (by (with_reducible repeat (first | apply Kd.R_alloc | apply Kd.R_drewN | apply Kd.R_drew)); exact Kd.R_mono HO488.out (fun _ hk => ⟨hk.1.1.2, ⟨hk.1.2, hk.2⟩⟩)), (Bk BK472.out), (Bl)⟩)
               ·skip
                refine Kd.R_lit_step (Kd.int .u8) _ 5 ?hg (N := 48) ?hd (xs := ([((rd_T54 l0 x23_1).f2) % 256] : List Int)) (inner := [.int .u8 (((rd_T54 l0 x23_1).f2) % 256)]) (ok := fun _ => True) (okp := fun _ => True) ?hr ?hp (fun _ hk => hk) trivial (Below.refl _ _) (Nat.le_refl _) (by simp) ?_; (case hd => rfl); (case hg => rfl); (case hr => first | (go_simp; done) | (go_simp; rfl)); (case hp => exact (Reps.one (show Kd.M (Kd.int .u8) _ _ _ (((rd_T54 l0 x23_1).f2) % 256) [.int .u8 (((rd_T54 l0 x23_1).f2) % 256)] from rfl) (Reps.none _ _)))
                intro v487 w100 ho101 hb hg_ hnew_
                clear hg_ hnew_
                (first | rw [← Ny486.out] at ho101 | (simp only [Int.reduceToNat] at ho101; rw [← Ny486.out] at ho101))
                have n0_ := Aside0.mk (Kd.R_elder' (Rw HO475.out) (Kd.R_base ho101) hb)
                have n1_ := Aside0.mk (Kd.R_elder' (Rw HO478.out) (Kd.R_base ho101) hb)
                have n2_ := Aside0.mk (Kd.R_elder' (Rw HO482.out) (Kd.R_base ho101) hb)
                have n3_ := Aside0.mk (Kd.R_lower (Kd.R_new' (Kd.R_new' (Kd.R_new' ho101 (Kd.R_lt (Rw HO475.out))) (Kd.R_lt (Rw HO478.out))) (Kd.R_lt (Rw HO482.out))) (below_size (Bl)))
                have n4_ := Aside0.mk (blk_below (g := gb472) (o := .cells #[.int .i64 ((rd_T54 l0 x23_1).f0), .string ((rd_T54 l0 x23_1).f1), .int .i64 ((rd_T54 l0 x23_1).f2), .int .i64 ((rd_T54 l0 x23_1).f3.f0), .int .i64 ((rd_T54 l0 x23_1).f3.f1), .string ((rd_T54 l0 x23_1).f3.f2), .bool ((rd_T54 l0 x23_1).f3.f3), .complex .f64 ((rd_T54 l0 x23_1).f3.f4).re ((rd_T54 l0 x23_1).f3.f4).im, .int .i64 ((rd_T54 l0 x23_1).f4)] 54 (0, 0)) (Bk BK472.out) hb)
                have n5_ := Aside0.mk (below_step (Bl) hb)
                clear HO475
                clear HO478
                clear HO482
                clear BK472
                clear HB
                have HO475 := n0_
                have HO478 := n1_
                have HO482 := n2_
                have HO488 := n3_
                have BK472 := n4_
                have HB := n5_
                clear n0_ n1_ n2_ n3_ n4_ n5_
                clear hb ho101
                refine hK.out _ _ ⟨(blk_cell BK472.out 0).trans rfl, (blk_cell BK472.out 1).trans rfl, (blk_cell BK472.out 2).trans rfl, (blk_cell BK472.out 3).trans rfl, (blk_cell BK472.out 4).trans rfl, (blk_cell BK472.out 5).trans rfl, (blk_cell BK472.out 6).trans rfl, (blk_cell BK472.out 7).trans rfl, (blk_cell BK472.out 8).trans rfl⟩ (fun hHeld => ?_)
                clear hK K
                refine norm_ (a' := ?_) ?_ ?_
                rotate_left
                ·show Act.put _ (some 48) _ = _
                 simp only [Act.put, List.setIfInBounds_toArray, List.set_cons_zero, List.set_cons_succ, i64_w, i32_w]
                 rfl
                refine one_ (i := 2) (N := some 44) #[true, true, true, true, true, true, true, false, false] rfl rfl (one_of HT_.out (by kernel_rfl)) (by decide) (fun K hK => ?_)
                refine Kd.R_append_rows_step (Kd.int .u8) (w0 := w) w.heap.size (by rfl) (.tmp 42) (.tmp 43) 33 5 (.int .u8 0) 1 rfl Try.underlying33 info5 rfl (by decide) (by omega) (.slice Ao97 y476.length co97) y476 t479 _ _ _ (fun k_ => some k_ ≠ (.slice Ao94 y473.length co94 : Value).ownBlock ∧ some k_ ≠ (.slice Ao98 t479.length co98 : Value).ownBlock ∧ some k_ ≠ (v487 : Value).ownBlock) (fun _ => False) rfl rfl ?aO ?aR (fun _ _ h => h) (fun _ h => h.elim) ?aF ?aB ?aS ?aL ?_
                (case aR => repeat (first | exact (Kd.R_reads' HO482.out).2.2 | (with_reducible refine Kd.C_alloc ?_ _) | (with_reducible refine Kd.C_drewN ?_ _) | (with_reducible refine Kd.C_drew ?_)))
                (case aB => exact (Bl))
                (case aF => exact (fun k_ hk => ⟨Kd.fresh' (Kd.R_lt (Rw HO475.out)) k_ hk, Kd.fresh' (Kd.R_lt (Rw HO482.out)) k_ hk, Kd.fresh' (Kd.R_lt (Rw HO488.out)) k_ hk⟩))
                (case aO => exact (by (with_reducible repeat (first | apply Kd.R_alloc | apply Kd.R_drewN | apply Kd.R_drew)); exact Kd.R_mono HO478.out (fun _ hk => ⟨hk.1.1, ⟨hk.1.2, hk.2⟩⟩)))
                (case aS => exact (below_size (Bl)))
                (case aL => have := LMc13.out; omega)
                intro v484 w102 ho hb hg hat
                rw [← Ny483.out] at ho
                have n0_ := Aside0.mk (blk_grown (g := gb472) (o := .cells #[.int .i64 ((rd_T54 l0 x23_1).f0), .string ((rd_T54 l0 x23_1).f1), .int .i64 ((rd_T54 l0 x23_1).f2), .int .i64 ((rd_T54 l0 x23_1).f3.f0), .int .i64 ((rd_T54 l0 x23_1).f3.f1), .string ((rd_T54 l0 x23_1).f3.f2), .bool ((rd_T54 l0 x23_1).f3.f3), .complex .f64 ((rd_T54 l0 x23_1).f3.f4).re ((rd_T54 l0 x23_1).f3.f4).im, .int .i64 ((rd_T54 l0 x23_1).f4)] 54 (0, 0)) (Bk BK472.out) hg (Kd.R_ne HO478.out BK472.out (by decide)))
                have n1_ := Aside0.mk (Kd.R_after (ok := (fun k_ => some k_ ≠ (.slice Ao98 t479.length co98 : Value).ownBlock ∧ some k_ ≠ (v487 : Value).ownBlock)) (by (with_reducible repeat (first | apply Kd.R_alloc | apply Kd.R_drewN | apply Kd.R_drew)); exact Kd.R_mono HO475.out (fun _ hk => ⟨⟨hk.1.2, hk.2⟩, hk.1.1.2⟩)) hg hat)
                have n2_ := Aside0.mk (Kd.R_after (ok := (fun k_ => some k_ ≠ (.slice Ao94 y473.length co94 : Value).ownBlock ∧ some k_ ≠ (v487 : Value).ownBlock)) (by (with_reducible repeat (first | apply Kd.R_alloc | apply Kd.R_drewN | apply Kd.R_drew)); exact Kd.R_mono HO482.out (fun _ hk => ⟨⟨hk.1.1.2, hk.2⟩, hk.1.2⟩)) hg hat)
                have n3_ := Aside0.mk (Kd.R_after (ok := (fun k_ => some k_ ≠ (.slice Ao94 y473.length co94 : Value).ownBlock ∧ some k_ ≠ (.slice Ao98 t479.length co98 : Value).ownBlock)) (by (with_reducible repeat (first | apply Kd.R_alloc | apply Kd.R_drewN | apply Kd.R_drew)); exact Kd.R_mono HO488.out (fun _ hk => ⟨⟨hk.1.1.2, hk.2⟩, hk.1.2⟩)) hg hat)
                have n4_ := Aside0.mk (hb)
                have n5_ := Aside0.mk (ho)
                clear BK472
                clear HO475
                clear HO482
                clear HO488
                clear HB
                clear HO478
                have BK472 := n0_
                have HO475 := n1_
                have HO482 := n2_
                have HO488 := n3_
                have HB := n4_
                have HO485 := n5_
                clear n0_ n1_ n2_ n3_ n4_ n5_
                clear ho hb hg hat
                refine hK.out _ _ ⟨(blk_cell BK472.out 0).trans rfl, (blk_cell BK472.out 1).trans rfl, (blk_cell BK472.out 2).trans rfl, (blk_cell BK472.out 3).trans rfl, (blk_cell BK472.out 4).trans rfl, (blk_cell BK472.out 5).trans rfl, (blk_cell BK472.out 6).trans rfl, (blk_cell BK472.out 7).trans rfl, (blk_cell BK472.out 8).trans rfl⟩ (fun hHeld => ?_)
                clear hK K
                refine norm_ (a' := ?_) ?_ ?_
                rotate_left
                ·show Act.put _ (some 44) _ = _
                 simp only [Act.put, List.setIfInBounds_toArray, List.set_cons_zero, List.set_cons_succ, i64_w, i32_w]
                 rfl
                exact norm_ (by simp only [putAll, Act.put, List.setIfInBounds_toArray, List.set_cons_zero, List.set_cons_succ]) (hCont (v484, v487) _ ⟨hHeld, (by (with_reducible repeat (first | apply Kd.R_alloc | apply Kd.R_drewN | apply Kd.R_drew)); exact Kd.R_mono HO475.out (fun _ hk => ⟨hk.1.1, ⟨hk.2, hk.1.2⟩⟩)), (by (with_reducible repeat (first | apply Kd.R_alloc | apply Kd.R_drewN | apply Kd.R_drew)); exact Kd.R_mono HO482.out (fun _ hk => ⟨hk.1.1, ⟨hk.2, hk.1.2⟩⟩)), (Rw HO485.out), (by (with_reducible repeat (first | apply Kd.R_alloc | apply Kd.R_drewN | apply Kd.R_drew)); exact Kd.R_mono HO488.out (fun _ hk => ⟨hk.1.1, ⟨hk.1.2, hk.2⟩⟩)), (Bk BK472.out), (Bl)⟩)
              rintro ⟨v484, v487⟩ w103 ⟨hS_, h0_, h1_, h2_, h3_, h4_, h5_⟩
              have n0_ : Aside0 (Kd.R (Kd.int .u8) 5 w103 w.heap.size (fun k_ => some k_ ≠ (.slice Ao98 t479.length co98 : Value).ownBlock ∧ some k_ ≠ (v484 : Value).ownBlock ∧ some k_ ≠ (v487 : Value).ownBlock) (.slice Ao94 y473.length co94) y473) := ⟨h0_⟩
              have n1_ : Aside0 (Kd.R (Kd.int .u8) 5 w103 w.heap.size (fun k_ => some k_ ≠ (.slice Ao94 y473.length co94 : Value).ownBlock ∧ some k_ ≠ (v484 : Value).ownBlock ∧ some k_ ≠ (v487 : Value).ownBlock) (.slice Ao98 t479.length co98) t479) := ⟨h1_⟩
              have n2_ : Aside0 (Kd.R (Kd.int .u8) 5 w103 w.heap.size (fun k_ => some k_ ≠ (.slice Ao94 y473.length co94 : Value).ownBlock ∧ some k_ ≠ (.slice Ao98 t479.length co98 : Value).ownBlock ∧ some k_ ≠ (v487 : Value).ownBlock) v484 y483) := ⟨h2_⟩
              have n3_ : Aside0 (Kd.R (Kd.int .u8) 5 w103 w.heap.size (fun k_ => some k_ ≠ (.slice Ao94 y473.length co94 : Value).ownBlock ∧ some k_ ≠ (.slice Ao98 t479.length co98 : Value).ownBlock ∧ some k_ ≠ (v484 : Value).ownBlock) v487 y486) := ⟨h3_⟩
              have n4_ : Aside0 (w103.heap[gb472]? = some (.cells #[.int .i64 ((rd_T54 l0 x23_1).f0), .string ((rd_T54 l0 x23_1).f1), .int .i64 ((rd_T54 l0 x23_1).f2), .int .i64 ((rd_T54 l0 x23_1).f3.f0), .int .i64 ((rd_T54 l0 x23_1).f3.f1), .string ((rd_T54 l0 x23_1).f3.f2), .bool ((rd_T54 l0 x23_1).f3.f3), .complex .f64 ((rd_T54 l0 x23_1).f3.f4).re ((rd_T54 l0 x23_1).f3.f4).im, .int .i64 ((rd_T54 l0 x23_1).f4)] 54 (0, 0))) := ⟨h4_⟩
              have n5_ : Aside0 (Below w.heap.size w w103) := ⟨h5_⟩
              clear HO475
              clear HO478
              clear HO482
              clear BK472
              clear HB
              clear h0_ h1_ h2_ h3_ h4_ h5_
              have HO475 := n0_
              have HO482 := n1_
              have HO485 := n2_
              have HO488 := n3_
              have BK472 := n4_
              have HB := n5_
              clear n0_ n1_ n2_ n3_ n4_ n5_
              have hHeld : w103.cell? ⟨gb472, 0, none⟩ = some (.int .i64 ((rd_T54 l0 x23_1).f0)) ∧ w103.cell? ⟨gb472, 1, none⟩ = some (.string ((rd_T54 l0 x23_1).f1)) ∧ w103.cell? ⟨gb472, 2, none⟩ = some (.int .i64 ((rd_T54 l0 x23_1).f2)) ∧ w103.cell? ⟨gb472, 3, none⟩ = some (.int .i64 ((rd_T54 l0 x23_1).f3.f0)) ∧ w103.cell? ⟨gb472, 4, none⟩ = some (.int .i64 ((rd_T54 l0 x23_1).f3.f1)) ∧ w103.cell? ⟨gb472, 5, none⟩ = some (.string ((rd_T54 l0 x23_1).f3.f2)) ∧ w103.cell? ⟨gb472, 6, none⟩ = some (.bool ((rd_T54 l0 x23_1).f3.f3)) ∧ w103.cell? ⟨gb472, 7, none⟩ = some (.complex .f64 ((rd_T54 l0 x23_1).f3.f4).re ((rd_T54 l0 x23_1).f3.f4).im) ∧ w103.cell? ⟨gb472, 8, none⟩ = some (.int .i64 ((rd_T54 l0 x23_1).f4)) := hS_
              obtain ⟨Ao105, co105, eo105⟩ := Kd.R_slice HO488.out
              (first | subst eo105 | (injection eo105 with f1_ f2_ f3_; have f4_ := f1_.symm; have f5_ := f3_.symm; clear f1_ f2_ f3_; subst f4_; subst f5_))
              refine norm_ (a' := ?_) ?_ ?_
              rotate_left
              ·simp only [putAll, Act.put, List.setIfInBounds_toArray, List.set_cons_zero, List.set_cons_succ]
               rfl
              refine one_ (i := 7) (N := some 49) #[true, true, true, true, true, true, true, true, false] rfl rfl (one_of HT_.out (by kernel_rfl)) (by decide) (fun K hK => ?_)
              refine Kd.R_append_rows_step (Kd.int .u8) (w0 := w) w.heap.size (by rfl) (.tmp 44) (.tmp 48) 33 5 (.int .u8 0) 1 rfl Try.underlying33 info5 rfl (by decide) (by omega) v484 y483 y486 _ _ _ (fun k_ => some k_ ≠ (.slice Ao94 y473.length co94 : Value).ownBlock ∧ some k_ ≠ (.slice Ao98 t479.length co98 : Value).ownBlock ∧ some k_ ≠ (.slice Ao105 y486.length co105 : Value).ownBlock) (fun _ => False) rfl rfl ?aO ?aR (fun _ _ h => h) (fun _ h => h.elim) ?aF ?aB ?aS ?aL ?_
              (case aR => repeat (first | exact (Kd.R_reads' HO488.out).2.2 | (with_reducible refine Kd.C_alloc ?_ _) | (with_reducible refine Kd.C_drewN ?_ _) | (with_reducible refine Kd.C_drew ?_)))
              (case aB => exact (Bl))
              (case aF => exact (fun k_ hk => ⟨Kd.fresh' (Kd.R_lt (Rw HO475.out)) k_ hk, Kd.fresh' (Kd.R_lt (Rw HO482.out)) k_ hk, Kd.fresh' (Kd.R_lt (Rw HO488.out)) k_ hk⟩))
              (case aO => exact (Rw HO485.out))
              (case aS => exact (below_size (Bl)))
              (case aL => have := LMc14.out; omega)
              intro v490 w104 ho hb hg hat
              rw [← Ny489.out] at ho
              have n0_ := Aside0.mk (blk_grown (g := gb472) (o := .cells #[.int .i64 ((rd_T54 l0 x23_1).f0), .string ((rd_T54 l0 x23_1).f1), .int .i64 ((rd_T54 l0 x23_1).f2), .int .i64 ((rd_T54 l0 x23_1).f3.f0), .int .i64 ((rd_T54 l0 x23_1).f3.f1), .string ((rd_T54 l0 x23_1).f3.f2), .bool ((rd_T54 l0 x23_1).f3.f3), .complex .f64 ((rd_T54 l0 x23_1).f3.f4).re ((rd_T54 l0 x23_1).f3.f4).im, .int .i64 ((rd_T54 l0 x23_1).f4)] 54 (0, 0)) (Bk BK472.out) hg (Kd.R_ne HO485.out BK472.out (by decide)))
              have n1_ := Aside0.mk (Kd.R_after (ok := (fun k_ => some k_ ≠ (.slice Ao98 t479.length co98 : Value).ownBlock ∧ some k_ ≠ (.slice Ao105 y486.length co105 : Value).ownBlock)) (by (with_reducible repeat (first | apply Kd.R_alloc | apply Kd.R_drewN | apply Kd.R_drew)); exact Kd.R_mono HO475.out (fun _ hk => ⟨⟨hk.1, hk.2.2⟩, hk.2.1⟩)) hg hat)
              have n2_ := Aside0.mk (Kd.R_after (ok := (fun k_ => some k_ ≠ (.slice Ao94 y473.length co94 : Value).ownBlock ∧ some k_ ≠ (.slice Ao105 y486.length co105 : Value).ownBlock)) (by (with_reducible repeat (first | apply Kd.R_alloc | apply Kd.R_drewN | apply Kd.R_drew)); exact Kd.R_mono HO482.out (fun _ hk => ⟨⟨hk.1, hk.2.2⟩, hk.2.1⟩)) hg hat)
              have n3_ := Aside0.mk (Kd.R_after (ok := (fun k_ => some k_ ≠ (.slice Ao94 y473.length co94 : Value).ownBlock ∧ some k_ ≠ (.slice Ao98 t479.length co98 : Value).ownBlock)) (by (with_reducible repeat (first | apply Kd.R_alloc | apply Kd.R_drewN | apply Kd.R_drew)); exact Kd.R_mono HO488.out (fun _ hk => ⟨⟨hk.1, hk.2.1⟩, hk.2.2⟩)) hg hat)
              have n4_ := Aside0.mk (hb)
              have n5_ := Aside0.mk (ho)
              clear BK472
              clear HO475
              clear HO482
              clear HO488
              clear HB
              clear HO485
              have BK472 := n0_
              have HO475 := n1_
              have HO482 := n2_
              have HO488 := n3_
              have HB := n4_
              have HO491 := n5_
              clear n0_ n1_ n2_ n3_ n4_ n5_
              clear ho hb hg hat
              refine hK.out _ _ ⟨(blk_cell BK472.out 0).trans rfl, (blk_cell BK472.out 1).trans rfl, (blk_cell BK472.out 2).trans rfl, (blk_cell BK472.out 3).trans rfl, (blk_cell BK472.out 4).trans rfl, (blk_cell BK472.out 5).trans rfl, (blk_cell BK472.out 6).trans rfl, (blk_cell BK472.out 7).trans rfl, (blk_cell BK472.out 8).trans rfl⟩ (fun hHeld => ?_)
              clear hK K
              refine norm_ (a' := ?_) ?_ ?_
              rotate_left
              ·show Act.put _ (some 49) _ = _
               simp only [Act.put, List.setIfInBounds_toArray, List.set_cons_zero, List.set_cons_succ, i64_w, i32_w]
               rfl
              refine pure_ (i := 8) (N := some 5) (v := ?_) (a' := ?_) #[true, true, true, true, true, true, true, true, true] rfl rfl (any_of HT_.out (by kernel_rfl)) (fun _ _ _ h => h) (Or.inl ⟨by rfl, ?_⟩) ?_ ?_
              rotate_left
              ·intro w'
               go_simp
               with_reducible rfl
              rotate_left
              ·simp only [Act.put, List.setIfInBounds_toArray, List.set_cons_zero, List.set_cons_succ, i64_w, i32_w]
               rfl
              refine done_ (done_of HT_.out (by kernel_rfl)) ?_
              obtain ⟨_, _, _, _, _, _, _, _, _⟩ := cz9 BK472.out
              obtain ⟨_, _, _, _, _, _, _, _, _⟩ := fz9 BK472.out
              try go_wp2_with (first | ((with_reducible refine gate_callee (f := 31) rfl ?_); refine goesL_ (some 52) rfl rfl Try.func31 (by kernel_rfl) rfl #[.int .i64 ((rd_T54 l0 x23_1).f2)] rfl (Mp) ?_; (with_reducible refine (pred_bare.calls ((rd_T54 l0 x23_1).f2) false _ A15.out).mono ?_); rintro e w' ⟨rfl, ⟨nd, rfl⟩⟩; refine ⟨_, rfl, ?_⟩) | ((with_reducible refine gate_callee (f := 32) rfl ?_); refine goesL_ (some 57) rfl rfl Try.func32 (by kernel_rfl) rfl #[.agg #[.int .i64 ((rd_T54 l0 x23_1).f3.f0), .int .i64 ((rd_T54 l0 x23_1).f3.f1), .string ((rd_T54 l0 x23_1).f3.f2), .bool ((rd_T54 l0 x23_1).f3.f3), .complex .f64 ((rd_T54 l0 x23_1).f3.f4).re ((rd_T54 l0 x23_1).f3.f4).im]] rfl (Mp) ?_; (with_reducible refine (value_Put.calls k1 ((rd_T54 l0 x23_1).f3.f0) ((rd_T54 l0 x23_1).f3.f1) ((rd_T54 l0 x23_1).f3.f2) ((rd_T54 l0 x23_1).f3.f3) ((rd_T54 l0 x23_1).f3.f4) t499 t502 _ A59.out).mono ?_); rintro e w107 ⟨v500, rfl, ho0, hb⟩; refine ⟨_, rfl, ?_⟩; have n0_ := Aside0.mk (Kd.R_elder' (Rw HO475.out) (Kd.R_base ho0) hb); have n1_ := Aside0.mk (Kd.R_elder' (Rw HO482.out) (Kd.R_base ho0) hb); have n2_ := Aside0.mk (Kd.R_elder' (Rw HO488.out) (Kd.R_base ho0) hb); have n3_ := Aside0.mk (Kd.R_elder' (Rw HO491.out) (Kd.R_base ho0) hb); have n4_ := Aside0.mk (Kd.R_lower (Kd.R_new' (Kd.R_new' (Kd.R_new' (Kd.R_new' ho0 (Kd.R_lt (Rw HO475.out))) (Kd.R_lt (Rw HO482.out))) (Kd.R_lt (Rw HO488.out))) (Kd.R_lt (Rw HO491.out))) (below_size (Bl))); have n5_ := Aside0.mk (blk_below (g := gb472) (o := .cells #[.int .i64 ((rd_T54 l0 x23_1).f0), .string ((rd_T54 l0 x23_1).f1), .int .i64 ((rd_T54 l0 x23_1).f2), .int .i64 ((rd_T54 l0 x23_1).f3.f0), .int .i64 ((rd_T54 l0 x23_1).f3.f1), .string ((rd_T54 l0 x23_1).f3.f2), .bool ((rd_T54 l0 x23_1).f3.f3), .complex .f64 ((rd_T54 l0 x23_1).f3.f4).re ((rd_T54 l0 x23_1).f3.f4).im, .int .i64 ((rd_T54 l0 x23_1).f4)] 54 (0, 0)) (Bk BK472.out) hb); have n6_ := Aside0.mk (below_step (Bl) hb); clear HO475; clear HO482; clear HO488; clear HO491; clear BK472; clear HB; have HO475 := n0_; have HO482 := n1_; have HO488 := n2_; have HO491 := n3_; have HO501 := n4_; have BK472 := n5_; have HB := n6_; clear n0_ n1_ n2_ n3_ n4_ n5_ n6_; (try clear hb); (try clear hb2); (try clear hk); (try clear hi); (try clear ho0); obtain ⟨Ao109, co109, eo109⟩ := Kd.R_slice HO501.out; subst eo109) | ((with_reducible refine gate_builtin (b := .append) (xs := #[.tmp 60, .tmp 61]) rfl ?_); at_builtin; refine Kd.R_append_rows (Kd.int .u8) (w0 := w) w.heap.size rfl (.tmp 60) (.tmp 61) 33 5 (.int .u8 0) 1 rfl Try.underlying33 info5 rfl (by decide) (by omega) v490 y489 t499 _ _ _ (fun k_ => some k_ ≠ (.slice Ao94 y473.length co94 : Value).ownBlock ∧ some k_ ≠ (.slice Ao98 t479.length co98 : Value).ownBlock ∧ some k_ ≠ (.slice Ao105 y486.length co105 : Value).ownBlock ∧ some k_ ≠ (.slice Ao109 t499.length co109 : Value).ownBlock) (fun _ => False) rfl rfl ?aO ?aR (fun _ _ h => h) (fun _ h => h.elim) ?aF ?aB ?aS ?aL ?_; (case aR => repeat (first | exact (Kd.R_reads' HO501.out).2.2 | (with_reducible refine Kd.C_alloc ?_ _) | (with_reducible refine Kd.C_drewN ?_ _) | (with_reducible refine Kd.C_drew ?_))); (case aB => exact (Bl)); (case aF => exact (fun k_ hk => ⟨Kd.fresh' (Kd.R_lt (Rw HO475.out)) k_ hk, Kd.fresh' (Kd.R_lt (Rw HO482.out)) k_ hk, Kd.fresh' (Kd.R_lt (Rw HO488.out)) k_ hk, Kd.fresh' (Kd.R_lt (Rw HO501.out)) k_ hk⟩)); (case aO => exact (by (with_reducible repeat (first | apply Kd.R_alloc | apply Kd.R_drewN | apply Kd.R_drew)); exact Kd.R_mono HO491.out (fun _ hk => ⟨hk.1.1, ⟨hk.1.2.1, ⟨hk.1.2.2, hk.2⟩⟩⟩))); (case aS => exact (below_size (Bl))); (case aL => have := LMc60.out; omega); intro v504 w108 ho hb hg hat; rw [← Ny503.out] at ho; have n0_ := Aside0.mk (blk_grown (g := gb472) (o := .cells #[.int .i64 ((rd_T54 l0 x23_1).f0), .string ((rd_T54 l0 x23_1).f1), .int .i64 ((rd_T54 l0 x23_1).f2), .int .i64 ((rd_T54 l0 x23_1).f3.f0), .int .i64 ((rd_T54 l0 x23_1).f3.f1), .string ((rd_T54 l0 x23_1).f3.f2), .bool ((rd_T54 l0 x23_1).f3.f3), .complex .f64 ((rd_T54 l0 x23_1).f3.f4).re ((rd_T54 l0 x23_1).f3.f4).im, .int .i64 ((rd_T54 l0 x23_1).f4)] 54 (0, 0)) (Bk BK472.out) hg (Kd.R_ne HO491.out BK472.out (by decide))); have n1_ := Aside0.mk (Kd.R_after (ok := (fun k_ => some k_ ≠ (.slice Ao98 t479.length co98 : Value).ownBlock ∧ some k_ ≠ (.slice Ao105 y486.length co105 : Value).ownBlock ∧ some k_ ≠ (.slice Ao109 t499.length co109 : Value).ownBlock)) (by (with_reducible repeat (first | apply Kd.R_alloc | apply Kd.R_drewN | apply Kd.R_drew)); exact Kd.R_mono HO475.out (fun _ hk => ⟨⟨hk.1.1.1, ⟨hk.1.1.2, hk.2⟩⟩, hk.1.2⟩)) hg hat); have n2_ := Aside0.mk (Kd.R_after (ok := (fun k_ => some k_ ≠ (.slice Ao94 y473.length co94 : Value).ownBlock ∧ some k_ ≠ (.slice Ao105 y486.length co105 : Value).ownBlock ∧ some k_ ≠ (.slice Ao109 t499.length co109 : Value).ownBlock)) (by (with_reducible repeat (first | apply Kd.R_alloc | apply Kd.R_drewN | apply Kd.R_drew)); exact Kd.R_mono HO482.out (fun _ hk => ⟨⟨hk.1.1.1, ⟨hk.1.1.2, hk.2⟩⟩, hk.1.2⟩)) hg hat); have n3_ := Aside0.mk (Kd.R_after (ok := (fun k_ => some k_ ≠ (.slice Ao94 y473.length co94 : Value).ownBlock ∧ some k_ ≠ (.slice Ao98 t479.length co98 : Value).ownBlock ∧ some k_ ≠ (.slice Ao109 t499.length co109 : Value).ownBlock)) (by (with_reducible repeat (first | apply Kd.R_alloc | apply Kd.R_drewN | apply Kd.R_drew)); exact Kd.R_mono HO488.out (fun _ hk => ⟨⟨hk.1.1.1, ⟨hk.1.1.2, hk.2⟩⟩, hk.1.2⟩)) hg hat); have n4_ := Aside0.mk (Kd.R_after (ok := (fun k_ => some k_ ≠ (.slice Ao94 y473.length co94 : Value).ownBlock ∧ some k_ ≠ (.slice Ao98 t479.length co98 : Value).ownBlock ∧ some k_ ≠ (.slice Ao105 y486.length co105 : Value).ownBlock)) (by (with_reducible repeat (first | apply Kd.R_alloc | apply Kd.R_drewN | apply Kd.R_drew)); exact Kd.R_mono HO501.out (fun _ hk => ⟨⟨hk.1.1.1.2, ⟨hk.1.1.2, hk.1.2⟩⟩, hk.2⟩)) hg hat); have n5_ := Aside0.mk (hb); have n6_ := Aside0.mk (ho); clear BK472; clear HO475; clear HO482; clear HO488; clear HO501; clear HB; clear HO491; have BK472 := n0_; have HO475 := n1_; have HO482 := n2_; have HO488 := n3_; have HO501 := n4_; have HB := n5_; have HO505 := n6_; clear n0_ n1_ n2_ n3_ n4_ n5_ n6_; clear ho hb hg hat; obtain ⟨_, _, _, _, _, _, _, _, _⟩ := cz9 BK472.out; obtain ⟨_, _, _, _, _, _, _, _, _⟩ := fz9 BK472.out))
              go_roundg k1
              case measure => have := HK1.out; omega
              case rel => exact ⟨(y503), (wrap64 (x23_1 + 1)), (by first | rfl | (simp; done) | (simp [*]; done)), H', ⟨by have := HK1.out; omega⟩, ⟨by (with_reducible repeat (first | apply Kd.R_alloc | apply Kd.R_drewN | apply Kd.R_drew)); exact Kd.R_mono HO505.out (fun _ hk => trivial)⟩, ⟨Bl⟩⟩
            ·rw [if_neg c60] at H
             exact absurd H (by simp)
          ·rw [if_neg c14] at H
           exact absurd H (by simp)
         ·rw [if_neg c13] at H
          exact absurd H (by simp)
        ·rw [if_neg c11] at H
         have c11b0 : (((rd_T54 l0 x23_1).f0) == 3) = false := beq_eq_false_iff_ne.mpr c11
         have c11b1 : (((rd_T54 l0 x23_1).f0) != 3) = true := bne_iff_ne.mpr c11
         have H' := Aside0.mk H
         clear H
         have p471 : 0 ≤ (x23_1 : Int) := of_decide_eq_true (As)
         have q471 : x23_1 < (l0.length : Int) := of_decide_eq_true (As)
         obtain ⟨ad471, e471, hx471_0, hx471_1, hx471_2, hx471_3, hx471_4, hx471_5, hx471_6, hx471_7, hx471_8⟩ := at_T54 HR0.out x23_1 p471 q471
         cases e471
         replace hx471_0 := (HB.out.cell (World.block_lt_of_cell? w _ hx471_0)).trans hx471_0
         replace hx471_1 := (HB.out.cell (World.block_lt_of_cell? w _ hx471_1)).trans hx471_1
         replace hx471_2 := (HB.out.cell (World.block_lt_of_cell? w _ hx471_2)).trans hx471_2
         replace hx471_3 := (HB.out.cell (World.block_lt_of_cell? w _ hx471_3)).trans hx471_3
         replace hx471_4 := (HB.out.cell (World.block_lt_of_cell? w _ hx471_4)).trans hx471_4
         replace hx471_5 := (HB.out.cell (World.block_lt_of_cell? w _ hx471_5)).trans hx471_5
         replace hx471_6 := (HB.out.cell (World.block_lt_of_cell? w _ hx471_6)).trans hx471_6
         replace hx471_7 := (HB.out.cell (World.block_lt_of_cell? w _ hx471_7)).trans hx471_7
         replace hx471_8 := (HB.out.cell (World.block_lt_of_cell? w _ hx471_8)).trans hx471_8
         replace p471 := eq_true p471
         replace q471 := eq_true q471
         go_wp2_with (first | ((with_reducible refine gate_dst (N := 7) rfl ?_); refine box_event ?hg (N := 7) ?hd (cs := #[.int .i64 0, .string (⟨#[]⟩ : ByteArray), .int .i64 0, .int .i64 0, .int .i64 0, .string (⟨#[]⟩ : ByteArray), .bool false, .complex .f64 0 0, .int .i64 0]) (t := 54) ?hr ?_; (case hd => rfl); (case hg => rfl); (case hr => first | (go_simp; done) | (go_simp; rfl)); intro gb472 hg w111 hbox hb; have n0_ := Aside0.mk (Kd.R_below (Rw HO_5.out) hb); have n1_ := Aside0.mk (below_step (Bl) hb); have n2_ := Aside0.mk (hbox); have n3_ := Aside0.mk ((by rw [hg]; exact (below_size (Bl)) : w.heap.size ≤ gb472)); have n4_ := Aside0.mk ((by rw [hg]; exact (below_size (Bl)) : w.heap.size ≤ gb472)); clear HO_5; clear HB; have HO_5 := n0_; have HB := n1_; have BK472 := n2_; have GW472 := n3_; have GE472 := n4_; clear n0_ n1_ n2_ n3_ n4_; clear hb hbox hg; obtain ⟨_, _, _, _, _, _, _, _, _⟩ := cz9 BK472.out; obtain ⟨_, _, _, _, _, _, _, _, _⟩ := fz9 BK472.out) | ((with_reducible refine gate_dst (N := 31) rfl ?_); refine Kd.R_lit (Kd.int .u8) _ 5 ?hg (N := 31) ?hd (xs := ([((rd_T54 l0 x23_1).f0) % 256] : List Int)) (inner := [.int .u8 (((rd_T54 l0 x23_1).f0) % 256)]) (ok := fun _ => True) (okp := fun _ => True) ?hr ?hp (fun _ hk => hk) trivial (Below.refl _ _) (Nat.le_refl _) (by simp) ?_; (case hd => rfl); (case hg => rfl); (case hr => first | (go_simp; done) | (go_simp; rfl)); (case hp => exact (Reps.one (show Kd.M (Kd.int .u8) _ _ _ (((rd_T54 l0 x23_1).f0) % 256) [.int .u8 (((rd_T54 l0 x23_1).f0) % 256)] from rfl) (Reps.none _ _))); intro v474 w113 ho114 hb hg_ hnew_; clear hg_ hnew_; (first | rw [← Ny473.out] at ho114 | (simp only [Int.reduceToNat] at ho114; rw [← Ny473.out] at ho114)); have n0_ := Aside0.mk (Kd.R_elder' (by (with_reducible repeat (first | apply Kd.R_alloc | apply Kd.R_drewN | apply Kd.R_drew)); exact (Kd.R_mono (Kd.R_far (p := ⟨gb472, 8, none⟩) (Kd.R_far (p := ⟨gb472, 7, none⟩) (Kd.R_far (p := ⟨gb472, 6, none⟩) (Kd.R_far (p := ⟨gb472, 5, none⟩) (Kd.R_far (p := ⟨gb472, 4, none⟩) (Kd.R_far (p := ⟨gb472, 3, none⟩) (Kd.R_far (p := ⟨gb472, 2, none⟩) (Kd.R_far (p := ⟨gb472, 1, none⟩) (Kd.R_far (p := ⟨gb472, 0, none⟩) (Kd.R_types HO_5.out BK472.out (by decide)) (fun _ hk => hk.2) (.int .i64 ((rd_T54 l0 x23_1).f0))) (fun _ hk => hk.2) (.string ((rd_T54 l0 x23_1).f1))) (fun _ hk => hk.2) (.int .i64 ((rd_T54 l0 x23_1).f2))) (fun _ hk => hk.2) (.int .i64 ((rd_T54 l0 x23_1).f3.f0))) (fun _ hk => hk.2) (.int .i64 ((rd_T54 l0 x23_1).f3.f1))) (fun _ hk => hk.2) (.string ((rd_T54 l0 x23_1).f3.f2))) (fun _ hk => hk.2) (.bool ((rd_T54 l0 x23_1).f3.f3))) (fun _ hk => hk.2) (.complex .f64 ((rd_T54 l0 x23_1).f3.f4).re ((rd_T54 l0 x23_1).f3.f4).im)) (fun _ hk => hk.2) (.int .i64 ((rd_T54 l0 x23_1).f4))) (fun _ h_ => h_.1))) (Kd.R_base ho114) hb); have n1_ := Aside0.mk (Kd.R_lower (Kd.R_new' ho114 (Kd.R_lt (by (with_reducible repeat (first | apply Kd.R_alloc | apply Kd.R_drewN | apply Kd.R_drew)); exact (Kd.R_mono (Kd.R_far (p := ⟨gb472, 8, none⟩) (Kd.R_far (p := ⟨gb472, 7, none⟩) (Kd.R_far (p := ⟨gb472, 6, none⟩) (Kd.R_far (p := ⟨gb472, 5, none⟩) (Kd.R_far (p := ⟨gb472, 4, none⟩) (Kd.R_far (p := ⟨gb472, 3, none⟩) (Kd.R_far (p := ⟨gb472, 2, none⟩) (Kd.R_far (p := ⟨gb472, 1, none⟩) (Kd.R_far (p := ⟨gb472, 0, none⟩) (Kd.R_types HO_5.out BK472.out (by decide)) (fun _ hk => hk.2) (.int .i64 ((rd_T54 l0 x23_1).f0))) (fun _ hk => hk.2) (.string ((rd_T54 l0 x23_1).f1))) (fun _ hk => hk.2) (.int .i64 ((rd_T54 l0 x23_1).f2))) (fun _ hk => hk.2) (.int .i64 ((rd_T54 l0 x23_1).f3.f0))) (fun _ hk => hk.2) (.int .i64 ((rd_T54 l0 x23_1).f3.f1))) (fun _ hk => hk.2) (.string ((rd_T54 l0 x23_1).f3.f2))) (fun _ hk => hk.2) (.bool ((rd_T54 l0 x23_1).f3.f3))) (fun _ hk => hk.2) (.complex .f64 ((rd_T54 l0 x23_1).f3.f4).re ((rd_T54 l0 x23_1).f3.f4).im)) (fun _ hk => hk.2) (.int .i64 ((rd_T54 l0 x23_1).f4))) (fun _ h_ => h_.1))))) (below_size (Bl))); have n2_ := Aside0.mk (blk_below (g := gb472) (o := .cells #[.int .i64 ((rd_T54 l0 x23_1).f0), .string ((rd_T54 l0 x23_1).f1), .int .i64 ((rd_T54 l0 x23_1).f2), .int .i64 ((rd_T54 l0 x23_1).f3.f0), .int .i64 ((rd_T54 l0 x23_1).f3.f1), .string ((rd_T54 l0 x23_1).f3.f2), .bool ((rd_T54 l0 x23_1).f3.f3), .complex .f64 ((rd_T54 l0 x23_1).f3.f4).re ((rd_T54 l0 x23_1).f3.f4).im, .int .i64 ((rd_T54 l0 x23_1).f4)] 54 (0, 0)) (by (with_reducible repeat (first | refine blk_drewN ?_ _ | refine blk_drew ?_ | refine blk_alloc ?_ _)); refine blk_put (cs := #[.int .i64 ((rd_T54 l0 x23_1).f0), .string ((rd_T54 l0 x23_1).f1), .int .i64 ((rd_T54 l0 x23_1).f2), .int .i64 ((rd_T54 l0 x23_1).f3.f0), .int .i64 ((rd_T54 l0 x23_1).f3.f1), .string ((rd_T54 l0 x23_1).f3.f2), .bool ((rd_T54 l0 x23_1).f3.f3), .complex .f64 ((rd_T54 l0 x23_1).f3.f4).re ((rd_T54 l0 x23_1).f3.f4).im, .int .i64 0]) ?_ 8 _ rfl; (with_reducible repeat (first | refine blk_drewN ?_ _ | refine blk_drew ?_ | refine blk_alloc ?_ _)); refine blk_put (cs := #[.int .i64 ((rd_T54 l0 x23_1).f0), .string ((rd_T54 l0 x23_1).f1), .int .i64 ((rd_T54 l0 x23_1).f2), .int .i64 ((rd_T54 l0 x23_1).f3.f0), .int .i64 ((rd_T54 l0 x23_1).f3.f1), .string ((rd_T54 l0 x23_1).f3.f2), .bool ((rd_T54 l0 x23_1).f3.f3), .complex .f64 0 0, .int .i64 0]) ?_ 7 _ rfl; (with_reducible repeat (first | refine blk_drewN ?_ _ | refine blk_drew ?_ | refine blk_alloc ?_ _)); refine blk_put (cs := #[.int .i64 ((rd_T54 l0 x23_1).f0), .string ((rd_T54 l0 x23_1).f1), .int .i64 ((rd_T54 l0 x23_1).f2), .int .i64 ((rd_T54 l0 x23_1).f3.f0), .int .i64 ((rd_T54 l0 x23_1).f3.f1), .string ((rd_T54 l0 x23_1).f3.f2), .bool false, .complex .f64 0 0, .int .i64 0]) ?_ 6 _ rfl; (with_reducible repeat (first | refine blk_drewN ?_ _ | refine blk_drew ?_ | refine blk_alloc ?_ _)); refine blk_put (cs := #[.int .i64 ((rd_T54 l0 x23_1).f0), .string ((rd_T54 l0 x23_1).f1), .int .i64 ((rd_T54 l0 x23_1).f2), .int .i64 ((rd_T54 l0 x23_1).f3.f0), .int .i64 ((rd_T54 l0 x23_1).f3.f1), .string (⟨#[]⟩ : ByteArray), .bool false, .complex .f64 0 0, .int .i64 0]) ?_ 5 _ rfl; (with_reducible repeat (first | refine blk_drewN ?_ _ | refine blk_drew ?_ | refine blk_alloc ?_ _)); refine blk_put (cs := #[.int .i64 ((rd_T54 l0 x23_1).f0), .string ((rd_T54 l0 x23_1).f1), .int .i64 ((rd_T54 l0 x23_1).f2), .int .i64 ((rd_T54 l0 x23_1).f3.f0), .int .i64 0, .string (⟨#[]⟩ : ByteArray), .bool false, .complex .f64 0 0, .int .i64 0]) ?_ 4 _ rfl; (with_reducible repeat (first | refine blk_drewN ?_ _ | refine blk_drew ?_ | refine blk_alloc ?_ _)); refine blk_put (cs := #[.int .i64 ((rd_T54 l0 x23_1).f0), .string ((rd_T54 l0 x23_1).f1), .int .i64 ((rd_T54 l0 x23_1).f2), .int .i64 0, .int .i64 0, .string (⟨#[]⟩ : ByteArray), .bool false, .complex .f64 0 0, .int .i64 0]) ?_ 3 _ rfl; (with_reducible repeat (first | refine blk_drewN ?_ _ | refine blk_drew ?_ | refine blk_alloc ?_ _)); refine blk_put (cs := #[.int .i64 ((rd_T54 l0 x23_1).f0), .string ((rd_T54 l0 x23_1).f1), .int .i64 0, .int .i64 0, .int .i64 0, .string (⟨#[]⟩ : ByteArray), .bool false, .complex .f64 0 0, .int .i64 0]) ?_ 2 _ rfl; (with_reducible repeat (first | refine blk_drewN ?_ _ | refine blk_drew ?_ | refine blk_alloc ?_ _)); refine blk_put (cs := #[.int .i64 ((rd_T54 l0 x23_1).f0), .string (⟨#[]⟩ : ByteArray), .int .i64 0, .int .i64 0, .int .i64 0, .string (⟨#[]⟩ : ByteArray), .bool false, .complex .f64 0 0, .int .i64 0]) ?_ 1 _ rfl; (with_reducible repeat (first | refine blk_drewN ?_ _ | refine blk_drew ?_ | refine blk_alloc ?_ _)); refine blk_put (cs := #[.int .i64 0, .string (⟨#[]⟩ : ByteArray), .int .i64 0, .int .i64 0, .int .i64 0, .string (⟨#[]⟩ : ByteArray), .bool false, .complex .f64 0 0, .int .i64 0]) ?_ 0 _ rfl; (with_reducible repeat (first | refine blk_drewN ?_ _ | refine blk_drew ?_ | refine blk_alloc ?_ _)); exact BK472.out) hb); have n3_ := Aside0.mk (below_step (Bl) hb); clear HO_5; clear BK472; clear HB; have HO_5 := n0_; have HO475 := n1_; have BK472 := n2_; have HB := n3_; clear n0_ n1_ n2_ n3_; clear hb ho114; obtain ⟨Ao116, co116, eo116⟩ := Kd.R_slice HO475.out; subst eo116) | ((with_reducible refine gate_builtin (b := .append) (xs := #[.tmp 27, .tmp 31]) rfl ?_); at_builtin; refine Kd.R_append_rows (Kd.int .u8) (w0 := w) w.heap.size rfl (.tmp 27) (.tmp 31) 33 5 (.int .u8 0) 1 rfl Try.underlying33 info5 rfl (by decide) (by omega) u5 x5_1 y473 _ _ _ (fun k_ => some k_ ≠ (.slice Ao116 y473.length co116 : Value).ownBlock) (fun _ => False) rfl rfl ?aO ?aR (fun _ _ h => h) (fun _ h => h.elim) ?aF ?aB ?aS ?aL ?_; (case aR => repeat (first | exact (Kd.R_reads' HO475.out).2.2 | (with_reducible refine Kd.C_alloc ?_ _) | (with_reducible refine Kd.C_drewN ?_ _) | (with_reducible refine Kd.C_drew ?_))); (case aB => exact (Bl)); (case aF => exact (fun k_ hk => Kd.fresh' (Kd.R_lt (Rw HO475.out)) k_ hk)); (case aO => exact (by (with_reducible repeat (first | apply Kd.R_alloc | apply Kd.R_drewN | apply Kd.R_drew)); exact Kd.R_mono HO_5.out (fun _ hk => hk.2))); (case aS => exact (below_size (Bl))); (case aL => have := LMc10.out; omega); intro v477 w115 ho hb hg hat; rw [← Ny476.out] at ho; have n0_ := Aside0.mk (blk_grown (g := gb472) (o := .cells #[.int .i64 ((rd_T54 l0 x23_1).f0), .string ((rd_T54 l0 x23_1).f1), .int .i64 ((rd_T54 l0 x23_1).f2), .int .i64 ((rd_T54 l0 x23_1).f3.f0), .int .i64 ((rd_T54 l0 x23_1).f3.f1), .string ((rd_T54 l0 x23_1).f3.f2), .bool ((rd_T54 l0 x23_1).f3.f3), .complex .f64 ((rd_T54 l0 x23_1).f3.f4).re ((rd_T54 l0 x23_1).f3.f4).im, .int .i64 ((rd_T54 l0 x23_1).f4)] 54 (0, 0)) (Bk BK472.out) hg (Kd.R_ne HO_5.out BK472.out (by decide))); have n1_ := Aside0.mk (Kd.R_after (ok := (fun _ => True)) (Rw HO475.out) hg hat); have n2_ := Aside0.mk (hb); have n3_ := Aside0.mk (ho); clear BK472; clear HO475; clear HB; clear HO_5; have BK472 := n0_; have HO475 := n1_; have HB := n2_; have HO478 := n3_; clear n0_ n1_ n2_ n3_; clear ho hb hg hat; obtain ⟨_, _, _, _, _, _, _, _, _⟩ := cz9 BK472.out; obtain ⟨_, _, _, _, _, _, _, _, _⟩ := fz9 BK472.out))
         go_roundg k1
         case measure => have := HK1.out; omega
         case rel => exact ⟨(y476), (wrap64 (x23_1 + 1)), (by first | rfl | (simp; done) | (simp [*]; done)), H', ⟨by have := HK1.out; omega⟩, ⟨by (with_reducible repeat (first | apply Kd.R_alloc | apply Kd.R_drewN | apply Kd.R_drew)); exact Kd.R_mono HO478.out (fun _ hk => trivial)⟩, ⟨Bl⟩⟩
       ·rw [if_neg c10] at H
        exact absurd H (by simp)
      ·rw [if_neg c9] at H
       exact absurd H (by simp)
     ·rw [if_neg c8] at H
      exact absurd H (by simp)
    ·rw [if_neg c7] at H
     have c7b0 : decide (x23_1 < (l0.length : Int)) = false := decide_eq_false c7
     clear c7
     simp only [Option.some.injEq, Prod.mk.injEq] at H
     obtain ⟨rfl, rfl⟩ := H
     go_wp2
     go_ret2
     exact ⟨_, by first | rfl | (simp [errW_none, errW_some] <;> rfl) | (simp [*, errW_none, errW_some] <;> rfl), by (with_reducible repeat (first | apply Kd.R_alloc | apply Kd.R_drewN | apply Kd.R_drew)); exact HO_5.out, Bl⟩
 ·rw [if_neg c3] at H
  have c3b0 : (t467 == 0) = false := beq_eq_false_iff_ne.mpr c3
  have c3b1 : (t467 != 0) = true := bne_iff_ne.mpr c3
  simp only [Option.some.injEq, Prod.mk.injEq] at H
  obtain ⟨rfl, rfl⟩ := H
  go_enter Try.func14, Try.ntmps14
  go_wp2_with (first | ((with_reducible refine gate_callee (f := 11) rfl ?_); refine goesL_ (some 13) rfl rfl Try.func11 (by kernel_rfl) rfl #[.slice A0 l0.length c0] rfl (Mp) ?_; (with_reducible refine (pred_Check.calls k _ _ l0 t467 _ ?side1 ?side2 A2.out).mono ?_); (case side1 => repeat (first | exact HR0.out | (with_reducible refine Kd.C_alloc ?_ _) | (with_reducible refine Kd.C_drewN ?_ _) | (with_reducible refine Kd.C_drew ?_))); (case side2 => exact HC0.out); rintro e w118 ⟨rfl, hb⟩; refine ⟨_, rfl, ?_⟩; have n0_ := Aside0.mk (below_step (Bl) hb); clear HB; have HB := n0_; clear n0_; (try clear hb); (try clear hb2); (try clear hk); (try clear hi)))
  go_ret2
  exact ⟨_, by first | rfl | (simp [errW_none, errW_some] <;> rfl) | (simp [*, errW_none, errW_some] <;> rfl), by first | exact Kd.R_nil _ _ _ _ _ | exact Kd.N_nil _ _ _ _ _ | exact Kd.V_nil _ _ _ _ _ | exact Kd.Q_nil _ _ _ _ _ | exact Kd.S_nil _ _ _ _ _, Bl⟩

end Go.Proofs.Ytmgljgmieomngaa.Q
