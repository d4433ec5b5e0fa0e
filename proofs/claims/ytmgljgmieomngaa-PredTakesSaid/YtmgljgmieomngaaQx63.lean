/- Functions of the program as Lean functions, each with its walk: that the Go code comes to just these answers, whatever the memory. Written by a program of this claim (wip/tools). -/
import Derived.Test.YtmgljgmieomngaaMc
import Derived.Test.YtmgljgmieomngaaQx0
import Derived.Test.YtmgljgmieomngaaQx62
namespace Go.Proofs.Ytmgljgmieomngaa.Q
open Go.RowKit Go.Proofs.YtmgljgmieomngaaW.PrintWords Go.Proofs.YtmgljgmieomngaaW.PrintLast Go.Proofs.YtmgljgmieomngaaW.PrintMore
attribute [local go_sem] run_ftoi isSome_setCell bytesLess_total run_store_complex run_store_float max2_int min2_int max_two min_two max_three min_three max_four min_four   -- for this text's walks alone
set_option linter.unusedVariables false
set_option linter.unusedSimpArgs false

/-! ### grapevineref05_Check: function 28 -/
mutual
def grapevineref05_Check.l0 : Nat → List (S54) → Int → Int → Option (Int)
 | 0, _, _, _ => none
 | k + 1, x0, x3, x4 => if x4 < (x0.length : Int) then (if 0 ≤ x4 then (if ((rd_T54 x0 x4).f0) < 1 then (grapevineref05_Check.j1 k x0 x3 x4 ((rd_T54 x0 x4).f0) true) else (grapevineref05_Check.j1 k x0 x3 x4 ((rd_T54 x0 x4).f0) (decide (((rd_T54 x0 x4).f0) > 6)))) else (none)) else (if x3 = 1 then (some 0) else (some 4))
def grapevineref05_Check.j1 : Nat → List (S54) → Int → Int → Int → Bool → Option (Int)
 | 0, _, _, _, _, _ => none
 | k + 1, x0, x3, x4, x5, x26 => if x26 = true then (some 2) else (if x5 = 3 then (if 0 ≤ x4 then (if x4 < (x0.length : Int) then ((grapevineref05_atom.f k ((rd_T54 x0 x4).f0) ((rd_T54 x0 x4).f1) ((rd_T54 x0 x4).f2) ((rd_T54 x0 x4).f3.f0) ((rd_T54 x0 x4).f3.f1) ((rd_T54 x0 x4).f3.f2) ((rd_T54 x0 x4).f3.f3) ((rd_T54 x0 x4).f3.f4) ((rd_T54 x0 x4).f4)).bind fun t375 => (if t375 = 0 then (grapevineref05_Check.j2 k x0 x3 x4 x5) else (some t375))) else (none)) else (none)) else (grapevineref05_Check.j2 k x0 x3 x4 x5))
def grapevineref05_Check.j2 : Nat → List (S54) → Int → Int → Int → Option (Int)
 | 0, _, _, _, _ => none
 | k + 1, x0, x3, x4, x5 => if x5 = 4 then (if x3 < 1 then (grapevineref05_Check.j3 k x0 x3 x4 x5 true) else (if x5 = 5 then (grapevineref05_Check.j3 k x0 x3 x4 x5 (decide (x3 < 2))) else (if x5 = 6 then (grapevineref05_Check.j3 k x0 x3 x4 x5 (decide (x3 < 2))) else (grapevineref05_Check.j3 k x0 x3 x4 x5 false)))) else (if x5 = 5 then (grapevineref05_Check.j3 k x0 x3 x4 x5 (decide (x3 < 2))) else (if x5 = 6 then (grapevineref05_Check.j3 k x0 x3 x4 x5 (decide (x3 < 2))) else (grapevineref05_Check.j3 k x0 x3 x4 x5 false)))
def grapevineref05_Check.j3 : Nat → List (S54) → Int → Int → Int → Bool → Option (Int)
 | 0, _, _, _, _, _ => none
 | k + 1, x0, x3, x4, x5, x54 => if x54 = true then (some 4) else (if x5 = 1 then (grapevineref05_Check.j4 k x0 x3 x4 x5 true) else (if x5 = 2 then (grapevineref05_Check.j4 k x0 x3 x4 x5 true) else (grapevineref05_Check.j4 k x0 x3 x4 x5 (x5 == 3))))
def grapevineref05_Check.j4 : Nat → List (S54) → Int → Int → Int → Bool → Option (Int)
 | 0, _, _, _, _, _ => none
 | k + 1, x0, x3, x4, x5, x64 => if x64 = true then (grapevineref05_Check.j5 k x0 (wrap64 (x3 + 1)) x4 x5) else (grapevineref05_Check.j5 k x0 x3 x4 x5)
def grapevineref05_Check.j5 : Nat → List (S54) → Int → Int → Int → Option (Int)
 | 0, _, _, _, _ => none
 | k + 1, x0, x3, x4, x5 => if x5 = 5 then (grapevineref05_Check.j6 k x0 x3 x4 true) else (grapevineref05_Check.j6 k x0 x3 x4 (x5 == 6))
def grapevineref05_Check.j6 : Nat → List (S54) → Int → Int → Bool → Option (Int)
 | 0, _, _, _, _ => none
 | k + 1, x0, x3, x4, x72 => if x72 = true then (if (wrap64 (x3 - 1)) > 16 then (some 6) else (grapevineref05_Check.l0 k x0 (wrap64 (x3 - 1)) (wrap64 (x4 + 1)))) else (if x3 > 16 then (some 6) else (grapevineref05_Check.l0 k x0 x3 (wrap64 (x4 + 1))))
end
def grapevineref05_Check.f (k : Nat) (l0 : List (S54)) : Option (Int) := if (l0.length : Int) > 48 then (some 6) else (grapevineref05_Check.l0 k l0 0 0)
theorem grapevineref05_Check.mono_l : ∀ k, (∀ y0 y1 y2, LeO (grapevineref05_Check.l0 k y0 y1 y2) (grapevineref05_Check.l0 (k + 1) y0 y1 y2)) ∧ (∀ y0 y1 y2 y3 y4, LeO (grapevineref05_Check.j1 k y0 y1 y2 y3 y4) (grapevineref05_Check.j1 (k + 1) y0 y1 y2 y3 y4)) ∧ (∀ y0 y1 y2 y3, LeO (grapevineref05_Check.j2 k y0 y1 y2 y3) (grapevineref05_Check.j2 (k + 1) y0 y1 y2 y3)) ∧ (∀ y0 y1 y2 y3 y4, LeO (grapevineref05_Check.j3 k y0 y1 y2 y3 y4) (grapevineref05_Check.j3 (k + 1) y0 y1 y2 y3 y4)) ∧ (∀ y0 y1 y2 y3 y4, LeO (grapevineref05_Check.j4 k y0 y1 y2 y3 y4) (grapevineref05_Check.j4 (k + 1) y0 y1 y2 y3 y4)) ∧ (∀ y0 y1 y2 y3, LeO (grapevineref05_Check.j5 k y0 y1 y2 y3) (grapevineref05_Check.j5 (k + 1) y0 y1 y2 y3)) ∧ (∀ y0 y1 y2 y3, LeO (grapevineref05_Check.j6 k y0 y1 y2 y3) (grapevineref05_Check.j6 (k + 1) y0 y1 y2 y3))
 | 0 => ⟨fun _ _ _ r h => by simp [grapevineref05_Check.l0] at h, fun _ _ _ _ _ r h => by simp [grapevineref05_Check.j1] at h, fun _ _ _ _ r h => by simp [grapevineref05_Check.j2] at h, fun _ _ _ _ _ r h => by simp [grapevineref05_Check.j3] at h, fun _ _ _ _ _ r h => by simp [grapevineref05_Check.j4] at h, fun _ _ _ _ r h => by simp [grapevineref05_Check.j5] at h, fun _ _ _ _ r h => by simp [grapevineref05_Check.j6] at h⟩
 | k + 1 => by
  obtain ⟨ih0, ih1, ih2, ih3, ih4, ih5, ih6⟩ := grapevineref05_Check.mono_l k
  refine ⟨?_, ?_, ?_, ?_, ?_, ?_, ?_⟩
  ·intro y0 y1 y2
   unfold grapevineref05_Check.l0
   repeat' first
   | (with_reducible exact ih0 _ _ _)
   | (with_reducible exact ih1 _ _ _ _ _)
   | (with_reducible exact ih2 _ _ _ _)
   | (with_reducible exact ih3 _ _ _ _ _)
   | (with_reducible exact ih4 _ _ _ _ _)
   | (with_reducible exact ih5 _ _ _ _)
   | (with_reducible exact ih6 _ _ _ _)
   | (with_reducible exact grapevineref05_atom.mono _ _ _ _ _ _ _ _ _ _)
   | (with_reducible exact LeO.refl _)
   | (with_reducible exact LeO.none _)
   | (with_reducible refine LeO.ite ?_ ?_)
   | (with_reducible refine LeO.bind ?_ (fun _ => ?_))
   | exact ih0 _ _ _
   | exact ih1 _ _ _ _ _
   | exact ih2 _ _ _ _
   | exact ih3 _ _ _ _ _
   | exact ih4 _ _ _ _ _
   | exact ih5 _ _ _ _
   | exact ih6 _ _ _ _
   | exact grapevineref05_atom.mono _ _ _ _ _ _ _ _ _ _
   | exact LeO.none _
   | refine LeO.ite ?_ ?_
   | refine LeO.bind ?_ (fun _ => ?_)
  ·intro y0 y1 y2 y3 y4
   unfold grapevineref05_Check.j1
   repeat' first
   | (with_reducible exact ih0 _ _ _)
   | (with_reducible exact ih1 _ _ _ _ _)
   | (with_reducible exact ih2 _ _ _ _)
   | (with_reducible exact ih3 _ _ _ _ _)
   | (with_reducible exact ih4 _ _ _ _ _)
   | (with_reducible exact ih5 _ _ _ _)
   | (with_reducible exact ih6 _ _ _ _)
   | (with_reducible exact grapevineref05_atom.mono _ _ _ _ _ _ _ _ _ _)
   | (with_reducible exact LeO.refl _)
   | (with_reducible exact LeO.none _)
   | (with_reducible refine LeO.ite ?_ ?_)
   | (with_reducible refine LeO.bind ?_ (fun _ => ?_))
   | exact ih0 _ _ _
   | exact ih1 _ _ _ _ _
   | exact ih2 _ _ _ _
   | exact ih3 _ _ _ _ _
   | exact ih4 _ _ _ _ _
   | exact ih5 _ _ _ _
   | exact ih6 _ _ _ _
   | exact grapevineref05_atom.mono _ _ _ _ _ _ _ _ _ _
   | exact LeO.none _
   | refine LeO.ite ?_ ?_
   | refine LeO.bind ?_ (fun _ => ?_)
  ·intro y0 y1 y2 y3
   unfold grapevineref05_Check.j2
   repeat' first
   | (with_reducible exact ih0 _ _ _)
   | (with_reducible exact ih1 _ _ _ _ _)
   | (with_reducible exact ih2 _ _ _ _)
   | (with_reducible exact ih3 _ _ _ _ _)
   | (with_reducible exact ih4 _ _ _ _ _)
   | (with_reducible exact ih5 _ _ _ _)
   | (with_reducible exact ih6 _ _ _ _)
   | (with_reducible exact grapevineref05_atom.mono _ _ _ _ _ _ _ _ _ _)
   | (with_reducible exact LeO.refl _)
   | (with_reducible exact LeO.none _)
   | (with_reducible refine LeO.ite ?_ ?_)
   | (with_reducible refine LeO.bind ?_ (fun _ => ?_))
   | exact ih0 _ _ _
   | exact ih1 _ _ _ _ _
   | exact ih2 _ _ _ _
   | exact ih3 _ _ _ _ _
   | exact ih4 _ _ _ _ _
   | exact ih5 _ _ _ _
   | exact ih6 _ _ _ _
   | exact grapevineref05_atom.mono _ _ _ _ _ _ _ _ _ _
   | exact LeO.none _
   | refine LeO.ite ?_ ?_
   | refine LeO.bind ?_ (fun _ => ?_)
  ·intro y0 y1 y2 y3 y4
   unfold grapevineref05_Check.j3
   repeat' first
   | (with_reducible exact ih0 _ _ _)
   | (with_reducible exact ih1 _ _ _ _ _)
   | (with_reducible exact ih2 _ _ _ _)
   | (with_reducible exact ih3 _ _ _ _ _)
   | (with_reducible exact ih4 _ _ _ _ _)
   | (with_reducible exact ih5 _ _ _ _)
   | (with_reducible exact ih6 _ _ _ _)
   | (with_reducible exact grapevineref05_atom.mono _ _ _ _ _ _ _ _ _ _)
   | (with_reducible exact LeO.refl _)
   | (with_reducible exact LeO.none _)
   | (with_reducible refine LeO.ite ?_ ?_)
   | (with_reducible refine LeO.bind ?_ (fun _ => ?_))
   | exact ih0 _ _ _
   | exact ih1 _ _ _ _ _
   | exact ih2 _ _ _ _
   | exact ih3 _ _ _ _ _
   | exact ih4 _ _ _ _ _
   | exact ih5 _ _ _ _
   | exact ih6 _ _ _ _
   | exact grapevineref05_atom.mono _ _ _ _ _ _ _ _ _ _
   | exact LeO.none _
   | refine LeO.ite ?_ ?_
   | refine LeO.bind ?_ (fun _ => ?_)
  ·intro y0 y1 y2 y3 y4
   unfold grapevineref05_Check.j4
   repeat' first
   | (with_reducible exact ih0 _ _ _)
   | (with_reducible exact ih1 _ _ _ _ _)
   | (with_reducible exact ih2 _ _ _ _)
   | (with_reducible exact ih3 _ _ _ _ _)
   | (with_reducible exact ih4 _ _ _ _ _)
   | (with_reducible exact ih5 _ _ _ _)
   | (with_reducible exact ih6 _ _ _ _)
   | (with_reducible exact grapevineref05_atom.mono _ _ _ _ _ _ _ _ _ _)
   | (with_reducible exact LeO.refl _)
   | (with_reducible exact LeO.none _)
   | (with_reducible refine LeO.ite ?_ ?_)
   | (with_reducible refine LeO.bind ?_ (fun _ => ?_))
   | exact ih0 _ _ _
   | exact ih1 _ _ _ _ _
   | exact ih2 _ _ _ _
   | exact ih3 _ _ _ _ _
   | exact ih4 _ _ _ _ _
   | exact ih5 _ _ _ _
   | exact ih6 _ _ _ _
   | exact grapevineref05_atom.mono _ _ _ _ _ _ _ _ _ _
   | exact LeO.none _
   | refine LeO.ite ?_ ?_
   | refine LeO.bind ?_ (fun _ => ?_)
  ·intro y0 y1 y2 y3
   unfold grapevineref05_Check.j5
   repeat' first
   | (with_reducible exact ih0 _ _ _)
   | (with_reducible exact ih1 _ _ _ _ _)
   | (with_reducible exact ih2 _ _ _ _)
   | (with_reducible exact ih3 _ _ _ _ _)
   | (with_reducible exact ih4 _ _ _ _ _)
   | (with_reducible exact ih5 _ _ _ _)
   | (with_reducible exact ih6 _ _ _ _)
   | (with_reducible exact grapevineref05_atom.mono _ _ _ _ _ _ _ _ _ _)
   | (with_reducible exact LeO.refl _)
   | (with_reducible exact LeO.none _)
   | (with_reducible refine LeO.ite ?_ ?_)
   | (with_reducible refine LeO.bind ?_ (fun _ => ?_))
   | exact ih0 _ _ _
   | exact ih1 _ _ _ _ _
   | exact ih2 _ _ _ _
   | exact ih3 _ _ _ _ _
   | exact ih4 _ _ _ _ _
   | exact ih5 _ _ _ _
   | exact ih6 _ _ _ _
   | exact grapevineref05_atom.mono _ _ _ _ _ _ _ _ _ _
   | exact LeO.none _
   | refine LeO.ite ?_ ?_
   | refine LeO.bind ?_ (fun _ => ?_)
  ·intro y0 y1 y2 y3
   unfold grapevineref05_Check.j6
   repeat' first
   | (with_reducible exact ih0 _ _ _)
   | (with_reducible exact ih1 _ _ _ _ _)
   | (with_reducible exact ih2 _ _ _ _)
   | (with_reducible exact ih3 _ _ _ _ _)
   | (with_reducible exact ih4 _ _ _ _ _)
   | (with_reducible exact ih5 _ _ _ _)
   | (with_reducible exact ih6 _ _ _ _)
   | (with_reducible exact grapevineref05_atom.mono _ _ _ _ _ _ _ _ _ _)
   | (with_reducible exact LeO.refl _)
   | (with_reducible exact LeO.none _)
   | (with_reducible refine LeO.ite ?_ ?_)
   | (with_reducible refine LeO.bind ?_ (fun _ => ?_))
   | exact ih0 _ _ _
   | exact ih1 _ _ _ _ _
   | exact ih2 _ _ _ _
   | exact ih3 _ _ _ _ _
   | exact ih4 _ _ _ _ _
   | exact ih5 _ _ _ _
   | exact ih6 _ _ _ _
   | exact grapevineref05_atom.mono _ _ _ _ _ _ _ _ _ _
   | exact LeO.none _
   | refine LeO.ite ?_ ?_
   | refine LeO.bind ?_ (fun _ => ?_)
theorem grapevineref05_Check.mono : ∀ a0 k, LeO (grapevineref05_Check.f k a0) (grapevineref05_Check.f (k + 1) a0) := by
 intro a0 k
 obtain ⟨ih0, ih1, ih2, ih3, ih4, ih5, ih6⟩ := grapevineref05_Check.mono_l k
 unfold grapevineref05_Check.f
 repeat' first
   | (with_reducible exact ih0 _ _ _)
   | (with_reducible exact ih1 _ _ _ _ _)
   | (with_reducible exact ih2 _ _ _ _)
   | (with_reducible exact ih3 _ _ _ _ _)
   | (with_reducible exact ih4 _ _ _ _ _)
   | (with_reducible exact ih5 _ _ _ _)
   | (with_reducible exact ih6 _ _ _ _)
   | (with_reducible exact grapevineref05_atom.mono _ _ _ _ _ _ _ _ _ _)
   | (with_reducible exact LeO.refl _)
   | (with_reducible exact LeO.none _)
   | (with_reducible refine LeO.ite ?_ ?_)
   | (with_reducible refine LeO.bind ?_ (fun _ => ?_))
   | exact ih0 _ _ _
   | exact ih1 _ _ _ _ _
   | exact ih2 _ _ _ _
   | exact ih3 _ _ _ _ _
   | exact ih4 _ _ _ _ _
   | exact ih5 _ _ _ _
   | exact ih6 _ _ _ _
   | exact grapevineref05_atom.mono _ _ _ _ _ _ _ _ _ _
   | exact LeO.none _
   | refine LeO.ite ?_ ?_
   | refine LeO.bind ?_ (fun _ => ?_)
set_option maxHeartbeats 8000000 in
set_option maxRecDepth 100000 in
theorem grapevineref05_Check.calls (k : Nat) (A0 : Option Addr) (c0 : Nat) (l0 : List (S54)) (r : Int) (w : World) (hr0 : Kd.C k54 w A0 l0.length l0) (hc0 : l0.length ≤ c0) (h : grapevineref05_Check.f k l0 = some r) :
  Calls Try.prog 28 #[.slice A0 l0.length c0] w fun e w' => e = .returned (.int .i64 r) ∧ Below w.heap.size w w' := by
 have hu54 := Try.underlying54
 have HR0 := Aside0.mk hr0
 have HC0 := Aside0.mk hc0
 clear hr0 hc0
 have HB := Aside0.mk (Below.refl w.heap.size w)
 have H : (if (l0.length : Int) > 48 then (some 6) else (grapevineref05_Check.l0 k l0 0 0)) = some r := h
 clear h
 by_cases c2 : (l0.length : Int) > 48
 ·rw [if_pos c2] at H
  have c2b0 : decide (48 < (l0.length : Int)) = true := decide_eq_true c2
  have c2b1 : decide (48 < l0.length) = true := decide_eq_true (by omega)
  clear c2
  obtain rfl := Option.some.inj H
  go_enter Try.func28, Try.ntmps28
  go_wp2
  go_ret
  exact ⟨by first | rfl | (simp [errW_none, errW_some] <;> rfl) | (simp [*, errW_none, errW_some] <;> rfl), Bl⟩
 ·rw [if_neg c2] at H
  have c2b0 : decide (48 < (l0.length : Int)) = false := decide_eq_false c2
  have c2b1 : decide (48 < l0.length) = false := decide_eq_false (by omega)
  clear c2
  have H' := Aside0.mk H
  clear H
  go_enter Try.func28, Try.ntmps28
  go_wp2
  go_loopg [3, 4] k (fun kq v3 v4 w' => ∃ (x3_1 : Int) (x4_1 : Int), v3 = .int .i64 x3_1 ∧ v4 = .int .i64 x4_1 ∧ Aside0 (grapevineref05_Check.l0 kq l0 x3_1 x4_1 = some r) ∧ Aside0 (kq ≤ k) ∧ Aside0 (Below w.heap.size w w'))
  case atStart => exact ⟨(0), (0), (by first | rfl | (simp; done) | (simp [*]; done)), (by first | rfl | (simp; done) | (simp [*]; done)), H', ⟨Nat.le_refl _⟩, ⟨Bl⟩⟩
  case round =>
   clear H'
   try clear c2b0
   try clear c2b1
   obtain ⟨x3_1, x4_1, rfl, rfl, HA, HK1, HB⟩ := hrel
   cases gk with
   | zero => exact absurd HA.out (by simp [grapevineref05_Check.l0])
   | succ k1 =>
    have H := HA.out
    clear HA
    simp only [grapevineref05_Check.l0] at H
    by_cases c3 : x4_1 < (l0.length : Int)
    ·rw [if_pos c3] at H
     have c3b0 : decide (x4_1 < (l0.length : Int)) = true := decide_eq_true c3
     clear c3
     by_cases c4 : 0 ≤ x4_1
     ·rw [if_pos c4] at H
      have c4b0 : decide (0 ≤ x4_1) = true := decide_eq_true c4
      clear c4
      have HC5 := Aside0.mk H
      clear H
      have p373 : 0 ≤ (x4_1 : Int) := of_decide_eq_true (As)
      have q373 : x4_1 < (l0.length : Int) := of_decide_eq_true (As)
      obtain ⟨ad373, e373, hx373_0, hx373_1, hx373_2, hx373_3, hx373_4, hx373_5, hx373_6, hx373_7, hx373_8⟩ := at_T54 HR0.out x4_1 p373 q373
      cases e373
      replace hx373_0 := (HB.out.cell (World.block_lt_of_cell? w _ hx373_0)).trans hx373_0
      replace hx373_1 := (HB.out.cell (World.block_lt_of_cell? w _ hx373_1)).trans hx373_1
      replace hx373_2 := (HB.out.cell (World.block_lt_of_cell? w _ hx373_2)).trans hx373_2
      replace hx373_3 := (HB.out.cell (World.block_lt_of_cell? w _ hx373_3)).trans hx373_3
      replace hx373_4 := (HB.out.cell (World.block_lt_of_cell? w _ hx373_4)).trans hx373_4
      replace hx373_5 := (HB.out.cell (World.block_lt_of_cell? w _ hx373_5)).trans hx373_5
      replace hx373_6 := (HB.out.cell (World.block_lt_of_cell? w _ hx373_6)).trans hx373_6
      replace hx373_7 := (HB.out.cell (World.block_lt_of_cell? w _ hx373_7)).trans hx373_7
      replace hx373_8 := (HB.out.cell (World.block_lt_of_cell? w _ hx373_8)).trans hx373_8
      replace p373 := eq_true p373
      replace q373 := eq_true q373
      go_upto_region 8 with (fail)
      go_cut [26] (fun v26 wc => ∃ (kq : Nat) (x26_4 : Bool), v26 = .bool x26_4 ∧ Aside0 (grapevineref05_Check.j1 kq l0 x3_1 x4_1 ((rd_T54 l0 x4_1).f0) x26_4 = some r) ∧ Aside0 (kq ≤ k1) ∧ Aside0 (Below w.heap.size w wc))
      case first =>
       have H := HC5.out
       clear HC5
       by_cases c6 : ((rd_T54 l0 x4_1).f0) < 1
       ·rw [if_pos c6] at H
        have c6b0 : decide (((rd_T54 l0 x4_1).f0) < 1) = true := decide_eq_true c6
        clear c6
        (first | rw [c6b0] | (simp only [i64_w, i32_w]; rw [c6b0]) | skip)
        have H' := Aside0.mk H
        clear H
        go_wp2
        go_meet
        case rel => exact ⟨_, (true), (by first | rfl | (simp; done) | (simp [*]; done)), H', ⟨by have := HK1.out; first | omega | exact Nat.le_refl _⟩, ⟨Bl⟩⟩
       ·rw [if_neg c6] at H
        have c6b0 : decide (((rd_T54 l0 x4_1).f0) < 1) = false := decide_eq_false c6
        clear c6
        (first | rw [c6b0] | (simp only [i64_w, i32_w]; rw [c6b0]) | skip)
        have H' := Aside0.mk H
        clear H
        go_wp2
        go_meet
        case rel => exact ⟨_, (decide (((rd_T54 l0 x4_1).f0) > 6)), (by first | rfl | (simp; done) | (simp [*]; done)), H', ⟨by have := HK1.out; first | omega | exact Nat.le_refl _⟩, ⟨Bl⟩⟩
      case rest =>
       clear HC5
       try clear c3b0
       try clear c4b0
       try clear hx373_0
       try clear hx373_1
       try clear hx373_2
       try clear hx373_3
       try clear hx373_4
       try clear hx373_5
       try clear hx373_6
       try clear hx373_7
       try clear hx373_8
       try clear p373
       try clear q373
       obtain ⟨kq, x26_4, rfl, HA, HJ4, HB⟩ := hcut
       cases kq with
       | zero => exact absurd HA.out (by simp [grapevineref05_Check.j1])
       | succ kj4 =>
        have H := HA.out
        clear HA
        simp only [grapevineref05_Check.j1] at H
        by_cases c7 : x26_4 = true
        ·subst c7
         have H1 : (some 2) = some r := by rw [if_pos rfl] at H; exact H
         clear H
         have H := H1
         clear H1
         obtain rfl := Option.some.inj H
         go_wp2
         go_ret
         exact ⟨by first | rfl | (simp [errW_none, errW_some] <;> rfl) | (simp [*, errW_none, errW_some] <;> rfl), Bl⟩
        ·replace c7 := Bool.eq_false_iff.mpr c7
         subst c7
         have H1 : (if ((rd_T54 l0 x4_1).f0) = 3 then (if 0 ≤ x4_1 then (if x4_1 < (l0.length : Int) then ((grapevineref05_atom.f kj4 ((rd_T54 l0 x4_1).f0) ((rd_T54 l0 x4_1).f1) ((rd_T54 l0 x4_1).f2) ((rd_T54 l0 x4_1).f3.f0) ((rd_T54 l0 x4_1).f3.f1) ((rd_T54 l0 x4_1).f3.f2) ((rd_T54 l0 x4_1).f3.f3) ((rd_T54 l0 x4_1).f3.f4) ((rd_T54 l0 x4_1).f4)).bind fun t375 => (if t375 = 0 then (grapevineref05_Check.j2 kj4 l0 x3_1 x4_1 ((rd_T54 l0 x4_1).f0)) else (some t375))) else (none)) else (none)) else (grapevineref05_Check.j2 kj4 l0 x3_1 x4_1 ((rd_T54 l0 x4_1).f0))) = some r := by rw [if_neg (show ¬ (false = true) by decide)] at H; exact H
         clear H
         have H := H1
         clear H1
         have HC8 := Aside0.mk H
         clear H
         go_upto_if 28 with (fail)
         go_cut [] (fun wc => ∃ (kq : Nat), Aside0 (grapevineref05_Check.j2 kq l0 x3_1 x4_1 ((rd_T54 l0 x4_1).f0) = some r) ∧ Aside0 (kq ≤ kj4) ∧ Aside0 (Below w.heap.size w wc))
         case first =>
          have H := HC8.out
          clear HC8
          by_cases c9 : ((rd_T54 l0 x4_1).f0) = 3
          ·rw [if_pos c9] at H
           have c9b0 : (((rd_T54 l0 x4_1).f0) == 3) = true := beq_iff_eq.mpr c9
           have c9b1 : (((rd_T54 l0 x4_1).f0) != 3) = false := bne_eq_false_iff_eq.mpr c9
           clear c9
           (first | rw [c9b0] | (simp only [i64_w, i32_w]; rw [c9b0]) | skip)
           by_cases c10 : 0 ≤ x4_1
           ·rw [if_pos c10] at H
            have c10b0 : decide (0 ≤ x4_1) = true := decide_eq_true c10
            clear c10
            by_cases c11 : x4_1 < (l0.length : Int)
            ·rw [if_pos c11] at H
             have c11b0 : decide (x4_1 < (l0.length : Int)) = true := decide_eq_true c11
             clear c11
             replace H := Option.bind_eq_some_iff.mp H
             obtain ⟨t375, A120, H⟩ := H
             replace H : (if t375 = 0 then (grapevineref05_Check.j2 kj4 l0 x3_1 x4_1 ((rd_T54 l0 x4_1).f0)) else (some t375)) = some r := H
             have A12 := Aside0.mk A120
             clear A120
             by_cases c13 : t375 = 0
             ·rw [if_pos c13] at H
              have c13b0 : (t375 == 0) = true := beq_iff_eq.mpr c13
              have c13b1 : (t375 != 0) = false := bne_eq_false_iff_eq.mpr c13
              clear c13
              have H' := Aside0.mk H
              clear H
              have p374 : 0 ≤ (x4_1 : Int) := of_decide_eq_true (As)
              have q374 : x4_1 < (l0.length : Int) := of_decide_eq_true (As)
              obtain ⟨ad374, e374, hx374_0, hx374_1, hx374_2, hx374_3, hx374_4, hx374_5, hx374_6, hx374_7, hx374_8⟩ := at_T54 HR0.out x4_1 p374 q374
              obtain rfl : ad373 = ad374 := (by injection e374)
              replace hx374_0 := (HB.out.cell (World.block_lt_of_cell? w _ hx374_0)).trans hx374_0
              replace hx374_1 := (HB.out.cell (World.block_lt_of_cell? w _ hx374_1)).trans hx374_1
              replace hx374_2 := (HB.out.cell (World.block_lt_of_cell? w _ hx374_2)).trans hx374_2
              replace hx374_3 := (HB.out.cell (World.block_lt_of_cell? w _ hx374_3)).trans hx374_3
              replace hx374_4 := (HB.out.cell (World.block_lt_of_cell? w _ hx374_4)).trans hx374_4
              replace hx374_5 := (HB.out.cell (World.block_lt_of_cell? w _ hx374_5)).trans hx374_5
              replace hx374_6 := (HB.out.cell (World.block_lt_of_cell? w _ hx374_6)).trans hx374_6
              replace hx374_7 := (HB.out.cell (World.block_lt_of_cell? w _ hx374_7)).trans hx374_7
              replace hx374_8 := (HB.out.cell (World.block_lt_of_cell? w _ hx374_8)).trans hx374_8
              replace p374 := eq_true p374
              replace q374 := eq_true q374
              go_wp2_with (first | ((with_reducible refine gate_callee (f := 53) rfl ?_); refine goesL_ (some 33) rfl rfl Try.func53 (by kernel_rfl) rfl #[.agg #[.int .i64 ((rd_T54 l0 x4_1).f0), .string ((rd_T54 l0 x4_1).f1), .int .i64 ((rd_T54 l0 x4_1).f2), .int .i64 ((rd_T54 l0 x4_1).f3.f0), .int .i64 ((rd_T54 l0 x4_1).f3.f1), .string ((rd_T54 l0 x4_1).f3.f2), .bool ((rd_T54 l0 x4_1).f3.f3), .complex .f64 ((rd_T54 l0 x4_1).f3.f4).re ((rd_T54 l0 x4_1).f3.f4).im, .int .i64 ((rd_T54 l0 x4_1).f4)]] rfl (Mp) ?_; (with_reducible refine (grapevineref05_atom.calls kj4 ((rd_T54 l0 x4_1).f0) ((rd_T54 l0 x4_1).f1) ((rd_T54 l0 x4_1).f2) ((rd_T54 l0 x4_1).f3.f0) ((rd_T54 l0 x4_1).f3.f1) ((rd_T54 l0 x4_1).f3.f2) ((rd_T54 l0 x4_1).f3.f3) ((rd_T54 l0 x4_1).f3.f4) ((rd_T54 l0 x4_1).f4) t375 _ A12.out).mono ?_); rintro e w14 ⟨rfl, hb⟩; refine ⟨_, rfl, ?_⟩; have n0_ := Aside0.mk (below_step (Bl) hb); clear HB; have HB := n0_; clear n0_; (try clear hb); (try clear hb2); (try clear hk); (try clear hi)))
              go_meet
              case rel => exact ⟨_, H', ⟨by have := HK1.out; have := HJ4.out; first | omega | exact Nat.le_refl _⟩, ⟨Bl⟩⟩
             ·rw [if_neg c13] at H
              have c13b0 : (t375 == 0) = false := beq_eq_false_iff_ne.mpr c13
              have c13b1 : (t375 != 0) = true := bne_iff_ne.mpr c13
              obtain rfl := Option.some.inj H
              have p374 : 0 ≤ (x4_1 : Int) := of_decide_eq_true (As)
              have q374 : x4_1 < (l0.length : Int) := of_decide_eq_true (As)
              obtain ⟨ad374, e374, hx374_0, hx374_1, hx374_2, hx374_3, hx374_4, hx374_5, hx374_6, hx374_7, hx374_8⟩ := at_T54 HR0.out x4_1 p374 q374
              obtain rfl : ad373 = ad374 := (by injection e374)
              replace hx374_0 := (HB.out.cell (World.block_lt_of_cell? w _ hx374_0)).trans hx374_0
              replace hx374_1 := (HB.out.cell (World.block_lt_of_cell? w _ hx374_1)).trans hx374_1
              replace hx374_2 := (HB.out.cell (World.block_lt_of_cell? w _ hx374_2)).trans hx374_2
              replace hx374_3 := (HB.out.cell (World.block_lt_of_cell? w _ hx374_3)).trans hx374_3
              replace hx374_4 := (HB.out.cell (World.block_lt_of_cell? w _ hx374_4)).trans hx374_4
              replace hx374_5 := (HB.out.cell (World.block_lt_of_cell? w _ hx374_5)).trans hx374_5
              replace hx374_6 := (HB.out.cell (World.block_lt_of_cell? w _ hx374_6)).trans hx374_6
              replace hx374_7 := (HB.out.cell (World.block_lt_of_cell? w _ hx374_7)).trans hx374_7
              replace hx374_8 := (HB.out.cell (World.block_lt_of_cell? w _ hx374_8)).trans hx374_8
              replace p374 := eq_true p374
              replace q374 := eq_true q374
              go_wp2_with (first | ((with_reducible refine gate_callee (f := 53) rfl ?_); refine goesL_ (some 33) rfl rfl Try.func53 (by kernel_rfl) rfl #[.agg #[.int .i64 ((rd_T54 l0 x4_1).f0), .string ((rd_T54 l0 x4_1).f1), .int .i64 ((rd_T54 l0 x4_1).f2), .int .i64 ((rd_T54 l0 x4_1).f3.f0), .int .i64 ((rd_T54 l0 x4_1).f3.f1), .string ((rd_T54 l0 x4_1).f3.f2), .bool ((rd_T54 l0 x4_1).f3.f3), .complex .f64 ((rd_T54 l0 x4_1).f3.f4).re ((rd_T54 l0 x4_1).f3.f4).im, .int .i64 ((rd_T54 l0 x4_1).f4)]] rfl (Mp) ?_; (with_reducible refine (grapevineref05_atom.calls kj4 ((rd_T54 l0 x4_1).f0) ((rd_T54 l0 x4_1).f1) ((rd_T54 l0 x4_1).f2) ((rd_T54 l0 x4_1).f3.f0) ((rd_T54 l0 x4_1).f3.f1) ((rd_T54 l0 x4_1).f3.f2) ((rd_T54 l0 x4_1).f3.f3) ((rd_T54 l0 x4_1).f3.f4) ((rd_T54 l0 x4_1).f4) t375 _ A12.out).mono ?_); rintro e w15 ⟨rfl, hb⟩; refine ⟨_, rfl, ?_⟩; have n0_ := Aside0.mk (below_step (Bl) hb); clear HB; have HB := n0_; clear n0_; (try clear hb); (try clear hb2); (try clear hk); (try clear hi)))
              go_ret
              exact ⟨by first | rfl | (simp [errW_none, errW_some] <;> rfl) | (simp [*, errW_none, errW_some] <;> rfl), Bl⟩
            ·rw [if_neg c11] at H
             exact absurd H (by simp)
           ·rw [if_neg c10] at H
            exact absurd H (by simp)
          ·rw [if_neg c9] at H
           have c9b0 : (((rd_T54 l0 x4_1).f0) == 3) = false := beq_eq_false_iff_ne.mpr c9
           have c9b1 : (((rd_T54 l0 x4_1).f0) != 3) = true := bne_iff_ne.mpr c9
           (first | rw [c9b0] | (simp only [i64_w, i32_w]; rw [c9b0]) | skip)
           have H' := Aside0.mk H
           clear H
           go_wp2
           go_meet
           case rel => exact ⟨_, H', ⟨by have := HK1.out; have := HJ4.out; first | omega | exact Nat.le_refl _⟩, ⟨Bl⟩⟩
         case rest =>
          clear HC8
          obtain ⟨kq, HA, HJ7, HB⟩ := hcut
          cases kq with
          | zero => exact absurd HA.out (by simp [grapevineref05_Check.j2])
          | succ kj7 =>
           have H := HA.out
           clear HA
           simp only [grapevineref05_Check.j2] at H
           have HC16 := Aside0.mk H
           clear H
           go_upto_region 14 with (fail)
           go_cut [54] (fun v54 wc => ∃ (kq : Nat) (x54_15 : Bool), v54 = .bool x54_15 ∧ Aside0 (grapevineref05_Check.j3 kq l0 x3_1 x4_1 ((rd_T54 l0 x4_1).f0) x54_15 = some r) ∧ Aside0 (kq ≤ kj7) ∧ Aside0 (Below w.heap.size w wc))
           case first =>
            have H := HC16.out
            clear HC16
            by_cases c17 : ((rd_T54 l0 x4_1).f0) = 4
            ·rw [if_pos c17] at H
             have c17b0 : (((rd_T54 l0 x4_1).f0) == 4) = true := beq_iff_eq.mpr c17
             have c17b1 : (((rd_T54 l0 x4_1).f0) != 4) = false := bne_eq_false_iff_eq.mpr c17
             clear c17
             (first | rw [c17b0] | (simp only [i64_w, i32_w]; rw [c17b0]) | skip)
             by_cases c18 : x3_1 < 1
             ·rw [if_pos c18] at H
              have c18b0 : decide (x3_1 < 1) = true := decide_eq_true c18
              clear c18
              have H' := Aside0.mk H
              clear H
              go_wp2
              go_meet
              case rel => exact ⟨_, (true), (by first | rfl | (simp; done) | (simp [*]; done)), H', ⟨by have := HK1.out; have := HJ4.out; have := HJ7.out; first | omega | exact Nat.le_refl _⟩, ⟨Bl⟩⟩
             ·rw [if_neg c18] at H
              have c18b0 : decide (x3_1 < 1) = false := decide_eq_false c18
              clear c18
              by_cases c19 : ((rd_T54 l0 x4_1).f0) = 5
              ·rw [if_pos c19] at H
               have c19b0 : (((rd_T54 l0 x4_1).f0) == 5) = true := beq_iff_eq.mpr c19
               have c19b1 : (((rd_T54 l0 x4_1).f0) != 5) = false := bne_eq_false_iff_eq.mpr c19
               clear c19
               have H' := Aside0.mk H
               clear H
               go_wp2
               go_meet
               case rel => exact ⟨_, (decide (x3_1 < 2)), (by first | rfl | (simp; done) | (simp [*]; done)), H', ⟨by have := HK1.out; have := HJ4.out; have := HJ7.out; first | omega | exact Nat.le_refl _⟩, ⟨Bl⟩⟩
              ·rw [if_neg c19] at H
               have c19b0 : (((rd_T54 l0 x4_1).f0) == 5) = false := beq_eq_false_iff_ne.mpr c19
               have c19b1 : (((rd_T54 l0 x4_1).f0) != 5) = true := bne_iff_ne.mpr c19
               by_cases c20 : ((rd_T54 l0 x4_1).f0) = 6
               ·rw [if_pos c20] at H
                have c20b0 : (((rd_T54 l0 x4_1).f0) == 6) = true := beq_iff_eq.mpr c20
                have c20b1 : (((rd_T54 l0 x4_1).f0) != 6) = false := bne_eq_false_iff_eq.mpr c20
                clear c20
                have H' := Aside0.mk H
                clear H
                go_wp2
                go_meet
                case rel => exact ⟨_, (decide (x3_1 < 2)), (by first | rfl | (simp; done) | (simp [*]; done)), H', ⟨by have := HK1.out; have := HJ4.out; have := HJ7.out; first | omega | exact Nat.le_refl _⟩, ⟨Bl⟩⟩
               ·rw [if_neg c20] at H
                have c20b0 : (((rd_T54 l0 x4_1).f0) == 6) = false := beq_eq_false_iff_ne.mpr c20
                have c20b1 : (((rd_T54 l0 x4_1).f0) != 6) = true := bne_iff_ne.mpr c20
                have H' := Aside0.mk H
                clear H
                go_wp2
                go_meet
                case rel => exact ⟨_, (false), (by first | rfl | (simp; done) | (simp [*]; done)), H', ⟨by have := HK1.out; have := HJ4.out; have := HJ7.out; first | omega | exact Nat.le_refl _⟩, ⟨Bl⟩⟩
            ·rw [if_neg c17] at H
             have c17b0 : (((rd_T54 l0 x4_1).f0) == 4) = false := beq_eq_false_iff_ne.mpr c17
             have c17b1 : (((rd_T54 l0 x4_1).f0) != 4) = true := bne_iff_ne.mpr c17
             (first | rw [c17b0] | (simp only [i64_w, i32_w]; rw [c17b0]) | skip)
             by_cases c21 : ((rd_T54 l0 x4_1).f0) = 5
             ·rw [if_pos c21] at H
              have c21b0 : (((rd_T54 l0 x4_1).f0) == 5) = true := beq_iff_eq.mpr c21
              have c21b1 : (((rd_T54 l0 x4_1).f0) != 5) = false := bne_eq_false_iff_eq.mpr c21
              clear c21
              have H' := Aside0.mk H
              clear H
              go_wp2
              go_meet
              case rel => exact ⟨_, (decide (x3_1 < 2)), (by first | rfl | (simp; done) | (simp [*]; done)), H', ⟨by have := HK1.out; have := HJ4.out; have := HJ7.out; first | omega | exact Nat.le_refl _⟩, ⟨Bl⟩⟩
             ·rw [if_neg c21] at H
              have c21b0 : (((rd_T54 l0 x4_1).f0) == 5) = false := beq_eq_false_iff_ne.mpr c21
              have c21b1 : (((rd_T54 l0 x4_1).f0) != 5) = true := bne_iff_ne.mpr c21
              by_cases c22 : ((rd_T54 l0 x4_1).f0) = 6
              ·rw [if_pos c22] at H
               have c22b0 : (((rd_T54 l0 x4_1).f0) == 6) = true := beq_iff_eq.mpr c22
               have c22b1 : (((rd_T54 l0 x4_1).f0) != 6) = false := bne_eq_false_iff_eq.mpr c22
               clear c22
               have H' := Aside0.mk H
               clear H
               go_wp2
               go_meet
               case rel => exact ⟨_, (decide (x3_1 < 2)), (by first | rfl | (simp; done) | (simp [*]; done)), H', ⟨by have := HK1.out; have := HJ4.out; have := HJ7.out; first | omega | exact Nat.le_refl _⟩, ⟨Bl⟩⟩
              ·rw [if_neg c22] at H
               have c22b0 : (((rd_T54 l0 x4_1).f0) == 6) = false := beq_eq_false_iff_ne.mpr c22
               have c22b1 : (((rd_T54 l0 x4_1).f0) != 6) = true := bne_iff_ne.mpr c22
               have H' := Aside0.mk H
               clear H
               go_wp2
               go_meet
               case rel => exact ⟨_, (false), (by first | rfl | (simp; done) | (simp [*]; done)), H', ⟨by have := HK1.out; have := HJ4.out; have := HJ7.out; first | omega | exact Nat.le_refl _⟩, ⟨Bl⟩⟩
           case rest =>
            clear HC16
            obtain ⟨kq, x54_15, rfl, HA, HJ15, HB⟩ := hcut
            cases kq with
            | zero => exact absurd HA.out (by simp [grapevineref05_Check.j3])
            | succ kj15 =>
             have H := HA.out
             clear HA
             simp only [grapevineref05_Check.j3] at H
             by_cases c23 : x54_15 = true
             ·subst c23
              have H1 : (some 4) = some r := by rw [if_pos rfl] at H; exact H
              clear H
              have H := H1
              clear H1
              obtain rfl := Option.some.inj H
              go_wp2
              go_ret
              exact ⟨by first | rfl | (simp [errW_none, errW_some] <;> rfl) | (simp [*, errW_none, errW_some] <;> rfl), Bl⟩
             ·replace c23 := Bool.eq_false_iff.mpr c23
              subst c23
              have H1 : (if ((rd_T54 l0 x4_1).f0) = 1 then (grapevineref05_Check.j4 kj15 l0 x3_1 x4_1 ((rd_T54 l0 x4_1).f0) true) else (if ((rd_T54 l0 x4_1).f0) = 2 then (grapevineref05_Check.j4 kj15 l0 x3_1 x4_1 ((rd_T54 l0 x4_1).f0) true) else (grapevineref05_Check.j4 kj15 l0 x3_1 x4_1 ((rd_T54 l0 x4_1).f0) (((rd_T54 l0 x4_1).f0) == 3)))) = some r := by rw [if_neg (show ¬ (false = true) by decide)] at H; exact H
              clear H
              have H := H1
              clear H1
              have HC24 := Aside0.mk H
              clear H
              go_upto_region 16 with (fail)
              go_cut [64] (fun v64 wc => ∃ (kq : Nat) (x64_23 : Bool), v64 = .bool x64_23 ∧ Aside0 (grapevineref05_Check.j4 kq l0 x3_1 x4_1 ((rd_T54 l0 x4_1).f0) x64_23 = some r) ∧ Aside0 (kq ≤ kj15) ∧ Aside0 (Below w.heap.size w wc))
              case first =>
               have H := HC24.out
               clear HC24
               by_cases c25 : ((rd_T54 l0 x4_1).f0) = 1
               ·rw [if_pos c25] at H
                have c25b0 : (((rd_T54 l0 x4_1).f0) == 1) = true := beq_iff_eq.mpr c25
                have c25b1 : (((rd_T54 l0 x4_1).f0) != 1) = false := bne_eq_false_iff_eq.mpr c25
                clear c25
                (first | rw [c25b0] | (simp only [i64_w, i32_w]; rw [c25b0]) | skip)
                have H' := Aside0.mk H
                clear H
                go_wp2
                go_meet
                case rel => exact ⟨_, (true), (by first | rfl | (simp; done) | (simp [*]; done)), H', ⟨by have := HK1.out; have := HJ4.out; have := HJ7.out; have := HJ15.out; first | omega | exact Nat.le_refl _⟩, ⟨Bl⟩⟩
               ·rw [if_neg c25] at H
                have c25b0 : (((rd_T54 l0 x4_1).f0) == 1) = false := beq_eq_false_iff_ne.mpr c25
                have c25b1 : (((rd_T54 l0 x4_1).f0) != 1) = true := bne_iff_ne.mpr c25
                (first | rw [c25b0] | (simp only [i64_w, i32_w]; rw [c25b0]) | skip)
                by_cases c26 : ((rd_T54 l0 x4_1).f0) = 2
                ·rw [if_pos c26] at H
                 have c26b0 : (((rd_T54 l0 x4_1).f0) == 2) = true := beq_iff_eq.mpr c26
                 have c26b1 : (((rd_T54 l0 x4_1).f0) != 2) = false := bne_eq_false_iff_eq.mpr c26
                 clear c26
                 have H' := Aside0.mk H
                 clear H
                 go_wp2
                 go_meet
                 case rel => exact ⟨_, (true), (by first | rfl | (simp; done) | (simp [*]; done)), H', ⟨by have := HK1.out; have := HJ4.out; have := HJ7.out; have := HJ15.out; first | omega | exact Nat.le_refl _⟩, ⟨Bl⟩⟩
                ·rw [if_neg c26] at H
                 have c26b0 : (((rd_T54 l0 x4_1).f0) == 2) = false := beq_eq_false_iff_ne.mpr c26
                 have c26b1 : (((rd_T54 l0 x4_1).f0) != 2) = true := bne_iff_ne.mpr c26
                 have H' := Aside0.mk H
                 clear H
                 go_wp2
                 go_meet
                 case rel => exact ⟨_, ((((rd_T54 l0 x4_1).f0) == 3)), (by first | rfl | (simp; done) | (simp [*]; done)), H', ⟨by have := HK1.out; have := HJ4.out; have := HJ7.out; have := HJ15.out; first | omega | exact Nat.le_refl _⟩, ⟨Bl⟩⟩
              case rest =>
               clear HC24
               obtain ⟨kq, x64_23, rfl, HA, HJ23, HB⟩ := hcut
               cases kq with
               | zero => exact absurd HA.out (by simp [grapevineref05_Check.j4])
               | succ kj23 =>
                have H := HA.out
                clear HA
                simp only [grapevineref05_Check.j4] at H
                have HC27 := Aside0.mk H
                clear H
                go_upto_if 64 with (fail)
                go_cut [3] (fun v3 wc => ∃ (kq : Nat) (x3_26 : Int), v3 = .int .i64 x3_26 ∧ Aside0 (grapevineref05_Check.j5 kq l0 x3_26 x4_1 ((rd_T54 l0 x4_1).f0) = some r) ∧ Aside0 (kq ≤ kj23) ∧ Aside0 (Below w.heap.size w wc))
                case first =>
                 have H := HC27.out
                 clear HC27
                 by_cases c28 : x64_23 = true
                 ·subst c28
                  have H1 : (grapevineref05_Check.j5 kj23 l0 (wrap64 (x3_1 + 1)) x4_1 ((rd_T54 l0 x4_1).f0)) = some r := by rw [if_pos rfl] at H; exact H
                  clear H
                  have H := H1
                  clear H1
                  have H' := Aside0.mk H
                  clear H
                  go_wp2
                  go_meet
                  case rel => exact ⟨_, (wrap64 (x3_1 + 1)), (by first | rfl | (simp; done) | (simp [*]; done)), H', ⟨by have := HK1.out; have := HJ4.out; have := HJ7.out; have := HJ15.out; have := HJ23.out; first | omega | exact Nat.le_refl _⟩, ⟨Bl⟩⟩
                 ·replace c28 := Bool.eq_false_iff.mpr c28
                  subst c28
                  have H1 : (grapevineref05_Check.j5 kj23 l0 x3_1 x4_1 ((rd_T54 l0 x4_1).f0)) = some r := by rw [if_neg (show ¬ (false = true) by decide)] at H; exact H
                  clear H
                  have H := H1
                  clear H1
                  have H' := Aside0.mk H
                  clear H
                  go_wp2
                  go_meet
                  case rel => exact ⟨_, (x3_1), (by first | rfl | (simp; done) | (simp [*]; done)), H', ⟨by have := HK1.out; have := HJ4.out; have := HJ7.out; have := HJ15.out; have := HJ23.out; first | omega | exact Nat.le_refl _⟩, ⟨Bl⟩⟩
                case rest =>
                 clear HC27
                 obtain ⟨kq, x3_26, rfl, HA, HJ26, HB⟩ := hcut
                 cases kq with
                 | zero => exact absurd HA.out (by simp [grapevineref05_Check.j5])
                 | succ kj26 =>
                  have H := HA.out
                  clear HA
                  simp only [grapevineref05_Check.j5] at H
                  have HC29 := Aside0.mk H
                  clear H
                  go_upto_region 18 with (fail)
                  go_cut [72] (fun v72 wc => ∃ (kq : Nat) (x72_28 : Bool), v72 = .bool x72_28 ∧ Aside0 (grapevineref05_Check.j6 kq l0 x3_26 x4_1 x72_28 = some r) ∧ Aside0 (kq ≤ kj26) ∧ Aside0 (Below w.heap.size w wc))
                  case first =>
                   have H := HC29.out
                   clear HC29
                   by_cases c30 : ((rd_T54 l0 x4_1).f0) = 5
                   ·rw [if_pos c30] at H
                    have c30b0 : (((rd_T54 l0 x4_1).f0) == 5) = true := beq_iff_eq.mpr c30
                    have c30b1 : (((rd_T54 l0 x4_1).f0) != 5) = false := bne_eq_false_iff_eq.mpr c30
                    clear c30
                    (first | rw [c30b0] | (simp only [i64_w, i32_w]; rw [c30b0]) | skip)
                    have H' := Aside0.mk H
                    clear H
                    go_wp2
                    go_meet
                    case rel => exact ⟨_, (true), (by first | rfl | (simp; done) | (simp [*]; done)), H', ⟨by have := HK1.out; have := HJ4.out; have := HJ7.out; have := HJ15.out; have := HJ23.out; have := HJ26.out; first | omega | exact Nat.le_refl _⟩, ⟨Bl⟩⟩
                   ·rw [if_neg c30] at H
                    have c30b0 : (((rd_T54 l0 x4_1).f0) == 5) = false := beq_eq_false_iff_ne.mpr c30
                    have c30b1 : (((rd_T54 l0 x4_1).f0) != 5) = true := bne_iff_ne.mpr c30
                    (first | rw [c30b0] | (simp only [i64_w, i32_w]; rw [c30b0]) | skip)
                    have H' := Aside0.mk H
                    clear H
                    go_wp2
                    go_meet
                    case rel => exact ⟨_, ((((rd_T54 l0 x4_1).f0) == 6)), (by first | rfl | (simp; done) | (simp [*]; done)), H', ⟨by have := HK1.out; have := HJ4.out; have := HJ7.out; have := HJ15.out; have := HJ23.out; have := HJ26.out; first | omega | exact Nat.le_refl _⟩, ⟨Bl⟩⟩
                  case rest =>
                   clear HC29
                   obtain ⟨kq, x72_28, rfl, HA, HJ28, HB⟩ := hcut
                   cases kq with
                   | zero => exact absurd HA.out (by simp [grapevineref05_Check.j6])
                   | succ kj28 =>
                    have H := HA.out
                    clear HA
                    simp only [grapevineref05_Check.j6] at H
                    by_cases c31 : x72_28 = true
                    ·subst c31
                     have H1 : (if (wrap64 (x3_26 - 1)) > 16 then (some 6) else (grapevineref05_Check.l0 kj28 l0 (wrap64 (x3_26 - 1)) (wrap64 (x4_1 + 1)))) = some r := by rw [if_pos rfl] at H; exact H
                     clear H
                     have H := H1
                     clear H1
                     by_cases c32 : (wrap64 (x3_26 - 1)) > 16
                     ·rw [if_pos c32] at H
                      have c32b0 : decide (16 < (wrap64 (x3_26 - 1))) = true := decide_eq_true c32
                      clear c32
                      obtain rfl := Option.some.inj H
                      go_wp2
                      go_ret
                      exact ⟨by first | rfl | (simp [errW_none, errW_some] <;> rfl) | (simp [*, errW_none, errW_some] <;> rfl), Bl⟩
                     ·rw [if_neg c32] at H
                      have c32b0 : decide (16 < (wrap64 (x3_26 - 1))) = false := decide_eq_false c32
                      clear c32
                      have H' := Aside0.mk H
                      clear H
                      go_wp2
                      go_roundg kj28
                      case measure => have := HK1.out; have := HJ4.out; have := HJ7.out; have := HJ15.out; have := HJ23.out; have := HJ26.out; have := HJ28.out; omega
                      case rel => exact ⟨(wrap64 (x3_26 - 1)), (wrap64 (x4_1 + 1)), (by first | rfl | (simp; done) | (simp [*]; done)), (by first | rfl | (simp; done) | (simp [*]; done)), H', ⟨by have := HK1.out; have := HJ4.out; have := HJ7.out; have := HJ15.out; have := HJ23.out; have := HJ26.out; have := HJ28.out; omega⟩, ⟨Bl⟩⟩
                    ·replace c31 := Bool.eq_false_iff.mpr c31
                     subst c31
                     have H1 : (if x3_26 > 16 then (some 6) else (grapevineref05_Check.l0 kj28 l0 x3_26 (wrap64 (x4_1 + 1)))) = some r := by rw [if_neg (show ¬ (false = true) by decide)] at H; exact H
                     clear H
                     have H := H1
                     clear H1
                     by_cases c33 : x3_26 > 16
                     ·rw [if_pos c33] at H
                      have c33b0 : decide (16 < x3_26) = true := decide_eq_true c33
                      clear c33
                      obtain rfl := Option.some.inj H
                      go_wp2
                      go_ret
                      exact ⟨by first | rfl | (simp [errW_none, errW_some] <;> rfl) | (simp [*, errW_none, errW_some] <;> rfl), Bl⟩
                     ·rw [if_neg c33] at H
                      have c33b0 : decide (16 < x3_26) = false := decide_eq_false c33
                      clear c33
                      have H' := Aside0.mk H
                      clear H
                      go_wp2
                      go_roundg kj28
                      case measure => have := HK1.out; have := HJ4.out; have := HJ7.out; have := HJ15.out; have := HJ23.out; have := HJ26.out; have := HJ28.out; omega
                      case rel => exact ⟨(x3_26), (wrap64 (x4_1 + 1)), (by first | rfl | (simp; done) | (simp [*]; done)), (by first | rfl | (simp; done) | (simp [*]; done)), H', ⟨by have := HK1.out; have := HJ4.out; have := HJ7.out; have := HJ15.out; have := HJ23.out; have := HJ26.out; have := HJ28.out; omega⟩, ⟨Bl⟩⟩
     ·rw [if_neg c4] at H
      exact absurd H (by simp)
    ·rw [if_neg c3] at H
     have c3b0 : decide (x4_1 < (l0.length : Int)) = false := decide_eq_false c3
     clear c3
     by_cases c34 : x3_1 = 1
     ·rw [if_pos c34] at H
      have c34b0 : (x3_1 == 1) = true := beq_iff_eq.mpr c34
      have c34b1 : (x3_1 != 1) = false := bne_eq_false_iff_eq.mpr c34
      clear c34
      obtain rfl := Option.some.inj H
      go_wp2
      go_ret
      exact ⟨by first | rfl | (simp [errW_none, errW_some] <;> rfl) | (simp [*, errW_none, errW_some] <;> rfl), Bl⟩
     ·rw [if_neg c34] at H
      have c34b0 : (x3_1 == 1) = false := beq_eq_false_iff_ne.mpr c34
      have c34b1 : (x3_1 != 1) = true := bne_iff_ne.mpr c34
      obtain rfl := Option.some.inj H
      go_wp2
      go_ret
      exact ⟨by first | rfl | (simp [errW_none, errW_some] <;> rfl) | (simp [*, errW_none, errW_some] <;> rfl), Bl⟩

end Go.Proofs.Ytmgljgmieomngaa.Q
