/- Functions of the program as Lean functions, each with its walk: that the Go code comes to just these answers, whatever the memory. Written by a program of this claim (wip/tools). -/
import Derived.Test.YtmgljgmieomngaaMc
import Derived.Test.YtmgljgmieomngaaQx0
import Derived.Test.YtmgljgmieomngaaQx40
import Derived.Test.YtmgljgmieomngaaQx41
import Derived.Test.YtmgljgmieomngaaQx49
import Derived.Test.YtmgljgmieomngaaQx64
namespace Go.Proofs.Ytmgljgmieomngaa.Q
open Go.RowKit Go.Proofs.YtmgljgmieomngaaW.PrintWords Go.Proofs.YtmgljgmieomngaaW.PrintLast Go.Proofs.YtmgljgmieomngaaW.PrintMore
attribute [local go_sem] run_ftoi isSome_setCell bytesLess_total run_store_complex run_store_float max2_int min2_int max_two min_two max_three min_three max_four min_four   -- for this text's walks alone
set_option linter.unusedVariables false
set_option linter.unusedSimpArgs false

/-! ### grapevinelaw05_PredTakes: function 5 -/
def grapevinelaw05_PredTakes.f (k : Nat) (l0 : List Int) (a1 : Int) : Option (Bool) := (pred_Take.f k l0 a1).bind fun bt403 => ((grapevineref05_Take.f k l0 a1).bind fun bt408 => ((grapevinelaw05_live.f).bind fun t413 => (if t413 = true then ((grapevineref05_Same.f k bt403.1 bt408.1).bind fun t414 => (if t414 = true then (if bt403.2.1 = bt408.2.1 then (some (bt403.2.2 == bt408.2.2)) else (some false)) else (some false))) else (some false))))
theorem grapevinelaw05_PredTakes.mono : ∀ a0 a1 k, LeO (grapevinelaw05_PredTakes.f k a0 a1) (grapevinelaw05_PredTakes.f (k + 1) a0 a1) := by
 intro a0 a1 k
 unfold grapevinelaw05_PredTakes.f
 repeat' first
   | (with_reducible exact grapevineref05_Same.mono _ _ _)
   | (with_reducible exact grapevineref05_Take.mono _ _ _)
   | (with_reducible exact pred_Take.mono _ _ _)
   | (with_reducible exact LeO.refl _)
   | (with_reducible exact LeO.none _)
   | (with_reducible refine LeO.ite ?_ ?_)
   | (with_reducible refine LeO.bind ?_ (fun _ => ?_))
   | exact grapevineref05_Same.mono _ _ _
   | exact grapevineref05_Take.mono _ _ _
   | exact pred_Take.mono _ _ _
   | exact LeO.none _
   | refine LeO.ite ?_ ?_
   | refine LeO.bind ?_ (fun _ => ?_)
set_option maxHeartbeats 8000000 in
set_option maxRecDepth 100000 in
theorem grapevinelaw05_PredTakes.calls (k : Nat) (A0 : Option Addr) (c0 : Nat) (l0 : List Int) (a1 : Int) (r : Bool) (w : World) (hr0 : Kd.C (Kd.int .u8) w A0 l0.length l0) (hc0 : l0.length ≤ c0) (h : grapevinelaw05_PredTakes.f k l0 a1 = some r) (hr_ : r = true := by rfl) :
  Calls Try.prog 5 #[.slice A0 l0.length c0, .int .i64 a1] w fun e w' => e = .returned (.bool r) ∧ Below w.heap.size w w' := by
 have HR0 := Aside0.mk hr0
 have HC0 := Aside0.mk hc0
 clear hr0 hc0
 have HB := Aside0.mk (Below.refl w.heap.size w)
 have H : ((pred_Take.f k l0 a1).bind fun bt403 => ((grapevineref05_Take.f k l0 a1).bind fun bt408 => ((grapevinelaw05_live.f).bind fun t413 => (if t413 = true then ((grapevineref05_Same.f k bt403.1 bt408.1).bind fun t414 => (if t414 = true then (if bt403.2.1 = bt408.2.1 then (some (bt403.2.2 == bt408.2.2)) else (some false)) else (some false))) else (some false))))) = some r := h
 clear h
 replace H := Option.bind_eq_some_iff.mp H
 obtain ⟨⟨t403, t404, t405⟩, A30, H⟩ := H
 replace H : ((grapevineref05_Take.f k l0 a1).bind fun bt408 => ((grapevinelaw05_live.f).bind fun t413 => (if t413 = true then ((grapevineref05_Same.f k t403 bt408.1).bind fun t414 => (if t414 = true then (if t404 = bt408.2.1 then (some (t405 == bt408.2.2)) else (some false)) else (some false))) else (some false)))) = some r := H
 have A3 := Aside0.mk A30
 clear A30
 replace H := Option.bind_eq_some_iff.mp H
 obtain ⟨⟨t408, t409, t410⟩, A40, H⟩ := H
 replace H : ((grapevinelaw05_live.f).bind fun t413 => (if t413 = true then ((grapevineref05_Same.f k t403 t408).bind fun t414 => (if t414 = true then (if t404 = t409 then (some (t405 == t410)) else (some false)) else (some false))) else (some false))) = some r := H
 have A4 := Aside0.mk A40
 clear A40
 replace H := Option.bind_eq_some_iff.mp H
 obtain ⟨t413, A50, H⟩ := H
 replace H : (if t413 = true then ((grapevineref05_Same.f k t403 t408).bind fun t414 => (if t414 = true then (if t404 = t409 then (some (t405 == t410)) else (some false)) else (some false))) else (some false)) = some r := H
 have A5 := Aside0.mk A50
 clear A50
 by_cases c6 : t413 = true
 ·subst c6
  have H1 : ((grapevineref05_Same.f k t403 t408).bind fun t414 => (if t414 = true then (if t404 = t409 then (some (t405 == t410)) else (some false)) else (some false))) = some r := by rw [if_pos rfl] at H; exact H
  clear H
  have H := H1
  clear H1
  replace H := Option.bind_eq_some_iff.mp H
  obtain ⟨t414, A70, H⟩ := H
  replace H : (if t414 = true then (if t404 = t409 then (some (t405 == t410)) else (some false)) else (some false)) = some r := H
  have A7 := Aside0.mk A70
  clear A70
  by_cases c8 : t414 = true
  ·subst c8
   have H1 : (if t404 = t409 then (some (t405 == t410)) else (some false)) = some r := by rw [if_pos rfl] at H; exact H
   clear H
   have H := H1
   clear H1
   by_cases c9 : t404 = t409
   ·rw [if_pos c9] at H
    have c9b0 : (t404 == t409) = true := beq_iff_eq.mpr c9
    have c9b1 : (t404 != t409) = false := bne_eq_false_iff_eq.mpr c9
    clear c9
    obtain rfl := Option.some.inj H
    go_enter Try.func5, Try.ntmps5
    go_wp2_with (first | ((with_reducible refine gate_callee (f := 12) rfl ?_); refine goesL_ (some 14) rfl rfl Try.func12 (by kernel_rfl) rfl #[.slice A0 l0.length c0, .int .i64 a1] rfl (Mp) ?_; (with_reducible refine (pred_Take.calls k _ _ l0 a1 t403 t404 t405 _ ?side1 ?side2 A3.out).mono ?_); (case side1 => repeat (first | exact HR0.out | (with_reducible refine Kd.C_alloc ?_ _) | (with_reducible refine Kd.C_drewN ?_ _) | (with_reducible refine Kd.C_drew ?_))); (case side2 => exact HC0.out); rintro e w10 ⟨v406, rfl, ho0, hb⟩; refine ⟨_, rfl, ?_⟩; have n0_ := Aside0.mk (Kd.R_lower ho0 (below_size (Bl))); have n1_ := Aside0.mk (below_step (Bl) hb); clear HB; have HO407 := n0_; have HB := n1_; clear n0_ n1_; (try clear hb); (try clear hb2); (try clear hk); (try clear hi); (try clear ho0)) | ((with_reducible refine gate_callee (f := 13) rfl ?_); refine goesL_ (some 21) rfl rfl Try.func13 (by kernel_rfl) rfl #[.slice A0 l0.length c0, .int .i64 a1] rfl (Mp) ?_; (with_reducible refine (grapevineref05_Take.calls k _ _ l0 a1 t408 t409 t410 _ ?side1 ?side2 A4.out).mono ?_); (case side1 => repeat (first | exact (Kd.C_below HR0.out HB.out) | (with_reducible refine Kd.C_alloc ?_ _) | (with_reducible refine Kd.C_drewN ?_ _) | (with_reducible refine Kd.C_drew ?_))); (case side2 => exact HC0.out); rintro e w11 ⟨v411, rfl, ho0, hb⟩; refine ⟨_, rfl, ?_⟩; have n0_ := Aside0.mk (Kd.R_elder' (Rw HO407.out) (Kd.R_base ho0) hb); have n1_ := Aside0.mk (Kd.R_lower (Kd.R_new' ho0 (Kd.R_lt (Rw HO407.out))) (below_size (Bl))); have n2_ := Aside0.mk (below_step (Bl) hb); clear HO407; clear HB; have HO407 := n0_; have HO412 := n1_; have HB := n2_; clear n0_ n1_ n2_; (try clear hb); (try clear hb2); (try clear hk); (try clear hi); (try clear ho0)) | ((with_reducible refine gate_callee (f := 7) rfl ?_); refine goesL_ (some 25) rfl rfl Try.func7 (by kernel_rfl) rfl #[] rfl (Mp) ?_; (with_reducible refine (grapevinelaw05_live.calls  true _ A5.out).mono ?_); rintro e w12 ⟨rfl, hb⟩; refine ⟨_, rfl, ?_⟩; have n0_ := Aside0.mk (Kd.R_below (Rw HO407.out) hb); have n1_ := Aside0.mk (Kd.R_below (Rw HO412.out) hb); have n2_ := Aside0.mk (below_step (Bl) hb); clear HO407; clear HO412; clear HB; have HO407 := n0_; have HO412 := n1_; have HB := n2_; clear n0_ n1_ n2_; (try clear hb); (try clear hb2); (try clear hk); (try clear hi); obtain ⟨Ao13, co13, eo13⟩ := Kd.R_slice HO407.out; subst eo13; obtain ⟨Ao14, co14, eo14⟩ := Kd.R_slice HO412.out; subst eo14) | (go_at_call 9; (with_reducible refine (grapevineref05_Same.calls k _ _ t403 _ _ t408 true _ ?side1 ?side2 ?side3 ?side4 A7.out).mono ?_); (case side1 => repeat (first | exact (Kd.R_reads' HO407.out).2.2 | (with_reducible refine Kd.C_alloc ?_ _) | (with_reducible refine Kd.C_drewN ?_ _) | (with_reducible refine Kd.C_drew ?_))); (case side2 => exact (Kd.R_reads' HO407.out).2.1); (case side3 => repeat (first | exact (Kd.R_reads' HO412.out).2.2 | (with_reducible refine Kd.C_alloc ?_ _) | (with_reducible refine Kd.C_drewN ?_ _) | (with_reducible refine Kd.C_drew ?_))); (case side4 => exact (Kd.R_reads' HO412.out).2.1); rintro e w' ⟨rfl, ⟨nd, rfl⟩⟩))
    go_ret
    exact ⟨by first | rfl | (simp [errW_none, errW_some] <;> rfl) | (simp [*, errW_none, errW_some] <;> rfl), Bl⟩
   ·rw [if_neg c9] at H
    have c9b0 : (t404 == t409) = false := beq_eq_false_iff_ne.mpr c9
    have c9b1 : (t404 != t409) = true := bne_iff_ne.mpr c9
    exact absurd (Option.some.inj H) (by rw [hr_]; decide)
  ·replace c8 := Bool.eq_false_iff.mpr c8
   subst c8
   have H1 : (some false) = some r := by rw [if_neg (show ¬ (false = true) by decide)] at H; exact H
   clear H
   have H := H1
   clear H1
   exact absurd (Option.some.inj H) (by rw [hr_]; decide)
 ·replace c6 := Bool.eq_false_iff.mpr c6
  subst c6
  have H1 : (some false) = some r := by rw [if_neg (show ¬ (false = true) by decide)] at H; exact H
  clear H
  have H := H1
  clear H1
  exact absurd (Option.some.inj H) (by rw [hr_]; decide)

/-- THE ONE PURE STATEMENT of grapevinelaw05_PredTakes: yours. -/
def grapevinelaw05_PredTakes.Pure : Prop := ∀ (l0 : List Int) (a1 : Int), l0.length ≤ maxLen → l0.length * 1 ≤ 140737488351232 → (∀ x ∈ l0, (Lit.int .u8 x).wf = true) → (Lit.int .i64 a1).wf = true → ∃ k, grapevinelaw05_PredTakes.f k l0 a1 = some true
theorem grapevinelaw05_PredTakes.walk (P : grapevinelaw05_PredTakes.Pure) (a0 : Option Addr) (len0 cap0 : Nat) (z0 : List Int) (a1 : Int) (w : World) (w0 : (a0 = none ∧ len0 = 0 ∧ cap0 = 0 ∧ z0 = []) ∨ ∃ x, a0 = some x ∧ len0 ≤ cap0 ∧ cap0 ≤ maxLen ∧ z0.length = cap0 ∧ (∀ i, i < z0.length → w.cell? (x.add i) = some (.int .u8 (z0.getD i 0))) ∧ ∀ n ∈ z0, (Lit.int .u8 n).wf = true) (y0 : len0 * 1 ≤ 140737488351232) (w1 : (Lit.int .i64 a1).wf = true) :
  Calls Try.prog 5 #[.slice a0 len0 cap0, .int .i64 a1] w fun e w' => e = .returned (.bool true) ∧ Below w.heap.size w w' := by
 obtain ⟨l0, rfl, hr0, hm0, hw0, hc0⟩ := ReadsInt.ofRowC w0
 obtain ⟨k, h⟩ := P l0 a1 hm0 y0 hw0 w1
 refine (grapevinelaw05_PredTakes.calls k _ _ l0 a1 true w (Kd.C_of_reads (d := (0 : Int)) (h1 := fun _ => rfl) hr0) hc0 h).mono ?_
 rintro e w' ⟨rfl, hd⟩
 exact ⟨rfl, hd⟩

end Go.Proofs.Ytmgljgmieomngaa.Q
