/- Functions of the program as Lean functions, each with its walk: that the Go code comes to just these answers, whatever the memory. Written by a program of this claim (wip/tools). -/
import Derived.Test.YtmgljgmieomngaaMc
import Derived.Test.YtmgljgmieomngaaQx0
import Derived.Test.YtmgljgmieomngaaQx9
import Derived.Test.YtmgljgmieomngaaQx26
import Derived.Test.YtmgljgmieomngaaQx40
import Derived.Test.YtmgljgmieomngaaQx41
import Derived.Test.YtmgljgmieomngaaQx50
namespace Go.Proofs.Ytmgljgmieomngaa.Q
open Go.RowKit Go.Proofs.YtmgljgmieomngaaW.PrintWords Go.Proofs.YtmgljgmieomngaaW.PrintLast Go.Proofs.YtmgljgmieomngaaW.PrintMore
attribute [local go_sem] run_ftoi isSome_setCell bytesLess_total run_store_complex run_store_float max2_int min2_int max_two min_two max_three min_three max_four min_four   -- for this text's walks alone
set_option linter.unusedVariables false
set_option linter.unusedSimpArgs false

/-! ### grapevinelaw05_PredAgain: function 4 -/
def grapevinelaw05_PredAgain.f (k : Nat) (a0 : ByteArray) : Option (Bool) := (pred_Parse.f a0).bind fun bt314 => (if bt314.2.2 = 0 then ((pred_Print.f k bt314.1).bind fun bt320 => (if bt320.2 = 0 then ((pred_Parse.f bt320.1).bind fun bt322 => ((grapevinelaw05_live.f).bind fun t327 => (if t327 = true then (if bt322.2.2 = 0 then ((grapevineref05_Same.f k bt322.1 bt314.1).bind fun t328 => (some t328)) else (some false)) else (some false)))) else ((grapevinelaw05_live.f).bind fun t329 => (if t329 = true then (if bt320.2 = 6 then ((pred_Check.f k bt314.1).bind fun t330 => (some (t330 == 0))) else (some false)) else (some false))))) else ((grapevinelaw05_live.f).bind fun t319 => (if t319 = true then (some ((bt314.1.length : Int) == 0)) else (some false))))
theorem grapevinelaw05_PredAgain.mono : ∀ a0 k, LeO (grapevinelaw05_PredAgain.f k a0) (grapevinelaw05_PredAgain.f (k + 1) a0) := by
 intro a0 k
 unfold grapevinelaw05_PredAgain.f
 repeat' first
   | (with_reducible exact grapevineref05_Same.mono _ _ _)
   | (with_reducible exact pred_Check.mono _ _)
   | (with_reducible exact pred_Print.mono _ _)
   | (with_reducible exact LeO.refl _)
   | (with_reducible exact LeO.none _)
   | (with_reducible refine LeO.ite ?_ ?_)
   | (with_reducible refine LeO.bind ?_ (fun _ => ?_))
   | exact grapevineref05_Same.mono _ _ _
   | exact pred_Check.mono _ _
   | exact pred_Print.mono _ _
   | exact LeO.none _
   | refine LeO.ite ?_ ?_
   | refine LeO.bind ?_ (fun _ => ?_)
set_option maxHeartbeats 8000000 in
set_option maxRecDepth 100000 in
theorem grapevinelaw05_PredAgain.calls (k : Nat) (a0 : ByteArray) (r : Bool) (w : World) (h : grapevinelaw05_PredAgain.f k a0 = some r) (hr_ : r = true := by rfl) :
  Calls Try.prog 4 #[.string a0] w fun e w' => e = .returned (.bool r) ∧ Below w.heap.size w w' := by
 have HB := Aside0.mk (Below.refl w.heap.size w)
 have H : ((pred_Parse.f a0).bind fun bt314 => (if bt314.2.2 = 0 then ((pred_Print.f k bt314.1).bind fun bt320 => (if bt320.2 = 0 then ((pred_Parse.f bt320.1).bind fun bt322 => ((grapevinelaw05_live.f).bind fun t327 => (if t327 = true then (if bt322.2.2 = 0 then ((grapevineref05_Same.f k bt322.1 bt314.1).bind fun t328 => (some t328)) else (some false)) else (some false)))) else ((grapevinelaw05_live.f).bind fun t329 => (if t329 = true then (if bt320.2 = 6 then ((pred_Check.f k bt314.1).bind fun t330 => (some (t330 == 0))) else (some false)) else (some false))))) else ((grapevinelaw05_live.f).bind fun t319 => (if t319 = true then (some ((bt314.1.length : Int) == 0)) else (some false))))) = some r := h
 clear h
 replace H := Option.bind_eq_some_iff.mp H
 obtain ⟨⟨t314, t315, t316⟩, A20, H⟩ := H
 replace H : (if t316 = 0 then ((pred_Print.f k t314).bind fun bt320 => (if bt320.2 = 0 then ((pred_Parse.f bt320.1).bind fun bt322 => ((grapevinelaw05_live.f).bind fun t327 => (if t327 = true then (if bt322.2.2 = 0 then ((grapevineref05_Same.f k bt322.1 t314).bind fun t328 => (some t328)) else (some false)) else (some false)))) else ((grapevinelaw05_live.f).bind fun t329 => (if t329 = true then (if bt320.2 = 6 then ((pred_Check.f k t314).bind fun t330 => (some (t330 == 0))) else (some false)) else (some false))))) else ((grapevinelaw05_live.f).bind fun t319 => (if t319 = true then (some ((t314.length : Int) == 0)) else (some false)))) = some r := H
 have A2 := Aside0.mk A20
 clear A20
 by_cases c3 : t316 = 0
 ·rw [if_pos c3] at H
  have c3b0 : (t316 == 0) = true := beq_iff_eq.mpr c3
  have c3b1 : (t316 != 0) = false := bne_eq_false_iff_eq.mpr c3
  clear c3
  replace H := Option.bind_eq_some_iff.mp H
  obtain ⟨⟨t320, t321⟩, A40, H⟩ := H
  replace H : (if t321 = 0 then ((pred_Parse.f t320).bind fun bt322 => ((grapevinelaw05_live.f).bind fun t327 => (if t327 = true then (if bt322.2.2 = 0 then ((grapevineref05_Same.f k bt322.1 t314).bind fun t328 => (some t328)) else (some false)) else (some false)))) else ((grapevinelaw05_live.f).bind fun t329 => (if t329 = true then (if t321 = 6 then ((pred_Check.f k t314).bind fun t330 => (some (t330 == 0))) else (some false)) else (some false)))) = some r := H
  have A4 := Aside0.mk A40
  clear A40
  by_cases c5 : t321 = 0
  ·rw [if_pos c5] at H
   have c5b0 : (t321 == 0) = true := beq_iff_eq.mpr c5
   have c5b1 : (t321 != 0) = false := bne_eq_false_iff_eq.mpr c5
   clear c5
   replace H := Option.bind_eq_some_iff.mp H
   obtain ⟨⟨t322, t323, t324⟩, A60, H⟩ := H
   replace H : ((grapevinelaw05_live.f).bind fun t327 => (if t327 = true then (if t324 = 0 then ((grapevineref05_Same.f k t322 t314).bind fun t328 => (some t328)) else (some false)) else (some false))) = some r := H
   have A6 := Aside0.mk A60
   clear A60
   replace H := Option.bind_eq_some_iff.mp H
   obtain ⟨t327, A70, H⟩ := H
   replace H : (if t327 = true then (if t324 = 0 then ((grapevineref05_Same.f k t322 t314).bind fun t328 => (some t328)) else (some false)) else (some false)) = some r := H
   have A7 := Aside0.mk A70
   clear A70
   by_cases c8 : t327 = true
   ·subst c8
    have H1 : (if t324 = 0 then ((grapevineref05_Same.f k t322 t314).bind fun t328 => (some t328)) else (some false)) = some r := by rw [if_pos rfl] at H; exact H
    clear H
    have H := H1
    clear H1
    by_cases c9 : t324 = 0
    ·rw [if_pos c9] at H
     have c9b0 : (t324 == 0) = true := beq_iff_eq.mpr c9
     have c9b1 : (t324 != 0) = false := bne_eq_false_iff_eq.mpr c9
     clear c9
     replace H := Option.bind_eq_some_iff.mp H
     obtain ⟨t328, A100, H⟩ := H
     replace H : (some t328) = some r := H
     have A10 := Aside0.mk A100
     clear A100
     obtain rfl := Option.some.inj H
     go_enter Try.func4, Try.ntmps4
     go_wp2_with (first | ((with_reducible refine gate_callee (f := 8) rfl ?_); refine goesL_ (some 13) rfl rfl Try.func8 (by kernel_rfl) rfl #[.string a0] rfl (Mp) ?_; (with_reducible refine (pred_Parse.calls a0 t314 t315 t316 _ A2.out).mono ?_); rintro e w11 ⟨v317, rfl, ho0, hb⟩; refine ⟨_, rfl, ?_⟩; have n0_ := Aside0.mk (Kd.R_lower ho0 (below_size (Bl))); have n1_ := Aside0.mk (below_step (Bl) hb); clear HB; have HO318 := n0_; have HB := n1_; clear n0_ n1_; (try clear hb); (try clear hb2); (try clear hk); (try clear hi); (try clear ho0); obtain ⟨Ao12, co12, eo12⟩ := Kd.R_slice HO318.out; subst eo12) | ((with_reducible refine gate_callee (f := 10) rfl ?_); refine goesL_ (some 27) rfl rfl Try.func10 (by kernel_rfl) rfl #[.slice Ao12 t314.length co12] rfl (Mp) ?_; (with_reducible refine (pred_Print.calls k _ _ t314 t320 t321 _ ?side1 ?side2 A4.out).mono ?_); (case side1 => repeat (first | exact (Kd.R_reads' HO318.out).2.2 | (with_reducible refine Kd.C_alloc ?_ _) | (with_reducible refine Kd.C_drewN ?_ _) | (with_reducible refine Kd.C_drew ?_))); (case side2 => exact (Kd.R_reads' HO318.out).2.1); rintro e w13 ⟨rfl, hb⟩; refine ⟨_, rfl, ?_⟩; have n0_ := Aside0.mk (Kd.R_below (Rw HO318.out) hb); have n1_ := Aside0.mk (below_step (Bl) hb); clear HO318; clear HB; have HO318 := n0_; have HB := n1_; clear n0_ n1_; (try clear hb); (try clear hb2); (try clear hk); (try clear hi)) | ((with_reducible refine gate_callee (f := 8) rfl ?_); refine goesL_ (some 44) rfl rfl Try.func8 (by kernel_rfl) rfl #[.string t320] rfl (Mp) ?_; (with_reducible refine (pred_Parse.calls t320 t322 t323 t324 _ A6.out).mono ?_); rintro e w14 ⟨v325, rfl, ho0, hb⟩; refine ⟨_, rfl, ?_⟩; have n0_ := Aside0.mk (Kd.R_elder' (Rw HO318.out) (Kd.R_base ho0) hb); have n1_ := Aside0.mk (Kd.R_lower (Kd.R_new' ho0 (Kd.R_lt (Rw HO318.out))) (below_size (Bl))); have n2_ := Aside0.mk (below_step (Bl) hb); clear HO318; clear HB; have HO318 := n0_; have HO326 := n1_; have HB := n2_; clear n0_ n1_ n2_; (try clear hb); (try clear hb2); (try clear hk); (try clear hi); (try clear ho0)) | ((with_reducible refine gate_callee (f := 7) rfl ?_); refine goesL_ (some 48) rfl rfl Try.func7 (by kernel_rfl) rfl #[] rfl (Mp) ?_; (with_reducible refine (grapevinelaw05_live.calls  true _ A7.out).mono ?_); rintro e w15 ⟨rfl, hb⟩; refine ⟨_, rfl, ?_⟩; have n0_ := Aside0.mk (Kd.R_below (Rw HO318.out) hb); have n1_ := Aside0.mk (Kd.R_below (Rw HO326.out) hb); have n2_ := Aside0.mk (below_step (Bl) hb); clear HO318; clear HO326; clear HB; have HO318 := n0_; have HO326 := n1_; have HB := n2_; clear n0_ n1_ n2_; (try clear hb); (try clear hb2); (try clear hk); (try clear hi); obtain ⟨Ao16, co16, eo16⟩ := Kd.R_slice HO326.out; subst eo16) | (go_at_call 9; (with_reducible refine (grapevineref05_Same.calls k _ _ t322 _ _ t314 t328 _ ?side1 ?side2 ?side3 ?side4 A10.out).mono ?_); (case side1 => repeat (first | exact (Kd.R_reads' HO326.out).2.2 | (with_reducible refine Kd.C_alloc ?_ _) | (with_reducible refine Kd.C_drewN ?_ _) | (with_reducible refine Kd.C_drew ?_))); (case side2 => exact (Kd.R_reads' HO326.out).2.1); (case side3 => repeat (first | exact (Kd.R_reads' HO318.out).2.2 | (with_reducible refine Kd.C_alloc ?_ _) | (with_reducible refine Kd.C_drewN ?_ _) | (with_reducible refine Kd.C_drew ?_))); (case side4 => exact (Kd.R_reads' HO318.out).2.1); rintro e w' ⟨rfl, ⟨nd, rfl⟩⟩))
     go_ret
     exact ⟨by first | rfl | (simp [errW_none, errW_some] <;> rfl) | (simp [*, errW_none, errW_some] <;> rfl), Bl⟩
    ·rw [if_neg c9] at H
     have c9b0 : (t324 == 0) = false := beq_eq_false_iff_ne.mpr c9
     have c9b1 : (t324 != 0) = true := bne_iff_ne.mpr c9
     exact absurd (Option.some.inj H) (by rw [hr_]; decide)
   ·replace c8 := Bool.eq_false_iff.mpr c8
    subst c8
    have H1 : (some false) = some r := by rw [if_neg (show ¬ (false = true) by decide)] at H; exact H
    clear H
    have H := H1
    clear H1
    exact absurd (Option.some.inj H) (by rw [hr_]; decide)
  ·rw [if_neg c5] at H
   have c5b0 : (t321 == 0) = false := beq_eq_false_iff_ne.mpr c5
   have c5b1 : (t321 != 0) = true := bne_iff_ne.mpr c5
   replace H := Option.bind_eq_some_iff.mp H
   obtain ⟨t329, A170, H⟩ := H
   replace H : (if t329 = true then (if t321 = 6 then ((pred_Check.f k t314).bind fun t330 => (some (t330 == 0))) else (some false)) else (some false)) = some r := H
   have A17 := Aside0.mk A170
   clear A170
   by_cases c18 : t329 = true
   ·subst c18
    have H1 : (if t321 = 6 then ((pred_Check.f k t314).bind fun t330 => (some (t330 == 0))) else (some false)) = some r := by rw [if_pos rfl] at H; exact H
    clear H
    have H := H1
    clear H1
    by_cases c19 : t321 = 6
    ·rw [if_pos c19] at H
     have c19b0 : (t321 == 6) = true := beq_iff_eq.mpr c19
     have c19b1 : (t321 != 6) = false := bne_eq_false_iff_eq.mpr c19
     clear c19
     replace H := Option.bind_eq_some_iff.mp H
     obtain ⟨t330, A200, H⟩ := H
     replace H : (some (t330 == 0)) = some r := H
     have A20 := Aside0.mk A200
     clear A200
     obtain rfl := Option.some.inj H
     go_enter Try.func4, Try.ntmps4
     go_wp2_with (first | ((with_reducible refine gate_callee (f := 8) rfl ?_); refine goesL_ (some 13) rfl rfl Try.func8 (by kernel_rfl) rfl #[.string a0] rfl (Mp) ?_; (with_reducible refine (pred_Parse.calls a0 t314 t315 t316 _ A2.out).mono ?_); rintro e w21 ⟨v317, rfl, ho0, hb⟩; refine ⟨_, rfl, ?_⟩; have n0_ := Aside0.mk (Kd.R_lower ho0 (below_size (Bl))); have n1_ := Aside0.mk (below_step (Bl) hb); clear HB; have HO318 := n0_; have HB := n1_; clear n0_ n1_; (try clear hb); (try clear hb2); (try clear hk); (try clear hi); (try clear ho0); obtain ⟨Ao22, co22, eo22⟩ := Kd.R_slice HO318.out; subst eo22) | ((with_reducible refine gate_callee (f := 10) rfl ?_); refine goesL_ (some 27) rfl rfl Try.func10 (by kernel_rfl) rfl #[.slice Ao22 t314.length co22] rfl (Mp) ?_; (with_reducible refine (pred_Print.calls k _ _ t314 t320 t321 _ ?side1 ?side2 A4.out).mono ?_); (case side1 => repeat (first | exact (Kd.R_reads' HO318.out).2.2 | (with_reducible refine Kd.C_alloc ?_ _) | (with_reducible refine Kd.C_drewN ?_ _) | (with_reducible refine Kd.C_drew ?_))); (case side2 => exact (Kd.R_reads' HO318.out).2.1); rintro e w23 ⟨rfl, hb⟩; refine ⟨_, rfl, ?_⟩; have n0_ := Aside0.mk (Kd.R_below (Rw HO318.out) hb); have n1_ := Aside0.mk (below_step (Bl) hb); clear HO318; clear HB; have HO318 := n0_; have HB := n1_; clear n0_ n1_; (try clear hb); (try clear hb2); (try clear hk); (try clear hi)) | ((with_reducible refine gate_callee (f := 7) rfl ?_); refine goesL_ (some 32) rfl rfl Try.func7 (by kernel_rfl) rfl #[] rfl (Mp) ?_; (with_reducible refine (grapevinelaw05_live.calls  true _ A17.out).mono ?_); rintro e w24 ⟨rfl, hb⟩; refine ⟨_, rfl, ?_⟩; have n0_ := Aside0.mk (Kd.R_below (Rw HO318.out) hb); have n1_ := Aside0.mk (below_step (Bl) hb); clear HO318; clear HB; have HO318 := n0_; have HB := n1_; clear n0_ n1_; (try clear hb); (try clear hb2); (try clear hk); (try clear hi)) | (go_at_call 11; (with_reducible refine (pred_Check.calls k _ _ t314 t330 _ ?side1 ?side2 A20.out).mono ?_); (case side1 => repeat (first | exact (Kd.R_reads' HO318.out).2.2 | (with_reducible refine Kd.C_alloc ?_ _) | (with_reducible refine Kd.C_drewN ?_ _) | (with_reducible refine Kd.C_drew ?_))); (case side2 => exact (Kd.R_reads' HO318.out).2.1); rintro e w25 ⟨rfl, hb⟩; have n0_ := Aside0.mk (Kd.R_below (Rw HO318.out) hb); have n1_ := Aside0.mk (below_step (Bl) hb); clear HO318; clear HB; have HO318 := n0_; have HB := n1_; clear n0_ n1_; (try clear hb); (try clear hb2); (try clear hk); (try clear hi)))
     go_ret
     exact ⟨by first | rfl | (simp [errW_none, errW_some] <;> rfl) | (simp [*, errW_none, errW_some] <;> rfl), Bl⟩
    ·rw [if_neg c19] at H
     have c19b0 : (t321 == 6) = false := beq_eq_false_iff_ne.mpr c19
     have c19b1 : (t321 != 6) = true := bne_iff_ne.mpr c19
     exact absurd (Option.some.inj H) (by rw [hr_]; decide)
   ·replace c18 := Bool.eq_false_iff.mpr c18
    subst c18
    have H1 : (some false) = some r := by rw [if_neg (show ¬ (false = true) by decide)] at H; exact H
    clear H
    have H := H1
    clear H1
    exact absurd (Option.some.inj H) (by rw [hr_]; decide)
 ·rw [if_neg c3] at H
  have c3b0 : (t316 == 0) = false := beq_eq_false_iff_ne.mpr c3
  have c3b1 : (t316 != 0) = true := bne_iff_ne.mpr c3
  replace H := Option.bind_eq_some_iff.mp H
  obtain ⟨t319, A260, H⟩ := H
  replace H : (if t319 = true then (some ((t314.length : Int) == 0)) else (some false)) = some r := H
  have A26 := Aside0.mk A260
  clear A260
  by_cases c27 : t319 = true
  ·subst c27
   have H1 : (some ((t314.length : Int) == 0)) = some r := by rw [if_pos rfl] at H; exact H
   clear H
   have H := H1
   clear H1
   obtain rfl := Option.some.inj H
   go_enter Try.func4, Try.ntmps4
   go_wp2_with (first | ((with_reducible refine gate_callee (f := 8) rfl ?_); refine goesL_ (some 13) rfl rfl Try.func8 (by kernel_rfl) rfl #[.string a0] rfl (Mp) ?_; (with_reducible refine (pred_Parse.calls a0 t314 t315 t316 _ A2.out).mono ?_); rintro e w28 ⟨v317, rfl, ho0, hb⟩; refine ⟨_, rfl, ?_⟩; have n0_ := Aside0.mk (Kd.R_lower ho0 (below_size (Bl))); have n1_ := Aside0.mk (below_step (Bl) hb); clear HB; have HO318 := n0_; have HB := n1_; clear n0_ n1_; (try clear hb); (try clear hb2); (try clear hk); (try clear hi); (try clear ho0)) | ((with_reducible refine gate_callee (f := 7) rfl ?_); refine goesL_ (some 19) rfl rfl Try.func7 (by kernel_rfl) rfl #[] rfl (Mp) ?_; (with_reducible refine (grapevinelaw05_live.calls  true _ A26.out).mono ?_); rintro e w29 ⟨rfl, hb⟩; refine ⟨_, rfl, ?_⟩; have n0_ := Aside0.mk (Kd.R_below (Rw HO318.out) hb); have n1_ := Aside0.mk (below_step (Bl) hb); clear HO318; clear HB; have HO318 := n0_; have HB := n1_; clear n0_ n1_; (try clear hb); (try clear hb2); (try clear hk); (try clear hi); obtain ⟨Ao30, co30, eo30⟩ := Kd.R_slice HO318.out; subst eo30))
   go_ret
   exact ⟨by first | rfl | (simp [errW_none, errW_some] <;> rfl) | (simp [*, errW_none, errW_some] <;> rfl), Bl⟩
  ·replace c27 := Bool.eq_false_iff.mpr c27
   subst c27
   have H1 : (some false) = some r := by rw [if_neg (show ¬ (false = true) by decide)] at H; exact H
   clear H
   have H := H1
   clear H1
   exact absurd (Option.some.inj H) (by rw [hr_]; decide)

/-- THE ONE PURE STATEMENT of grapevinelaw05_PredAgain: yours. -/
def grapevinelaw05_PredAgain.Pure : Prop := ∀ (a0 : ByteArray), a0.size ≤ 140737488351232 → ∃ k, grapevinelaw05_PredAgain.f k a0 = some true
theorem grapevinelaw05_PredAgain.walk (P : grapevinelaw05_PredAgain.Pure) (a0 : ByteArray) (w : World) (w0 : a0.size ≤ 140737488351232) :
  Calls Try.prog 4 #[.string a0] w fun e w' => e = .returned (.bool true) ∧ Below w.heap.size w w' := by
 obtain ⟨k, h⟩ := P a0 w0
 refine (grapevinelaw05_PredAgain.calls k a0 true w h).mono ?_
 rintro e w' ⟨rfl, hd⟩
 exact ⟨rfl, hd⟩

end Go.Proofs.Ytmgljgmieomngaa.Q
