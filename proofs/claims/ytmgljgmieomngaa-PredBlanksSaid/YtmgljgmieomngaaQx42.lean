/- Functions of the program as Lean functions, each with its walk: that the Go code comes to just these answers, whatever the memory. Written by a program of this claim (wip/tools). -/
import Derived.Test.YtmgljgmieomngaaQx0
import Derived.Test.YtmgljgmieomngaaQx26
import Derived.Test.YtmgljgmieomngaaQx40
import Derived.Test.YtmgljgmieomngaaQx41
namespace Go.Proofs.Ytmgljgmieomngaa.Q
open Go.RowKit Go.Proofs.YtmgljgmieomngaaW.PrintWords Go.Proofs.YtmgljgmieomngaaW.PrintLast Go.Proofs.YtmgljgmieomngaaW.PrintMore
attribute [local go_sem] run_ftoi isSome_setCell bytesLess_total run_store_complex run_store_float max2_int min2_int max_two min_two max_three min_three max_four min_four   -- for this text's walks alone
set_option linter.unusedVariables false
set_option linter.unusedSimpArgs false

/-! ### grapevinelaw05_PredBlanks: function 3 -/
def grapevinelaw05_PredBlanks.j0 : Nat → List (S54) → Int → List (S54) → Int → Bool → Option (Bool)
 | 0, _, _, _, _, _ => none
 | k + 1, x7, x9, x13, x15, x69 => if x69 = true then (some false) else ((grapevinelaw05_live.f).bind fun t231 => (if t231 = true then (if x9 = 0 then (if x15 = 0 then ((grapevineref05_Same.f k x13 x7).bind fun t232 => (some t232)) else (some false)) else (some true)) else (some false)))
def grapevinelaw05_PredBlanks.f (k : Nat) (a0 : ByteArray) (a1 : Int) : Option (Bool) := if (wrap64 ((a0.size : Int) + (wrap64 (2 * (Int.tmod (wrap64 (a1)) 9))))) > 300 then ((grapevinelaw05_live.f).bind fun t214 => (some t214)) else (if 0 ≤ (Int.tmod (wrap64 (a1)) 9) then (if (Int.tmod (wrap64 (a1)) 9) ≤ 9 then ((pred_Parse.f a0).bind fun bt215 => (if ((⟨#[32, 32, 32, 32, 32, 32, 32, 32, 32]⟩ : ByteArray).extract 0 ((Int.tmod (wrap64 (a1)) 9) : Int).toNat).size + a0.size ≤ 9223372036854775807 then ((pred_Parse.f (((⟨#[32, 32, 32, 32, 32, 32, 32, 32, 32]⟩ : ByteArray).extract 0 ((Int.tmod (wrap64 (a1)) 9) : Int).toNat) ++ a0)).bind fun bt220 => (if a0.size + ((⟨#[32, 32, 32, 32, 32, 32, 32, 32, 32]⟩ : ByteArray).extract 0 ((Int.tmod (wrap64 (a1)) 9) : Int).toNat).size ≤ 9223372036854775807 then ((pred_Parse.f (a0 ++ ((⟨#[32, 32, 32, 32, 32, 32, 32, 32, 32]⟩ : ByteArray).extract 0 ((Int.tmod (wrap64 (a1)) 9) : Int).toNat))).bind fun bt225 => (if bt215.2.2 = bt220.2.2 then ((grapevineref05_Same.f k bt215.1 bt220.1).bind fun t230 => (if t230 = true then (if bt215.2.2 = 0 then (grapevinelaw05_PredBlanks.j0 k bt215.1 bt215.2.2 bt225.1 bt225.2.2 false) else (grapevinelaw05_PredBlanks.j0 k bt215.1 bt215.2.2 bt225.1 bt225.2.2 (bt220.2.1 != (wrap64 (bt215.2.1 + (Int.tmod (wrap64 (a1)) 9)))))) else (grapevinelaw05_PredBlanks.j0 k bt215.1 bt215.2.2 bt225.1 bt225.2.2 true))) else (grapevinelaw05_PredBlanks.j0 k bt215.1 bt215.2.2 bt225.1 bt225.2.2 true))) else (none))) else (none))) else (none)) else (none))
theorem grapevinelaw05_PredBlanks.mono_l : ∀ k, (∀ y0 y1 y2 y3 y4, LeO (grapevinelaw05_PredBlanks.j0 k y0 y1 y2 y3 y4) (grapevinelaw05_PredBlanks.j0 (k + 1) y0 y1 y2 y3 y4))
 | 0 => fun _ _ _ _ _ r h => by simp [grapevinelaw05_PredBlanks.j0] at h
 | k + 1 => by
  have ih0 := grapevinelaw05_PredBlanks.mono_l k
  ·intro y0 y1 y2 y3 y4
   unfold grapevinelaw05_PredBlanks.j0
   repeat' first
   | (with_reducible exact ih0 _ _ _ _ _)
   | (with_reducible exact grapevineref05_Same.mono _ _ _)
   | (with_reducible exact LeO.refl _)
   | (with_reducible exact LeO.none _)
   | (with_reducible refine LeO.ite ?_ ?_)
   | (with_reducible refine LeO.bind ?_ (fun _ => ?_))
   | exact ih0 _ _ _ _ _
   | exact grapevineref05_Same.mono _ _ _
   | exact LeO.none _
   | refine LeO.ite ?_ ?_
   | refine LeO.bind ?_ (fun _ => ?_)
theorem grapevinelaw05_PredBlanks.mono : ∀ a0 a1 k, LeO (grapevinelaw05_PredBlanks.f k a0 a1) (grapevinelaw05_PredBlanks.f (k + 1) a0 a1) := by
 intro a0 a1 k
 have ih0 := grapevinelaw05_PredBlanks.mono_l k
 unfold grapevinelaw05_PredBlanks.f
 repeat' first
   | (with_reducible exact ih0 _ _ _ _ _)
   | (with_reducible exact grapevineref05_Same.mono _ _ _)
   | (with_reducible exact LeO.refl _)
   | (with_reducible exact LeO.none _)
   | (with_reducible refine LeO.ite ?_ ?_)
   | (with_reducible refine LeO.bind ?_ (fun _ => ?_))
   | exact ih0 _ _ _ _ _
   | exact grapevineref05_Same.mono _ _ _
   | exact LeO.none _
   | refine LeO.ite ?_ ?_
   | refine LeO.bind ?_ (fun _ => ?_)
set_option maxHeartbeats 8000000 in
set_option maxRecDepth 100000 in
theorem grapevinelaw05_PredBlanks.calls (k : Nat) (a0 : ByteArray) (a1 : Int) (r : Bool) (w : World) (h : grapevinelaw05_PredBlanks.f k a0 a1 = some r) (hr_ : r = true := by rfl) :
  Calls Try.prog 3 #[.string a0, .int .u8 a1] w fun e w' => e = .returned (.bool r) ∧ Below w.heap.size w w' := by
 have HB := Aside0.mk (Below.refl w.heap.size w)
 have H : (if (wrap64 ((a0.size : Int) + (wrap64 (2 * (Int.tmod (wrap64 (a1)) 9))))) > 300 then ((grapevinelaw05_live.f).bind fun t214 => (some t214)) else (if 0 ≤ (Int.tmod (wrap64 (a1)) 9) then (if (Int.tmod (wrap64 (a1)) 9) ≤ 9 then ((pred_Parse.f a0).bind fun bt215 => (if ((⟨#[32, 32, 32, 32, 32, 32, 32, 32, 32]⟩ : ByteArray).extract 0 ((Int.tmod (wrap64 (a1)) 9) : Int).toNat).size + a0.size ≤ 9223372036854775807 then ((pred_Parse.f (((⟨#[32, 32, 32, 32, 32, 32, 32, 32, 32]⟩ : ByteArray).extract 0 ((Int.tmod (wrap64 (a1)) 9) : Int).toNat) ++ a0)).bind fun bt220 => (if a0.size + ((⟨#[32, 32, 32, 32, 32, 32, 32, 32, 32]⟩ : ByteArray).extract 0 ((Int.tmod (wrap64 (a1)) 9) : Int).toNat).size ≤ 9223372036854775807 then ((pred_Parse.f (a0 ++ ((⟨#[32, 32, 32, 32, 32, 32, 32, 32, 32]⟩ : ByteArray).extract 0 ((Int.tmod (wrap64 (a1)) 9) : Int).toNat))).bind fun bt225 => (if bt215.2.2 = bt220.2.2 then ((grapevineref05_Same.f k bt215.1 bt220.1).bind fun t230 => (if t230 = true then (if bt215.2.2 = 0 then (grapevinelaw05_PredBlanks.j0 k bt215.1 bt215.2.2 bt225.1 bt225.2.2 false) else (grapevinelaw05_PredBlanks.j0 k bt215.1 bt215.2.2 bt225.1 bt225.2.2 (bt220.2.1 != (wrap64 (bt215.2.1 + (Int.tmod (wrap64 (a1)) 9)))))) else (grapevinelaw05_PredBlanks.j0 k bt215.1 bt215.2.2 bt225.1 bt225.2.2 true))) else (grapevinelaw05_PredBlanks.j0 k bt215.1 bt215.2.2 bt225.1 bt225.2.2 true))) else (none))) else (none))) else (none)) else (none))) = some r := h
 clear h
 by_cases c3 : (wrap64 ((a0.size : Int) + (wrap64 (2 * (Int.tmod (wrap64 (a1)) 9))))) > 300
 ·rw [if_pos c3] at H
  have c3b0 : decide (300 < (wrap64 ((a0.size : Int) + (wrap64 (2 * (Int.tmod (wrap64 (a1)) 9)))))) = true := decide_eq_true c3
  clear c3
  replace H := Option.bind_eq_some_iff.mp H
  obtain ⟨t214, A40, H⟩ := H
  replace H : (some t214) = some r := H
  have A4 := Aside0.mk A40
  clear A40
  obtain rfl := Option.some.inj H
  subst hr_
  go_enter Try.func3, Try.ntmps3
  go_wp2_with (first | ((with_reducible refine gate_callee (f := 7) rfl ?_); refine goesL_ (some 25) rfl rfl Try.func7 (by kernel_rfl) rfl #[] rfl (by (try simp only [List.map_toArray, List.map_cons, List.map_nil]); first | done | rfl | (simp only [List.length_drop, List.length_take]; rfl)) ?_; (with_reducible refine (grapevinelaw05_live.calls  true _ A4.out).mono ?_); rintro e w5 ⟨rfl, hb⟩; refine ⟨_, rfl, ?_⟩; have n0_ := Aside0.mk (below_step (by repeat (first | (with_reducible first | exact HB.out | apply below_alloc | apply pw_below_drewN | apply below_drew1) | exact HB.out)) hb); clear HB; have HB := n0_; clear n0_; (try clear hb); (try clear hb2); (try clear hk); (try clear hi)))
  go_ret
  exact ⟨by first | rfl | (simp [errW_none, errW_some] <;> rfl) | (simp [*, errW_none, errW_some] <;> rfl), by repeat (first | (with_reducible first | exact HB.out | apply below_alloc | apply pw_below_drewN | apply below_drew1) | exact HB.out)⟩
 ·rw [if_neg c3] at H
  have c3b0 : decide (300 < (wrap64 ((a0.size : Int) + (wrap64 (2 * (Int.tmod (wrap64 (a1)) 9)))))) = false := decide_eq_false c3
  clear c3
  obtain ⟨ji6, hji6⟩ : ∃ j_ : Int, (Int.tmod (wrap64 (a1)) 9) = j_ := ⟨_, rfl⟩
  replace H : (if 0 ≤ (ji6) then (if (ji6) ≤ 9 then ((pred_Parse.f a0).bind fun bt215 => (if ((⟨#[32, 32, 32, 32, 32, 32, 32, 32, 32]⟩ : ByteArray).extract 0 ((ji6) : Int).toNat).size + a0.size ≤ 9223372036854775807 then ((pred_Parse.f (((⟨#[32, 32, 32, 32, 32, 32, 32, 32, 32]⟩ : ByteArray).extract 0 ((ji6) : Int).toNat) ++ a0)).bind fun bt220 => (if a0.size + ((⟨#[32, 32, 32, 32, 32, 32, 32, 32, 32]⟩ : ByteArray).extract 0 ((ji6) : Int).toNat).size ≤ 9223372036854775807 then ((pred_Parse.f (a0 ++ ((⟨#[32, 32, 32, 32, 32, 32, 32, 32, 32]⟩ : ByteArray).extract 0 ((ji6) : Int).toNat))).bind fun bt225 => (if bt215.2.2 = bt220.2.2 then ((grapevineref05_Same.f k bt215.1 bt220.1).bind fun t230 => (if t230 = true then (if bt215.2.2 = 0 then (grapevinelaw05_PredBlanks.j0 k bt215.1 bt215.2.2 bt225.1 bt225.2.2 false) else (grapevinelaw05_PredBlanks.j0 k bt215.1 bt215.2.2 bt225.1 bt225.2.2 (bt220.2.1 != (wrap64 (bt215.2.1 + (ji6)))))) else (grapevinelaw05_PredBlanks.j0 k bt215.1 bt215.2.2 bt225.1 bt225.2.2 true))) else (grapevinelaw05_PredBlanks.j0 k bt215.1 bt215.2.2 bt225.1 bt225.2.2 true))) else (none))) else (none))) else (none)) else (none)) = some r := by first | (rw [hji6] at H; exact H) | (simp only [hji6] at H ⊢; exact H)
  (try rw [hji6] at c3b0)
  by_cases c7 : 0 ≤ (ji6)
  ·rw [if_pos c7] at H
   have c7b0 := eq_true c7
   have c7b1 : decide (0 ≤ (ji6)) = true := decide_eq_true c7
   clear c7
   by_cases c8 : (ji6) ≤ 9
   ·rw [if_pos c8] at H
    have c8b0 := eq_true c8
    have c8b1 : decide ((ji6) ≤ 9) = true := decide_eq_true c8
    clear c8
    replace H := Option.bind_eq_some_iff.mp H
    obtain ⟨⟨t215, t216, t217⟩, A90, H⟩ := H
    replace H : (if ((⟨#[32, 32, 32, 32, 32, 32, 32, 32, 32]⟩ : ByteArray).extract 0 ((ji6) : Int).toNat).size + a0.size ≤ 9223372036854775807 then ((pred_Parse.f (((⟨#[32, 32, 32, 32, 32, 32, 32, 32, 32]⟩ : ByteArray).extract 0 ((ji6) : Int).toNat) ++ a0)).bind fun bt220 => (if a0.size + ((⟨#[32, 32, 32, 32, 32, 32, 32, 32, 32]⟩ : ByteArray).extract 0 ((ji6) : Int).toNat).size ≤ 9223372036854775807 then ((pred_Parse.f (a0 ++ ((⟨#[32, 32, 32, 32, 32, 32, 32, 32, 32]⟩ : ByteArray).extract 0 ((ji6) : Int).toNat))).bind fun bt225 => (if t217 = bt220.2.2 then ((grapevineref05_Same.f k t215 bt220.1).bind fun t230 => (if t230 = true then (if t217 = 0 then (grapevinelaw05_PredBlanks.j0 k t215 t217 bt225.1 bt225.2.2 false) else (grapevinelaw05_PredBlanks.j0 k t215 t217 bt225.1 bt225.2.2 (bt220.2.1 != (wrap64 (t216 + (ji6)))))) else (grapevinelaw05_PredBlanks.j0 k t215 t217 bt225.1 bt225.2.2 true))) else (grapevinelaw05_PredBlanks.j0 k t215 t217 bt225.1 bt225.2.2 true))) else (none))) else (none)) = some r := H
    have A9 := Aside0.mk A90
    clear A90
    by_cases c10 : ((⟨#[32, 32, 32, 32, 32, 32, 32, 32, 32]⟩ : ByteArray).extract 0 ((ji6) : Int).toNat).size + a0.size ≤ 9223372036854775807
    ·rw [if_pos c10] at H
     have c10b0 := eq_true c10
     have c10b1 : decide (((⟨#[32, 32, 32, 32, 32, 32, 32, 32, 32]⟩ : ByteArray).extract 0 ((ji6) : Int).toNat).size + a0.size ≤ 9223372036854775807) = true := decide_eq_true c10
     try have c10b2 : (9223372036854775807 < ((⟨#[32, 32, 32, 32, 32, 32, 32, 32, 32]⟩ : ByteArray).extract 0 ((ji6) : Int).toNat).size + a0.size) = False := eq_false (Nat.not_lt.2 c10)
     replace H := Option.bind_eq_some_iff.mp H
     obtain ⟨⟨t220, t221, t222⟩, A110, H⟩ := H
     replace H : (if a0.size + ((⟨#[32, 32, 32, 32, 32, 32, 32, 32, 32]⟩ : ByteArray).extract 0 ((ji6) : Int).toNat).size ≤ 9223372036854775807 then ((pred_Parse.f (a0 ++ ((⟨#[32, 32, 32, 32, 32, 32, 32, 32, 32]⟩ : ByteArray).extract 0 ((ji6) : Int).toNat))).bind fun bt225 => (if t217 = t222 then ((grapevineref05_Same.f k t215 t220).bind fun t230 => (if t230 = true then (if t217 = 0 then (grapevinelaw05_PredBlanks.j0 k t215 t217 bt225.1 bt225.2.2 false) else (grapevinelaw05_PredBlanks.j0 k t215 t217 bt225.1 bt225.2.2 (t221 != (wrap64 (t216 + (ji6)))))) else (grapevinelaw05_PredBlanks.j0 k t215 t217 bt225.1 bt225.2.2 true))) else (grapevinelaw05_PredBlanks.j0 k t215 t217 bt225.1 bt225.2.2 true))) else (none)) = some r := H
     have A11 := Aside0.mk A110
     clear A110
     by_cases c12 : a0.size + ((⟨#[32, 32, 32, 32, 32, 32, 32, 32, 32]⟩ : ByteArray).extract 0 ((ji6) : Int).toNat).size ≤ 9223372036854775807
     ·rw [if_pos c12] at H
      have c12b0 := eq_true c12
      have c12b1 : decide (a0.size + ((⟨#[32, 32, 32, 32, 32, 32, 32, 32, 32]⟩ : ByteArray).extract 0 ((ji6) : Int).toNat).size ≤ 9223372036854775807) = true := decide_eq_true c12
      try have c12b2 : (9223372036854775807 < a0.size + ((⟨#[32, 32, 32, 32, 32, 32, 32, 32, 32]⟩ : ByteArray).extract 0 ((ji6) : Int).toNat).size) = False := eq_false (Nat.not_lt.2 c12)
      replace H := Option.bind_eq_some_iff.mp H
      obtain ⟨⟨t225, t226, t227⟩, A130, H⟩ := H
      replace H : (if t217 = t222 then ((grapevineref05_Same.f k t215 t220).bind fun t230 => (if t230 = true then (if t217 = 0 then (grapevinelaw05_PredBlanks.j0 k t215 t217 t225 t227 false) else (grapevinelaw05_PredBlanks.j0 k t215 t217 t225 t227 (t221 != (wrap64 (t216 + (ji6)))))) else (grapevinelaw05_PredBlanks.j0 k t215 t217 t225 t227 true))) else (grapevinelaw05_PredBlanks.j0 k t215 t217 t225 t227 true)) = some r := H
      have A13 := Aside0.mk A130
      clear A130
      have HC14 := Aside0.mk H
      clear H
      go_enter Try.func3, Try.ntmps3
      go_upto_region 8 with (first | ((with_reducible refine gate_callee (f := 8) rfl ?_); refine goesL_ (some 30) rfl rfl Try.func8 (by kernel_rfl) rfl #[.string a0] rfl (by (try simp only [List.map_toArray, List.map_cons, List.map_nil]); first | done | rfl | (simp only [List.length_drop, List.length_take]; rfl)) ?_; (with_reducible refine (pred_Parse.calls a0 t215 t216 t217 _ A9.out).mono ?_); rintro e w15 ⟨v218, rfl, ho0, hb⟩; refine ⟨_, rfl, ?_⟩; have n0_ := Aside0.mk (Kd.R_lower ho0 (below_size (by repeat (first | (with_reducible first | exact HB.out | apply below_alloc | apply pw_below_drewN | apply below_drew1) | exact HB.out)))); have n1_ := Aside0.mk (below_step (by repeat (first | (with_reducible first | exact HB.out | apply below_alloc | apply pw_below_drewN | apply below_drew1) | exact HB.out)) hb); clear HB; have HO219 := n0_; have HB := n1_; clear n0_ n1_; (try clear hb); (try clear hb2); (try clear hk); (try clear hi); (try clear ho0)) | ((with_reducible refine gate_callee (f := 8) rfl ?_); refine goesL_ (some 38) rfl rfl Try.func8 (by kernel_rfl) rfl #[.string (((⟨#[32, 32, 32, 32, 32, 32, 32, 32, 32]⟩ : ByteArray).extract 0 ((ji6) : Int).toNat) ++ a0)] rfl (by (try simp only [List.map_toArray, List.map_cons, List.map_nil]); first | done | (simp only [hji6]; rfl) | rfl | (simp only [List.length_drop, List.length_take]; rfl)) ?_; (with_reducible refine (pred_Parse.calls (((⟨#[32, 32, 32, 32, 32, 32, 32, 32, 32]⟩ : ByteArray).extract 0 ((ji6) : Int).toNat) ++ a0) t220 t221 t222 _ A11.out).mono ?_); rintro e w16 ⟨v223, rfl, ho0, hb⟩; refine ⟨_, rfl, ?_⟩; have n0_ := Aside0.mk (Kd.R_elder' (by (with_reducible repeat (first | apply Kd.R_alloc | apply Kd.R_drewN | apply Kd.R_drew)); exact HO219.out) (Kd.R_base ho0) hb); have n1_ := Aside0.mk (Kd.R_lower (Kd.R_new' ho0 (Kd.R_lt (by (with_reducible repeat (first | apply Kd.R_alloc | apply Kd.R_drewN | apply Kd.R_drew)); exact HO219.out))) (below_size (by repeat (first | (with_reducible first | exact HB.out | apply below_alloc | apply pw_below_drewN | apply below_drew1) | exact HB.out)))); have n2_ := Aside0.mk (below_step (by repeat (first | (with_reducible first | exact HB.out | apply below_alloc | apply pw_below_drewN | apply below_drew1) | exact HB.out)) hb); clear HO219; clear HB; have HO219 := n0_; have HO224 := n1_; have HB := n2_; clear n0_ n1_ n2_; (try clear hb); (try clear hb2); (try clear hk); (try clear hi); (try clear ho0)) | ((with_reducible refine gate_callee (f := 8) rfl ?_); refine goesL_ (some 46) rfl rfl Try.func8 (by kernel_rfl) rfl #[.string (a0 ++ ((⟨#[32, 32, 32, 32, 32, 32, 32, 32, 32]⟩ : ByteArray).extract 0 ((ji6) : Int).toNat))] rfl (by (try simp only [List.map_toArray, List.map_cons, List.map_nil]); first | done | (simp only [hji6]; rfl) | rfl | (simp only [List.length_drop, List.length_take]; rfl)) ?_; (with_reducible refine (pred_Parse.calls (a0 ++ ((⟨#[32, 32, 32, 32, 32, 32, 32, 32, 32]⟩ : ByteArray).extract 0 ((ji6) : Int).toNat)) t225 t226 t227 _ A13.out).mono ?_); rintro e w17 ⟨v228, rfl, ho0, hb⟩; refine ⟨_, rfl, ?_⟩; have n0_ := Aside0.mk (Kd.R_elder' (by (with_reducible repeat (first | apply Kd.R_alloc | apply Kd.R_drewN | apply Kd.R_drew)); exact HO219.out) (Kd.R_base ho0) hb); have n1_ := Aside0.mk (Kd.R_elder' (by (with_reducible repeat (first | apply Kd.R_alloc | apply Kd.R_drewN | apply Kd.R_drew)); exact HO224.out) (Kd.R_base ho0) hb); have n2_ := Aside0.mk (Kd.R_lower (Kd.R_new' (Kd.R_new' ho0 (Kd.R_lt (by (with_reducible repeat (first | apply Kd.R_alloc | apply Kd.R_drewN | apply Kd.R_drew)); exact HO219.out))) (Kd.R_lt (by (with_reducible repeat (first | apply Kd.R_alloc | apply Kd.R_drewN | apply Kd.R_drew)); exact HO224.out))) (below_size (by repeat (first | (with_reducible first | exact HB.out | apply below_alloc | apply pw_below_drewN | apply below_drew1) | exact HB.out)))); have n3_ := Aside0.mk (below_step (by repeat (first | (with_reducible first | exact HB.out | apply below_alloc | apply pw_below_drewN | apply below_drew1) | exact HB.out)) hb); clear HO219; clear HO224; clear HB; have HO219 := n0_; have HO224 := n1_; have HO229 := n2_; have HB := n3_; clear n0_ n1_ n2_ n3_; (try clear hb); (try clear hb2); (try clear hk); (try clear hi); (try clear ho0)))
      (try simp only [Act.put, List.setIfInBounds_toArray, List.set_cons_zero, List.set_cons_succ])
      go_cut [69] (fun v69 wc => ∃ (kq : Nat) (x69_13 : Bool), v69 = .bool x69_13 ∧ Aside0 (grapevinelaw05_PredBlanks.j0 kq t215 t217 t225 t227 x69_13 = some r) ∧ Aside0 (kq ≤ k) ∧ Aside0 (Kd.R k54 54 wc w.heap.size (fun k_ => some k_ ≠ (v228 : Value).ownBlock) v218 t215) ∧ Aside0 (Kd.R k54 54 wc w.heap.size (fun k_ => some k_ ≠ (v218 : Value).ownBlock) v228 t225) ∧ Aside0 (Below w.heap.size w wc))
      case first =>
       have H := HC14.out
       clear HC14
       by_cases c18 : t217 = t222
       ·rw [if_pos c18] at H
        have c18b0 : (t217 == t222) = true := beq_iff_eq.mpr c18
        have c18b1 : (t217 != t222) = false := bne_eq_false_iff_eq.mpr c18
        clear c18
        (first | rw [c18b0] | (simp only [i64_w, i32_w]; rw [c18b0]) | skip)
        replace H := Option.bind_eq_some_iff.mp H
        obtain ⟨t230, A190, H⟩ := H
        replace H : (if t230 = true then (if t217 = 0 then (grapevinelaw05_PredBlanks.j0 k t215 t217 t225 t227 false) else (grapevinelaw05_PredBlanks.j0 k t215 t217 t225 t227 (t221 != (wrap64 (t216 + (ji6)))))) else (grapevinelaw05_PredBlanks.j0 k t215 t217 t225 t227 true)) = some r := H
        have A19 := Aside0.mk A190
        clear A190
        by_cases c20 : t230 = true
        ·subst c20
         have H1 : (if t217 = 0 then (grapevinelaw05_PredBlanks.j0 k t215 t217 t225 t227 false) else (grapevinelaw05_PredBlanks.j0 k t215 t217 t225 t227 (t221 != (wrap64 (t216 + (ji6)))))) = some r := by rw [if_pos rfl] at H; exact H
         clear H
         have H := H1
         clear H1
         by_cases c21 : t217 = 0
         ·rw [if_pos c21] at H
          have c21b0 : (t217 == 0) = true := beq_iff_eq.mpr c21
          have c21b1 : (t217 != 0) = false := bne_eq_false_iff_eq.mpr c21
          clear c21
          have H' := Aside0.mk H
          clear H
          obtain ⟨Ao22, co22, eo22⟩ := Kd.R_slice HO219.out
          subst eo22
          obtain ⟨Ao23, co23, eo23⟩ := Kd.R_slice HO224.out
          subst eo23
          go_wp2_with (first | (go_at_call 9; (with_reducible refine (grapevineref05_Same.calls k _ _ t215 _ _ t220 true _ ?side1 ?side2 ?side3 ?side4 A19.out).mono ?_); (case side1 => repeat (first | exact (Kd.R_reads' HO219.out).2.2 | (with_reducible refine Kd.C_alloc ?_ _) | (with_reducible refine Kd.C_drewN ?_ _) | (with_reducible refine Kd.C_drew ?_))); (case side2 => exact (Kd.R_reads' HO219.out).2.1); (case side3 => repeat (first | exact (Kd.R_reads' HO224.out).2.2 | (with_reducible refine Kd.C_alloc ?_ _) | (with_reducible refine Kd.C_drewN ?_ _) | (with_reducible refine Kd.C_drew ?_))); (case side4 => exact (Kd.R_reads' HO224.out).2.1); rintro e w' ⟨rfl, ⟨nd, rfl⟩⟩))
          go_meet
          case rel => exact ⟨_, (false), (by first | rfl | (simp; done) | (simp [*]; done)), H', ⟨by first | omega | exact Nat.le_refl _⟩, ⟨by (with_reducible repeat (first | apply Kd.R_alloc | apply Kd.R_drewN | apply Kd.R_drew)); exact Kd.R_mono HO219.out (fun _ hk => hk.2)⟩, ⟨by (with_reducible repeat (first | apply Kd.R_alloc | apply Kd.R_drewN | apply Kd.R_drew)); exact Kd.R_mono HO229.out (fun _ hk => hk.1.2)⟩, ⟨by repeat (first | (with_reducible first | exact HB.out | apply below_alloc | apply pw_below_drewN | apply below_drew1) | exact HB.out)⟩⟩
         ·rw [if_neg c21] at H
          have c21b0 : (t217 == 0) = false := beq_eq_false_iff_ne.mpr c21
          have c21b1 : (t217 != 0) = true := bne_iff_ne.mpr c21
          have H' := Aside0.mk H
          clear H
          obtain ⟨Ao24, co24, eo24⟩ := Kd.R_slice HO219.out
          subst eo24
          obtain ⟨Ao25, co25, eo25⟩ := Kd.R_slice HO224.out
          subst eo25
          go_wp2_with (first | (go_at_call 9; (with_reducible refine (grapevineref05_Same.calls k _ _ t215 _ _ t220 true _ ?side1 ?side2 ?side3 ?side4 A19.out).mono ?_); (case side1 => repeat (first | exact (Kd.R_reads' HO219.out).2.2 | (with_reducible refine Kd.C_alloc ?_ _) | (with_reducible refine Kd.C_drewN ?_ _) | (with_reducible refine Kd.C_drew ?_))); (case side2 => exact (Kd.R_reads' HO219.out).2.1); (case side3 => repeat (first | exact (Kd.R_reads' HO224.out).2.2 | (with_reducible refine Kd.C_alloc ?_ _) | (with_reducible refine Kd.C_drewN ?_ _) | (with_reducible refine Kd.C_drew ?_))); (case side4 => exact (Kd.R_reads' HO224.out).2.1); rintro e w' ⟨rfl, ⟨nd, rfl⟩⟩))
          go_meet
          case rel => exact ⟨_, ((t221 != (wrap64 (t216 + (ji6))))), (by first | rfl | (simp; done) | (simp only [← hji6] <;> (first | rfl | simp)) | (simp [*]; done)), H', ⟨by first | omega | exact Nat.le_refl _⟩, ⟨by (with_reducible repeat (first | apply Kd.R_alloc | apply Kd.R_drewN | apply Kd.R_drew)); exact Kd.R_mono HO219.out (fun _ hk => hk.2)⟩, ⟨by (with_reducible repeat (first | apply Kd.R_alloc | apply Kd.R_drewN | apply Kd.R_drew)); exact Kd.R_mono HO229.out (fun _ hk => hk.1.2)⟩, ⟨by repeat (first | (with_reducible first | exact HB.out | apply below_alloc | apply pw_below_drewN | apply below_drew1) | exact HB.out)⟩⟩
        ·replace c20 := Bool.eq_false_iff.mpr c20
         subst c20
         have H1 : (grapevinelaw05_PredBlanks.j0 k t215 t217 t225 t227 true) = some r := by rw [if_neg (show ¬ (false = true) by decide)] at H; exact H
         clear H
         have H := H1
         clear H1
         have H' := Aside0.mk H
         clear H
         obtain ⟨Ao26, co26, eo26⟩ := Kd.R_slice HO219.out
         subst eo26
         obtain ⟨Ao27, co27, eo27⟩ := Kd.R_slice HO224.out
         subst eo27
         go_wp2_with (first | (go_at_call 9; (with_reducible refine (grapevineref05_Same.calls k _ _ t215 _ _ t220 false _ ?side1 ?side2 ?side3 ?side4 A19.out).mono ?_); (case side1 => repeat (first | exact (Kd.R_reads' HO219.out).2.2 | (with_reducible refine Kd.C_alloc ?_ _) | (with_reducible refine Kd.C_drewN ?_ _) | (with_reducible refine Kd.C_drew ?_))); (case side2 => exact (Kd.R_reads' HO219.out).2.1); (case side3 => repeat (first | exact (Kd.R_reads' HO224.out).2.2 | (with_reducible refine Kd.C_alloc ?_ _) | (with_reducible refine Kd.C_drewN ?_ _) | (with_reducible refine Kd.C_drew ?_))); (case side4 => exact (Kd.R_reads' HO224.out).2.1); rintro e w' ⟨rfl, ⟨nd, rfl⟩⟩))
         go_meet
         case rel => exact ⟨_, (true), (by first | rfl | (simp; done) | (simp [*]; done)), H', ⟨by first | omega | exact Nat.le_refl _⟩, ⟨by (with_reducible repeat (first | apply Kd.R_alloc | apply Kd.R_drewN | apply Kd.R_drew)); exact Kd.R_mono HO219.out (fun _ hk => hk.2)⟩, ⟨by (with_reducible repeat (first | apply Kd.R_alloc | apply Kd.R_drewN | apply Kd.R_drew)); exact Kd.R_mono HO229.out (fun _ hk => hk.1.2)⟩, ⟨by repeat (first | (with_reducible first | exact HB.out | apply below_alloc | apply pw_below_drewN | apply below_drew1) | exact HB.out)⟩⟩
       ·rw [if_neg c18] at H
        have c18b0 : (t217 == t222) = false := beq_eq_false_iff_ne.mpr c18
        have c18b1 : (t217 != t222) = true := bne_iff_ne.mpr c18
        (first | rw [c18b0] | (simp only [i64_w, i32_w]; rw [c18b0]) | skip)
        have H' := Aside0.mk H
        clear H
        go_wp2
        go_meet
        case rel => exact ⟨_, (true), (by first | rfl | (simp; done) | (simp [*]; done)), H', ⟨by first | omega | exact Nat.le_refl _⟩, ⟨by (with_reducible repeat (first | apply Kd.R_alloc | apply Kd.R_drewN | apply Kd.R_drew)); exact Kd.R_mono HO219.out (fun _ hk => hk.2)⟩, ⟨by (with_reducible repeat (first | apply Kd.R_alloc | apply Kd.R_drewN | apply Kd.R_drew)); exact Kd.R_mono HO229.out (fun _ hk => hk.1.2)⟩, ⟨by repeat (first | (with_reducible first | exact HB.out | apply below_alloc | apply pw_below_drewN | apply below_drew1) | exact HB.out)⟩⟩
      case rest =>
       clear HC14
       try clear c1
       try clear c2
       try clear p2
       try clear c3
       try clear c3b0
       try clear p6
       try clear c7
       try clear c7b0
       try clear c7b1
       try clear c8
       try clear c8b0
       try clear c8b1
       try clear c10
       try clear c10b0
       try clear c10b1
       try clear c10b2
       try clear c12
       try clear c12b0
       try clear c12b1
       try clear c12b2
       try clear c18
       try clear c18b0
       try clear c18b1
       try clear c20
       try clear c21
       try clear c21b0
       try clear c21b1
       obtain ⟨kq, x69_13, rfl, HA, HJ13, HO_7, HO_13, HB⟩ := hcut
       cases kq with
       | zero => exact absurd HA.out (by simp [grapevinelaw05_PredBlanks.j0])
       | succ kj13 =>
        have H := HA.out
        clear HA
        simp only [grapevinelaw05_PredBlanks.j0] at H
        by_cases c28 : x69_13 = true
        ·subst c28
         have H1 : (some false) = some r := by rw [if_pos rfl] at H; exact H
         clear H
         have H := H1
         clear H1
         exact absurd (Option.some.inj H) (by rw [hr_]; decide)
        ·replace c28 := Bool.eq_false_iff.mpr c28
         subst c28
         have H1 : ((grapevinelaw05_live.f).bind fun t231 => (if t231 = true then (if t217 = 0 then (if t227 = 0 then ((grapevineref05_Same.f kj13 t225 t215).bind fun t232 => (some t232)) else (some false)) else (some true)) else (some false))) = some r := by rw [if_neg (show ¬ (false = true) by decide)] at H; exact H
         clear H
         have H := H1
         clear H1
         replace H := Option.bind_eq_some_iff.mp H
         obtain ⟨t231, A290, H⟩ := H
         replace H : (if t231 = true then (if t217 = 0 then (if t227 = 0 then ((grapevineref05_Same.f kj13 t225 t215).bind fun t232 => (some t232)) else (some false)) else (some true)) else (some false)) = some r := H
         have A29 := Aside0.mk A290
         clear A290
         by_cases c30 : t231 = true
         ·subst c30
          have H1 : (if t217 = 0 then (if t227 = 0 then ((grapevineref05_Same.f kj13 t225 t215).bind fun t232 => (some t232)) else (some false)) else (some true)) = some r := by rw [if_pos rfl] at H; exact H
          clear H
          have H := H1
          clear H1
          by_cases c31 : t217 = 0
          ·rw [if_pos c31] at H
           have c31b0 : (t217 == 0) = true := beq_iff_eq.mpr c31
           have c31b1 : (t217 != 0) = false := bne_eq_false_iff_eq.mpr c31
           clear c31
           by_cases c32 : t227 = 0
           ·rw [if_pos c32] at H
            have c32b0 : (t227 == 0) = true := beq_iff_eq.mpr c32
            have c32b1 : (t227 != 0) = false := bne_eq_false_iff_eq.mpr c32
            clear c32
            replace H := Option.bind_eq_some_iff.mp H
            obtain ⟨t232, A330, H⟩ := H
            replace H : (some t232) = some r := H
            have A33 := Aside0.mk A330
            clear A330
            obtain rfl := Option.some.inj H
            go_wp2_with (first | ((with_reducible refine gate_callee (f := 7) rfl ?_); refine goesL_ (some 70) rfl rfl Try.func7 (by kernel_rfl) rfl #[] rfl (by (try simp only [List.map_toArray, List.map_cons, List.map_nil]); first | done | rfl | (simp only [List.length_drop, List.length_take]; rfl)) ?_; (with_reducible refine (grapevinelaw05_live.calls  true _ A29.out).mono ?_); rintro e w34 ⟨rfl, hb⟩; refine ⟨_, rfl, ?_⟩; have n0_ := Aside0.mk (Kd.R_below (by (with_reducible repeat (first | apply Kd.R_alloc | apply Kd.R_drewN | apply Kd.R_drew)); exact HO_7.out) hb); have n1_ := Aside0.mk (Kd.R_below (by (with_reducible repeat (first | apply Kd.R_alloc | apply Kd.R_drewN | apply Kd.R_drew)); exact HO_13.out) hb); have n2_ := Aside0.mk (below_step (by repeat (first | (with_reducible first | exact HB.out | apply below_alloc | apply pw_below_drewN | apply below_drew1) | exact HB.out)) hb); clear HO_7; clear HO_13; clear HB; have HO_7 := n0_; have HO_13 := n1_; have HB := n2_; clear n0_ n1_ n2_; (try clear hb); (try clear hb2); (try clear hk); (try clear hi); obtain ⟨Ao35, co35, eo35⟩ := Kd.R_slice HO_13.out; subst eo35; obtain ⟨Ao36, co36, eo36⟩ := Kd.R_slice HO_7.out; subst eo36) | (go_at_call 9; (with_reducible refine (grapevineref05_Same.calls kj13 _ _ t225 _ _ t215 t232 _ ?side1 ?side2 ?side3 ?side4 A33.out).mono ?_); (case side1 => repeat (first | exact (Kd.R_reads' HO_13.out).2.2 | (with_reducible refine Kd.C_alloc ?_ _) | (with_reducible refine Kd.C_drewN ?_ _) | (with_reducible refine Kd.C_drew ?_))); (case side2 => exact (Kd.R_reads' HO_13.out).2.1); (case side3 => repeat (first | exact (Kd.R_reads' HO_7.out).2.2 | (with_reducible refine Kd.C_alloc ?_ _) | (with_reducible refine Kd.C_drewN ?_ _) | (with_reducible refine Kd.C_drew ?_))); (case side4 => exact (Kd.R_reads' HO_7.out).2.1); rintro e w' ⟨rfl, ⟨nd, rfl⟩⟩))
            go_ret
            exact ⟨by first | rfl | (simp [errW_none, errW_some] <;> rfl) | (simp only [← hji6]; first | rfl | (simp [errW_none, errW_some] <;> rfl)) | (simp [*, errW_none, errW_some] <;> rfl), by repeat (first | (with_reducible first | exact HB.out | apply below_alloc | apply pw_below_drewN | apply below_drew1) | exact HB.out)⟩
           ·rw [if_neg c32] at H
            have c32b0 : (t227 == 0) = false := beq_eq_false_iff_ne.mpr c32
            have c32b1 : (t227 != 0) = true := bne_iff_ne.mpr c32
            exact absurd (Option.some.inj H) (by rw [hr_]; decide)
          ·rw [if_neg c31] at H
           have c31b0 : (t217 == 0) = false := beq_eq_false_iff_ne.mpr c31
           have c31b1 : (t217 != 0) = true := bne_iff_ne.mpr c31
           obtain rfl := Option.some.inj H
           go_wp2_with (first | ((with_reducible refine gate_callee (f := 7) rfl ?_); refine goesL_ (some 70) rfl rfl Try.func7 (by kernel_rfl) rfl #[] rfl (by (try simp only [List.map_toArray, List.map_cons, List.map_nil]); first | done | rfl | (simp only [List.length_drop, List.length_take]; rfl)) ?_; (with_reducible refine (grapevinelaw05_live.calls  true _ A29.out).mono ?_); rintro e w37 ⟨rfl, hb⟩; refine ⟨_, rfl, ?_⟩; have n0_ := Aside0.mk (Kd.R_below (by (with_reducible repeat (first | apply Kd.R_alloc | apply Kd.R_drewN | apply Kd.R_drew)); exact HO_7.out) hb); have n1_ := Aside0.mk (Kd.R_below (by (with_reducible repeat (first | apply Kd.R_alloc | apply Kd.R_drewN | apply Kd.R_drew)); exact HO_13.out) hb); have n2_ := Aside0.mk (below_step (by repeat (first | (with_reducible first | exact HB.out | apply below_alloc | apply pw_below_drewN | apply below_drew1) | exact HB.out)) hb); clear HO_7; clear HO_13; clear HB; have HO_7 := n0_; have HO_13 := n1_; have HB := n2_; clear n0_ n1_ n2_; (try clear hb); (try clear hb2); (try clear hk); (try clear hi)))
           go_ret
           exact ⟨by first | rfl | (simp [errW_none, errW_some] <;> rfl) | (simp only [← hji6]; first | rfl | (simp [errW_none, errW_some] <;> rfl)) | (simp [*, errW_none, errW_some] <;> rfl), by repeat (first | (with_reducible first | exact HB.out | apply below_alloc | apply pw_below_drewN | apply below_drew1) | exact HB.out)⟩
         ·replace c30 := Bool.eq_false_iff.mpr c30
          subst c30
          have H1 : (some false) = some r := by rw [if_neg (show ¬ (false = true) by decide)] at H; exact H
          clear H
          have H := H1
          clear H1
          exact absurd (Option.some.inj H) (by rw [hr_]; decide)
     ·rw [if_neg c12] at H
      exact absurd H (by simp)
    ·rw [if_neg c10] at H
     exact absurd H (by simp)
   ·rw [if_neg c8] at H
    exact absurd H (by simp)
  ·rw [if_neg c7] at H
   exact absurd H (by simp)

/-- THE ONE PURE STATEMENT of grapevinelaw05_PredBlanks: yours. -/
def grapevinelaw05_PredBlanks.Pure : Prop := ∀ (a0 : ByteArray) (a1 : Int), a0.size ≤ 140737488351232 → (Lit.int .u8 a1).wf = true → ∃ k, grapevinelaw05_PredBlanks.f k a0 a1 = some true
theorem grapevinelaw05_PredBlanks.walk (P : grapevinelaw05_PredBlanks.Pure) (a0 : ByteArray) (a1 : Int) (w : World) (w0 : a0.size ≤ 140737488351232) (w1 : (Lit.int .u8 a1).wf = true) :
  Calls Try.prog 3 #[.string a0, .int .u8 a1] w fun e w' => e = .returned (.bool true) ∧ Below w.heap.size w w' := by
 obtain ⟨k, h⟩ := P a0 a1 w0 w1
 refine (grapevinelaw05_PredBlanks.calls k a0 a1 true w h).mono ?_
 rintro e w' ⟨rfl, hd⟩
 exact ⟨rfl, hd⟩

end Go.Proofs.Ytmgljgmieomngaa.Q
