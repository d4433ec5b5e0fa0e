/- Functions of the program as Lean functions, each with its walk: that the Go code comes to just these answers, whatever the memory. Written by a program of this claim (wip/tools). -/
import Derived.Test.YthcfjkbegadpjaaQx0
import Derived.Test.YthcfjkbegadpjaaQx2
import Derived.Test.YthcfjkbegadpjaaQx13
import Derived.Test.YthcfjkbegadpjaaQx14
import Derived.Test.YthcfjkbegadpjaaQx17
namespace Go.Proofs.Ythcfjkbegadpjaa.Q
open Go.RowKit Go.Proofs.YthcfjkbegadpjaaW.PrintWords Go.Proofs.YthcfjkbegadpjaaW.PrintLast Go.Proofs.YthcfjkbegadpjaaW.PrintMore
attribute [local go_sem] run_ftoi isSome_setCell bytesLess_total run_store_complex run_store_float max2_int min2_int max_two min_two max_three min_three max_four min_four   -- for this text's walks alone
set_option linter.unusedVariables false
set_option linter.unusedSimpArgs false

/-! ### grapevinelaw04_live: function 7 -/
def grapevinelaw04_live.f (k : Nat)  : Option (Bool) := (grapevinelaw04_some.f).bind fun bt205 => ((event_Put.f k bt205.1 bt205.2).bind fun bt211 => ((grapevinelaw04_some.f).bind fun bt215 => ((event_Get.f bt215.1 bt215.2 (⟨#[97]⟩ : ByteArray)).bind fun bt221 => (if bt211.2 = 0 then (if (strOfNums bt211.1).toList = ([1, 1, 97, 3, 1, 0] : List UInt8) then (if bt221.2.2.2.2.2 = true then (if bt221.2.2.2.1 = true then ((event_Name.f k (⟨#[97, 45, 49]⟩ : ByteArray)).bind fun t228 => (if t228 = true then ((event_Name.f k (⟨#[49, 97]⟩ : ByteArray)).bind fun t229 => (some (!t229))) else (some false))) else (some false)) else (some false)) else (some false)) else (some false)))))
theorem grapevinelaw04_live.mono : ∀ k, LeO (grapevinelaw04_live.f k ) (grapevinelaw04_live.f (k + 1) ) := by
 intro  k
 unfold grapevinelaw04_live.f
 repeat' first
   | (with_reducible exact event_Name.mono _ _)
   | (with_reducible exact event_Put.mono _ _ _)
   | (with_reducible exact LeO.refl _)
   | (with_reducible exact LeO.none _)
   | (with_reducible refine LeO.ite ?_ ?_)
   | (with_reducible refine LeO.bind ?_ (fun _ => ?_))
   | exact event_Name.mono _ _
   | exact event_Put.mono _ _ _
   | exact LeO.none _
   | refine LeO.ite ?_ ?_
   | refine LeO.bind ?_ (fun _ => ?_)
set_option maxHeartbeats 8000000 in
set_option maxRecDepth 100000 in
theorem grapevinelaw04_live.calls (k : Nat)  (r : Bool) (w : World) (h : grapevinelaw04_live.f k  = some r) (hr_ : r = true := by rfl) :
  Calls Try.prog 7 #[] w fun e w' => e = .returned (.bool r) ∧ Below w.heap.size w w' := by
 have hu44 := Try.underlying44
 have HB := Aside0.mk (Below.refl w.heap.size w)
 have H : ((grapevinelaw04_some.f).bind fun bt205 => ((event_Put.f k bt205.1 bt205.2).bind fun bt211 => ((grapevinelaw04_some.f).bind fun bt215 => ((event_Get.f bt215.1 bt215.2 (⟨#[97]⟩ : ByteArray)).bind fun bt221 => (if bt211.2 = 0 then (if (strOfNums bt211.1).toList = ([1, 1, 97, 3, 1, 0] : List UInt8) then (if bt221.2.2.2.2.2 = true then (if bt221.2.2.2.1 = true then ((event_Name.f k (⟨#[97, 45, 49]⟩ : ByteArray)).bind fun t228 => (if t228 = true then ((event_Name.f k (⟨#[49, 97]⟩ : ByteArray)).bind fun t229 => (some (!t229))) else (some false))) else (some false)) else (some false)) else (some false)) else (some false)))))) = some r := h
 clear h
 replace H := Option.bind_eq_some_iff.mp H
 obtain ⟨⟨t205, t208⟩, A10, H⟩ := H
 replace H : ((event_Put.f k t205 t208).bind fun bt211 => ((grapevinelaw04_some.f).bind fun bt215 => ((event_Get.f bt215.1 bt215.2 (⟨#[97]⟩ : ByteArray)).bind fun bt221 => (if bt211.2 = 0 then (if (strOfNums bt211.1).toList = ([1, 1, 97, 3, 1, 0] : List UInt8) then (if bt221.2.2.2.2.2 = true then (if bt221.2.2.2.1 = true then ((event_Name.f k (⟨#[97, 45, 49]⟩ : ByteArray)).bind fun t228 => (if t228 = true then ((event_Name.f k (⟨#[49, 97]⟩ : ByteArray)).bind fun t229 => (some (!t229))) else (some false))) else (some false)) else (some false)) else (some false)) else (some false))))) = some r := H
 have A1 := Aside0.mk A10
 clear A10
 replace H := Option.bind_eq_some_iff.mp H
 obtain ⟨⟨t211, t214⟩, A20, H⟩ := H
 replace H : ((grapevinelaw04_some.f).bind fun bt215 => ((event_Get.f bt215.1 bt215.2 (⟨#[97]⟩ : ByteArray)).bind fun bt221 => (if t214 = 0 then (if (strOfNums t211).toList = ([1, 1, 97, 3, 1, 0] : List UInt8) then (if bt221.2.2.2.2.2 = true then (if bt221.2.2.2.1 = true then ((event_Name.f k (⟨#[97, 45, 49]⟩ : ByteArray)).bind fun t228 => (if t228 = true then ((event_Name.f k (⟨#[49, 97]⟩ : ByteArray)).bind fun t229 => (some (!t229))) else (some false))) else (some false)) else (some false)) else (some false)) else (some false)))) = some r := H
 have A2 := Aside0.mk A20
 clear A20
 replace H := Option.bind_eq_some_iff.mp H
 obtain ⟨⟨t215, t218⟩, A30, H⟩ := H
 replace H : ((event_Get.f t215 t218 (⟨#[97]⟩ : ByteArray)).bind fun bt221 => (if t214 = 0 then (if (strOfNums t211).toList = ([1, 1, 97, 3, 1, 0] : List UInt8) then (if bt221.2.2.2.2.2 = true then (if bt221.2.2.2.1 = true then ((event_Name.f k (⟨#[97, 45, 49]⟩ : ByteArray)).bind fun t228 => (if t228 = true then ((event_Name.f k (⟨#[49, 97]⟩ : ByteArray)).bind fun t229 => (some (!t229))) else (some false))) else (some false)) else (some false)) else (some false)) else (some false))) = some r := H
 have A3 := Aside0.mk A30
 clear A30
 replace H := Option.bind_eq_some_iff.mp H
 obtain ⟨⟨t221, t222, t223, t224, t225, t226⟩, A40, H⟩ := H
 replace H : (if t214 = 0 then (if (strOfNums t211).toList = ([1, 1, 97, 3, 1, 0] : List UInt8) then (if t226 = true then (if t224 = true then ((event_Name.f k (⟨#[97, 45, 49]⟩ : ByteArray)).bind fun t228 => (if t228 = true then ((event_Name.f k (⟨#[49, 97]⟩ : ByteArray)).bind fun t229 => (some (!t229))) else (some false))) else (some false)) else (some false)) else (some false)) else (some false)) = some r := H
 have A4 := Aside0.mk A40
 clear A40
 by_cases c5 : t214 = 0
 ·rw [if_pos c5] at H
  have c5b0 : (t214 == 0) = true := beq_iff_eq.mpr c5
  have c5b1 : (t214 != 0) = false := bne_eq_false_iff_eq.mpr c5
  clear c5
  by_cases c6 : (strOfNums t211).toList = ([1, 1, 97, 3, 1, 0] : List UInt8)
  ·rw [if_pos c6] at H
   have c6b0 : ((strOfNums t211).toList == ([1, 1, 97, 3, 1, 0] : List UInt8)) = true := beq_iff_eq.mpr c6
   have c6b1 : ((strOfNums t211).toList != ([1, 1, 97, 3, 1, 0] : List UInt8)) = false := bne_eq_false_iff_eq.mpr c6
   clear c6
   by_cases c7 : t226 = true
   ·subst c7
    have H1 : (if t224 = true then ((event_Name.f k (⟨#[97, 45, 49]⟩ : ByteArray)).bind fun t228 => (if t228 = true then ((event_Name.f k (⟨#[49, 97]⟩ : ByteArray)).bind fun t229 => (some (!t229))) else (some false))) else (some false)) = some r := by rw [if_pos rfl] at H; exact H
    clear H
    have H := H1
    clear H1
    by_cases c8 : t224 = true
    ·subst c8
     have H1 : ((event_Name.f k (⟨#[97, 45, 49]⟩ : ByteArray)).bind fun t228 => (if t228 = true then ((event_Name.f k (⟨#[49, 97]⟩ : ByteArray)).bind fun t229 => (some (!t229))) else (some false))) = some r := by rw [if_pos rfl] at H; exact H
     clear H
     have H := H1
     clear H1
     replace H := Option.bind_eq_some_iff.mp H
     obtain ⟨t228, A90, H⟩ := H
     replace H : (if t228 = true then ((event_Name.f k (⟨#[49, 97]⟩ : ByteArray)).bind fun t229 => (some (!t229))) else (some false)) = some r := H
     have A9 := Aside0.mk A90
     clear A90
     by_cases c10 : t228 = true
     ·subst c10
      have H1 : ((event_Name.f k (⟨#[49, 97]⟩ : ByteArray)).bind fun t229 => (some (!t229))) = some r := by rw [if_pos rfl] at H; exact H
      clear H
      have H := H1
      clear H1
      replace H := Option.bind_eq_some_iff.mp H
      obtain ⟨t229, A110, H⟩ := H
      replace H : (some (!t229)) = some r := H
      have A11 := Aside0.mk A110
      clear A110
      obtain rfl := Option.some.inj H
      go_enter Try.func7, Try.ntmps7
      go_wp2_with (first | ((with_reducible refine gate_callee (f := 16) rfl ?_); refine goesL_ (some 6) rfl rfl Try.func16 (by kernel_rfl) rfl #[] rfl (by (try simp only [List.map_toArray, List.map_cons, List.map_nil]); first | done | rfl | (simp only [List.length_drop, List.length_take]; rfl)) ?_; (with_reducible refine (grapevinelaw04_some.calls  t205 t208 _ A1.out).mono ?_); rintro e w12 ⟨v206, v209, rfl, ho0, ho1, hb⟩; refine ⟨_, rfl, ?_⟩; have n0_ := Aside0.mk (Kd.R_lower ho0 (below_size (by repeat (first | (with_reducible first | exact HB.out | apply below_alloc | apply pw_below_drewN | apply below_drew1) | exact HB.out)))); have n1_ := Aside0.mk (Kd.R_lower ho1 (below_size (by repeat (first | (with_reducible first | exact HB.out | apply below_alloc | apply pw_below_drewN | apply below_drew1) | exact HB.out)))); have n2_ := Aside0.mk (below_step (by repeat (first | (with_reducible first | exact HB.out | apply below_alloc | apply pw_below_drewN | apply below_drew1) | exact HB.out)) hb); clear HB; have HO207 := n0_; have HO210 := n1_; have HB := n2_; clear n0_ n1_ n2_; (try clear hb); (try clear hb2); (try clear hk); (try clear hi); (try clear ho0); (try clear ho1); obtain ⟨Ao13, co13, eo13⟩ := Kd.R_slice HO207.out; subst eo13; obtain ⟨Ao14, co14, eo14⟩ := Kd.R_slice HO210.out; subst eo14) | ((with_reducible refine gate_callee (f := 15) rfl ?_); refine goesL_ (some 7) rfl rfl Try.func15 (by kernel_rfl) rfl #[.agg #[.slice Ao13 t205.length co13, .slice Ao14 t208.length co14]] rfl (by (try simp only [List.map_toArray, List.map_cons, List.map_nil]); first | done | rfl | (simp only [List.length_drop, List.length_take]; rfl)) ?_; (with_reducible refine (event_Put.calls k _ _ t205 _ _ t208 t211 t214 _ ?side1 ?side2 ?side3 ?side4 A2.out).mono ?_); (case side1 => repeat (first | exact (Kd.R_reads' HO207.out).2.2 | (with_reducible refine Kd.C_alloc ?_ _) | (with_reducible refine Kd.C_drewN ?_ _) | (with_reducible refine Kd.C_drew ?_))); (case side2 => exact (Kd.R_reads' HO207.out).2.1); (case side3 => repeat (first | exact (Kd.R_reads' HO210.out).2.2 | (with_reducible refine Kd.C_alloc ?_ _) | (with_reducible refine Kd.C_drewN ?_ _) | (with_reducible refine Kd.C_drew ?_))); (case side4 => exact (Kd.R_reads' HO210.out).2.1); rintro e w15 ⟨v212, rfl, ho0, hb⟩; refine ⟨_, rfl, ?_⟩; have n0_ := Aside0.mk (Kd.R_below (by (with_reducible repeat (first | apply Kd.R_alloc | apply Kd.R_drewN | apply Kd.R_drew)); exact HO207.out) hb); have n1_ := Aside0.mk (Kd.R_elder' (by (with_reducible repeat (first | apply Kd.R_alloc | apply Kd.R_drewN | apply Kd.R_drew)); exact HO210.out) (Kd.R_base ho0) hb); have n2_ := Aside0.mk (Kd.R_lower (Kd.R_new' ho0 (Kd.R_lt (by (with_reducible repeat (first | apply Kd.R_alloc | apply Kd.R_drewN | apply Kd.R_drew)); exact HO210.out))) (below_size (by repeat (first | (with_reducible first | exact HB.out | apply below_alloc | apply pw_below_drewN | apply below_drew1) | exact HB.out)))); have n3_ := Aside0.mk (below_step (by repeat (first | (with_reducible first | exact HB.out | apply below_alloc | apply pw_below_drewN | apply below_drew1) | exact HB.out)) hb); clear HO207; clear HO210; clear HB; have HO207 := n0_; have HO210 := n1_; have HO213 := n2_; have HB := n3_; clear n0_ n1_ n2_ n3_; (try clear hb); (try clear hb2); (try clear hk); (try clear hi); (try clear ho0)) | ((with_reducible refine gate_callee (f := 16) rfl ?_); refine goesL_ (some 11) rfl rfl Try.func16 (by kernel_rfl) rfl #[] rfl (by (try simp only [List.map_toArray, List.map_cons, List.map_nil]); first | done | rfl | (simp only [List.length_drop, List.length_take]; rfl)) ?_; (with_reducible refine (grapevinelaw04_some.calls  t215 t218 _ A3.out).mono ?_); rintro e w16 ⟨v216, v219, rfl, ho0, ho1, hb⟩; refine ⟨_, rfl, ?_⟩; have n0_ := Aside0.mk (Kd.R_elder' (by (with_reducible repeat (first | apply Kd.R_alloc | apply Kd.R_drewN | apply Kd.R_drew)); exact HO207.out) (Kd.R_base ho0) hb); have n1_ := Aside0.mk (Kd.R_elder' (by (with_reducible repeat (first | apply Kd.R_alloc | apply Kd.R_drewN | apply Kd.R_drew)); exact HO210.out) (Kd.R_base ho1) hb); have n2_ := Aside0.mk (Kd.R_elder' (by (with_reducible repeat (first | apply Kd.R_alloc | apply Kd.R_drewN | apply Kd.R_drew)); exact HO213.out) (Kd.R_base ho1) hb); have n3_ := Aside0.mk (Kd.R_lower (Kd.R_new' ho0 (Kd.R_lt (by (with_reducible repeat (first | apply Kd.R_alloc | apply Kd.R_drewN | apply Kd.R_drew)); exact HO207.out))) (below_size (by repeat (first | (with_reducible first | exact HB.out | apply below_alloc | apply pw_below_drewN | apply below_drew1) | exact HB.out)))); have n4_ := Aside0.mk (Kd.R_lower (Kd.R_new' (Kd.R_new' ho1 (Kd.R_lt (by (with_reducible repeat (first | apply Kd.R_alloc | apply Kd.R_drewN | apply Kd.R_drew)); exact HO210.out))) (Kd.R_lt (by (with_reducible repeat (first | apply Kd.R_alloc | apply Kd.R_drewN | apply Kd.R_drew)); exact HO213.out))) (below_size (by repeat (first | (with_reducible first | exact HB.out | apply below_alloc | apply pw_below_drewN | apply below_drew1) | exact HB.out)))); have n5_ := Aside0.mk (below_step (by repeat (first | (with_reducible first | exact HB.out | apply below_alloc | apply pw_below_drewN | apply below_drew1) | exact HB.out)) hb); clear HO207; clear HO210; clear HO213; clear HB; have HO207 := n0_; have HO210 := n1_; have HO213 := n2_; have HO217 := n3_; have HO220 := n4_; have HB := n5_; clear n0_ n1_ n2_ n3_ n4_ n5_; (try clear hb); (try clear hb2); (try clear hk); (try clear hi); (try clear ho0); (try clear ho1); obtain ⟨Ao17, co17, eo17⟩ := Kd.R_slice HO217.out; subst eo17; obtain ⟨Ao18, co18, eo18⟩ := Kd.R_slice HO220.out; subst eo18) | ((with_reducible refine gate_callee (f := 17) rfl ?_); refine goesL_ (some 12) rfl rfl Try.func17 (by kernel_rfl) rfl #[.agg #[.slice Ao17 t215.length co17, .slice Ao18 t218.length co18], .string (⟨#[97]⟩ : ByteArray)] rfl (by (try simp only [List.map_toArray, List.map_cons, List.map_nil]); first | done | rfl | (simp only [List.length_drop, List.length_take]; rfl)) ?_; (with_reducible refine (event_Get.calls _ _ t215 _ _ t218 (⟨#[97]⟩ : ByteArray) t221 t222 t223 true t225 true _ ?side1 ?side2 ?side3 ?side4 A4.out).mono ?_); (case side1 => repeat (first | exact (Kd.R_reads' HO217.out).2.2 | (with_reducible refine Kd.C_alloc ?_ _) | (with_reducible refine Kd.C_drewN ?_ _) | (with_reducible refine Kd.C_drew ?_))); (case side2 => exact (Kd.R_reads' HO217.out).2.1); (case side3 => repeat (first | exact (Kd.R_reads' HO220.out).2.2 | (with_reducible refine Kd.C_alloc ?_ _) | (with_reducible refine Kd.C_drewN ?_ _) | (with_reducible refine Kd.C_drew ?_))); (case side4 => exact (Kd.R_reads' HO220.out).2.1); rintro e w19 ⟨rfl, hb⟩; refine ⟨_, rfl, ?_⟩; have n0_ := Aside0.mk (Kd.R_below (by (with_reducible repeat (first | apply Kd.R_alloc | apply Kd.R_drewN | apply Kd.R_drew)); exact HO207.out) hb); have n1_ := Aside0.mk (Kd.R_below (by (with_reducible repeat (first | apply Kd.R_alloc | apply Kd.R_drewN | apply Kd.R_drew)); exact HO210.out) hb); have n2_ := Aside0.mk (Kd.R_below (by (with_reducible repeat (first | apply Kd.R_alloc | apply Kd.R_drewN | apply Kd.R_drew)); exact HO213.out) hb); have n3_ := Aside0.mk (Kd.R_below (by (with_reducible repeat (first | apply Kd.R_alloc | apply Kd.R_drewN | apply Kd.R_drew)); exact HO217.out) hb); have n4_ := Aside0.mk (Kd.R_below (by (with_reducible repeat (first | apply Kd.R_alloc | apply Kd.R_drewN | apply Kd.R_drew)); exact HO220.out) hb); have n5_ := Aside0.mk (below_step (by repeat (first | (with_reducible first | exact HB.out | apply below_alloc | apply pw_below_drewN | apply below_drew1) | exact HB.out)) hb); clear HO207; clear HO210; clear HO213; clear HO217; clear HO220; clear HB; have HO207 := n0_; have HO210 := n1_; have HO213 := n2_; have HO217 := n3_; have HO220 := n4_; have HB := n5_; clear n0_ n1_ n2_ n3_ n4_ n5_; (try clear hb); (try clear hb2); (try clear hk); (try clear hi)) | ((with_reducible refine gate_dst (N := 3) rfl ?_); refine box_event ?hg (N := 3) ?hd (cs := #[.int .i64 0, .int .i64 0, .string (⟨#[]⟩ : ByteArray), .bool false, .complex .f64 0 0]) (t := 44) ?hr ?_; (case hd => rfl); (case hg => rfl); (case hr => first | (go_simp; done) | (go_simp; rfl)); intro gb227 hg w20 hbox hb; have n0_ := Aside0.mk (Kd.R_below (by (with_reducible repeat (first | apply Kd.R_alloc | apply Kd.R_drewN | apply Kd.R_drew)); exact HO207.out) hb); have n1_ := Aside0.mk (Kd.R_below (by (with_reducible repeat (first | apply Kd.R_alloc | apply Kd.R_drewN | apply Kd.R_drew)); exact HO210.out) hb); have n2_ := Aside0.mk (Kd.R_below (by (with_reducible repeat (first | apply Kd.R_alloc | apply Kd.R_drewN | apply Kd.R_drew)); exact HO213.out) hb); have n3_ := Aside0.mk (Kd.R_below (by (with_reducible repeat (first | apply Kd.R_alloc | apply Kd.R_drewN | apply Kd.R_drew)); exact HO217.out) hb); have n4_ := Aside0.mk (Kd.R_below (by (with_reducible repeat (first | apply Kd.R_alloc | apply Kd.R_drewN | apply Kd.R_drew)); exact HO220.out) hb); have n5_ := Aside0.mk (below_step (by repeat (first | (with_reducible first | exact HB.out | apply below_alloc | apply pw_below_drewN | apply below_drew1) | exact HB.out)) hb); have n6_ := Aside0.mk (hbox); have n7_ := Aside0.mk ((by rw [hg]; exact (below_size (by repeat (first | (with_reducible first | exact HB.out | apply below_alloc | apply pw_below_drewN | apply below_drew1) | exact HB.out))) : w.heap.size ≤ gb227)); have n8_ := Aside0.mk ((by rw [hg]; exact (below_size (by repeat (first | (with_reducible first | exact HB.out | apply below_alloc | apply pw_below_drewN | apply below_drew1) | exact HB.out))) : w.heap.size ≤ gb227)); clear HO207; clear HO210; clear HO213; clear HO217; clear HO220; clear HB; have HO207 := n0_; have HO210 := n1_; have HO213 := n2_; have HO217 := n3_; have HO220 := n4_; have HB := n5_; have BK227 := n6_; have GW227 := n7_; have GE227 := n8_; clear n0_ n1_ n2_ n3_ n4_ n5_ n6_ n7_ n8_; clear hb hbox hg; have hcz21_0 : w20.cell? ⟨gb227, 0, none⟩ = some (.int .i64 0) := (blk_cell BK227.out 0).trans rfl; have hcz21_1 : w20.cell? ⟨gb227, 1, none⟩ = some (.int .i64 0) := (blk_cell BK227.out 1).trans rfl; have hcz21_2 : w20.cell? ⟨gb227, 2, none⟩ = some (.string (⟨#[]⟩ : ByteArray)) := (blk_cell BK227.out 2).trans rfl; have hcz21_3 : w20.cell? ⟨gb227, 3, none⟩ = some (.bool false) := (blk_cell BK227.out 3).trans rfl; have hcz21_4 : w20.cell? ⟨gb227, 4, none⟩ = some (.complex .f64 0 0) := (blk_cell BK227.out 4).trans rfl; have hfz21_0 := blk_frozen BK227.out 0; have hfz21_1 := blk_frozen BK227.out 1; have hfz21_2 := blk_frozen BK227.out 2; have hfz21_3 := blk_frozen BK227.out 3; have hfz21_4 := blk_frozen BK227.out 4; have hcv22 := own_string (P := Try.prog) Try.underlying28 Try.underlying5 Try.underlying9 (Kd.own_of_R (Kd.R_far (p := ⟨gb227, 4, none⟩) (Kd.R_far (p := ⟨gb227, 3, none⟩) (Kd.R_far (p := ⟨gb227, 2, none⟩) (Kd.R_far (p := ⟨gb227, 1, none⟩) (Kd.R_far (p := ⟨gb227, 0, none⟩) (Kd.R_types HO213.out BK227.out (by decide)) (fun _ hk => hk.2) (.int .i64 t221)) (fun _ hk => hk.2) (.int .i64 t222)) (fun _ hk => hk.2) (.string t223)) (fun _ hk => hk.2) (.bool true)) (fun _ hk => hk.2) (.complex .f64 t225.re t225.im)))) | (go_at_call 8; (with_reducible refine (event_Name.calls k (⟨#[97, 45, 49]⟩ : ByteArray) true _ A9.out).mono ?_); rintro e w' ⟨rfl, ⟨nd, rfl⟩⟩) | (go_at_call 8; (with_reducible refine (event_Name.calls k (⟨#[49, 97]⟩ : ByteArray) t229 _ A11.out).mono ?_); rintro e w' ⟨rfl, ⟨nd, rfl⟩⟩))
      go_ret
      exact ⟨by first | rfl | (simp [errW_none, errW_some] <;> rfl) | (simp [*, errW_none, errW_some] <;> rfl), by repeat (first | (with_reducible first | exact HB.out | apply below_alloc | apply pw_below_drewN | apply below_drew1 | refine below_set ?_ GE227.out) | exact HB.out)⟩
     ·replace c10 := Bool.eq_false_iff.mpr c10
      subst c10
      have H1 : (some false) = some r := by rw [if_neg (show ¬ (false = true) by decide)] at H; exact H
      clear H
      have H := H1
      clear H1
      exact absurd (Option.some.inj H) (by rw [hr_]; decide)
    ·replace c8 := Bool.eq_false_iff.mpr c8
     subst c8
     have H1 : (some false) = some r := by rw [if_neg (show ¬ (false = true) by decide)] at H; exact H
     clear H
     have H := H1
     clear H1
     exact absurd (Option.some.inj H) (by rw [hr_]; decide)
   ·replace c7 := Bool.eq_false_iff.mpr c7
    subst c7
    have H1 : (some false) = some r := by rw [if_neg (show ¬ (false = true) by decide)] at H; exact H
    clear H
    have H := H1
    clear H1
    exact absurd (Option.some.inj H) (by rw [hr_]; decide)
  ·rw [if_neg c6] at H
   have c6b0 : ((strOfNums t211).toList == ([1, 1, 97, 3, 1, 0] : List UInt8)) = false := beq_eq_false_iff_ne.mpr c6
   have c6b1 : ((strOfNums t211).toList != ([1, 1, 97, 3, 1, 0] : List UInt8)) = true := bne_iff_ne.mpr c6
   exact absurd (Option.some.inj H) (by rw [hr_]; decide)
 ·rw [if_neg c5] at H
  have c5b0 : (t214 == 0) = false := beq_eq_false_iff_ne.mpr c5
  have c5b1 : (t214 != 0) = true := bne_iff_ne.mpr c5
  exact absurd (Option.some.inj H) (by rw [hr_]; decide)

end Go.Proofs.Ythcfjkbegadpjaa.Q
