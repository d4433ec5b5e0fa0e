/- Functions of the program as Lean functions, each with its walk: that the Go code comes to just these answers, whatever the memory. Written by a program of this claim (wip/tools). -/
import Derived.Test.YtbbgcbliihfpoaaQx0
import Derived.Test.YtbbgcbliihfpoaaQx21
import Derived.Test.YtbbgcbliihfpoaaQx23
namespace Go.Proofs.Ytbbgcbliihfpoaa.Q
open Go.RowKit Go.Proofs.YtbbgcbliihfpoaaW.PrintWords Go.Proofs.YtbbgcbliihfpoaaW.PrintLast Go.Proofs.YtbbgcbliihfpoaaW.PrintMore
attribute [local go_sem] run_ftoi isSome_setCell run_store_complex run_store_float max2_int min2_int max_two min_two max_three min_three max_four min_four   -- for this text's walks alone
set_option linter.unusedVariables false
set_option linter.unusedSimpArgs false

/-! ### grapevinelaw03_live: function 7 -/
def grapevinelaw03_live.f (k : Nat)  : Option (Bool) := (value_Put.f k 1 (-1) (⟨#[]⟩ : ByteArray) false (⟨0, 0⟩ : Cx)).bind fun bt260 => ((value_Apart.f k 4 0 (⟨#[]⟩ : ByteArray) false (⟨0, 0⟩ : Cx) 4 0 (⟨#[]⟩ : ByteArray) false (⟨4613937818241073152, 4616189618054758400⟩ : Cx)).bind fun bt264 => (if bt260.2 = 0 then (if (strOfNums bt260.1).toList = ([1, 1] : List UInt8) then (if bt264.2 = 0 then (some (bt264.1 == 25)) else (some false)) else (some false)) else (some false)))
theorem grapevinelaw03_live.mono : ∀ k, LeO (grapevinelaw03_live.f k ) (grapevinelaw03_live.f (k + 1) ) := by
  intro  k
  unfold grapevinelaw03_live.f
  repeat' first
      | (with_reducible exact value_Apart.mono _ _ _ _ _ _ _ _ _ _ _)
      | (with_reducible exact value_Put.mono _ _ _ _ _ _)
      | (with_reducible exact LeO.refl _)
      | (with_reducible exact LeO.none _)
      | (with_reducible refine LeO.ite ?_ ?_)
      | (with_reducible refine LeO.bind ?_ (fun _ => ?_))
      | exact value_Apart.mono _ _ _ _ _ _ _ _ _ _ _
      | exact value_Put.mono _ _ _ _ _ _
      | exact LeO.none _
      | refine LeO.ite ?_ ?_
      | refine LeO.bind ?_ (fun _ => ?_)
set_option maxHeartbeats 8000000 in
set_option maxRecDepth 100000 in
theorem grapevinelaw03_live.calls (k : Nat)  (r : Bool) (w : World) (h : grapevinelaw03_live.f k  = some r) :
    Calls Try.prog 7 #[] w fun e w' => e = .returned (.bool r) ∧ Below w.heap.size w w' := by
  have hu26 := Try.underlying26
  have HB := Aside0.mk (Below.refl w.heap.size w)
  have H : ((value_Put.f k 1 (-1) (⟨#[]⟩ : ByteArray) false (⟨0, 0⟩ : Cx)).bind fun bt260 => ((value_Apart.f k 4 0 (⟨#[]⟩ : ByteArray) false (⟨0, 0⟩ : Cx) 4 0 (⟨#[]⟩ : ByteArray) false (⟨4613937818241073152, 4616189618054758400⟩ : Cx)).bind fun bt264 => (if bt260.2 = 0 then (if (strOfNums bt260.1).toList = ([1, 1] : List UInt8) then (if bt264.2 = 0 then (some (bt264.1 == 25)) else (some false)) else (some false)) else (some false)))) = some r := h
  clear h
  replace H := Option.bind_eq_some_iff.mp H
  obtain ⟨⟨t260, t263⟩, A10, H⟩ := H
  replace H : ((value_Apart.f k 4 0 (⟨#[]⟩ : ByteArray) false (⟨0, 0⟩ : Cx) 4 0 (⟨#[]⟩ : ByteArray) false (⟨4613937818241073152, 4616189618054758400⟩ : Cx)).bind fun bt264 => (if t263 = 0 then (if (strOfNums t260).toList = ([1, 1] : List UInt8) then (if bt264.2 = 0 then (some (bt264.1 == 25)) else (some false)) else (some false)) else (some false))) = some r := H
  have A1 := Aside0.mk A10
  clear A10
  replace H := Option.bind_eq_some_iff.mp H
  obtain ⟨⟨t264, t265⟩, A20, H⟩ := H
  replace H : (if t263 = 0 then (if (strOfNums t260).toList = ([1, 1] : List UInt8) then (if t265 = 0 then (some (t264 == 25)) else (some false)) else (some false)) else (some false)) = some r := H
  have A2 := Aside0.mk A20
  clear A20
  by_cases c3 : t263 = 0
  · rw [if_pos c3] at H
    have c3b0 : (t263 == 0) = true := beq_iff_eq.mpr c3
    have c3b1 : (t263 != 0) = false := bne_eq_false_iff_eq.mpr c3
    clear c3
    by_cases c4 : (strOfNums t260).toList = ([1, 1] : List UInt8)
    · rw [if_pos c4] at H
      have c4b0 : ((strOfNums t260).toList == ([1, 1] : List UInt8)) = true := beq_iff_eq.mpr c4
      have c4b1 : ((strOfNums t260).toList != ([1, 1] : List UInt8)) = false := bne_eq_false_iff_eq.mpr c4
      clear c4
      by_cases c5 : t265 = 0
      · rw [if_pos c5] at H
        have c5b0 : (t265 == 0) = true := beq_iff_eq.mpr c5
        have c5b1 : (t265 != 0) = false := bne_eq_false_iff_eq.mpr c5
        clear c5
        obtain rfl := Option.some.inj H
        go_enter Try.func7, Try.ntmps7
        go_wp2_with (first | ((with_reducible refine gate_callee (f := 9) rfl ?_); refine goesL_ (some 7) rfl rfl Try.func9 (by kernel_rfl) rfl #[.agg #[.int .i64 1, .int .i64 (-1), .string (⟨#[]⟩ : ByteArray), .bool false, .complex .f64 0 0]] rfl (by (try simp only [List.map_toArray, List.map_cons, List.map_nil]); first | done | rfl | (simp only [List.length_drop, List.length_take]; rfl)) ?_; (with_reducible refine (value_Put.calls k 1 (-1) (⟨#[]⟩ : ByteArray) false (⟨0, 0⟩ : Cx) t260 t263 _ A1.out).mono ?_); rintro e w6 ⟨v261, rfl, ho0, hb⟩; refine ⟨_, rfl, ?_⟩; have n0_ := Aside0.mk (Kd.R_lower ho0 (below_size (by repeat (first | (with_reducible first | exact HB.out | apply below_alloc | apply pw_below_drewN | apply below_drew1) | exact HB.out)))); have n1_ := Aside0.mk (below_step (by repeat (first | (with_reducible first | exact HB.out | apply below_alloc | apply pw_below_drewN | apply below_drew1) | exact HB.out)) hb); clear HB; have HO262 := n0_; have HB := n1_; clear n0_ n1_; (try clear hb); (try clear hb2); (try clear hk); (try clear hi); (try clear ho0)) | ((with_reducible refine gate_callee (f := 16) rfl ?_); refine goesL_ (some 13) rfl rfl Try.func16 (by kernel_rfl) rfl #[.agg #[.int .i64 4, .int .i64 0, .string (⟨#[]⟩ : ByteArray), .bool false, .complex .f64 0 0], .agg #[.int .i64 4, .int .i64 0, .string (⟨#[]⟩ : ByteArray), .bool false, .complex .f64 4613937818241073152 4616189618054758400]] rfl (by (try simp only [List.map_toArray, List.map_cons, List.map_nil]); first | done | rfl | (simp only [List.length_drop, List.length_take]; rfl)) ?_; (with_reducible refine (value_Apart.calls k 4 0 (⟨#[]⟩ : ByteArray) false (⟨0, 0⟩ : Cx) 4 0 (⟨#[]⟩ : ByteArray) false (⟨4613937818241073152, 4616189618054758400⟩ : Cx) t264 t265 _ A2.out).mono ?_); rintro e w7 ⟨rfl, hb⟩; refine ⟨_, rfl, ?_⟩; have n0_ := Aside0.mk (Kd.R_below (by (with_reducible repeat (first | apply Kd.R_alloc | apply Kd.R_drewN | apply Kd.R_drew)); exact HO262.out) hb); have n1_ := Aside0.mk (below_step (by repeat (first | (with_reducible first | exact HB.out | apply below_alloc | apply pw_below_drewN | apply below_drew1) | exact HB.out)) hb); clear HO262; clear HB; have HO262 := n0_; have HB := n1_; clear n0_ n1_; (try clear hb); (try clear hb2); (try clear hk); (try clear hi); have hcv8 := own_string (P := Try.prog) Try.underlying22 Try.underlying5 Try.underlying9 (Kd.own_of_R HO262.out)))
        go_ret
        exact ⟨by first | rfl | (simp [errW_none, errW_some] <;> rfl) | (simp [*, errW_none, errW_some] <;> rfl), by repeat (first | (with_reducible first | exact HB.out | apply below_alloc | apply pw_below_drewN | apply below_drew1) | exact HB.out)⟩
      · rw [if_neg c5] at H
        have c5b0 : (t265 == 0) = false := beq_eq_false_iff_ne.mpr c5
        have c5b1 : (t265 != 0) = true := bne_iff_ne.mpr c5
        obtain rfl := Option.some.inj H
        go_enter Try.func7, Try.ntmps7
        go_wp2_with (first | ((with_reducible refine gate_callee (f := 9) rfl ?_); refine goesL_ (some 7) rfl rfl Try.func9 (by kernel_rfl) rfl #[.agg #[.int .i64 1, .int .i64 (-1), .string (⟨#[]⟩ : ByteArray), .bool false, .complex .f64 0 0]] rfl (by (try simp only [List.map_toArray, List.map_cons, List.map_nil]); first | done | rfl | (simp only [List.length_drop, List.length_take]; rfl)) ?_; (with_reducible refine (value_Put.calls k 1 (-1) (⟨#[]⟩ : ByteArray) false (⟨0, 0⟩ : Cx) t260 t263 _ A1.out).mono ?_); rintro e w9 ⟨v261, rfl, ho0, hb⟩; refine ⟨_, rfl, ?_⟩; have n0_ := Aside0.mk (Kd.R_lower ho0 (below_size (by repeat (first | (with_reducible first | exact HB.out | apply below_alloc | apply pw_below_drewN | apply below_drew1) | exact HB.out)))); have n1_ := Aside0.mk (below_step (by repeat (first | (with_reducible first | exact HB.out | apply below_alloc | apply pw_below_drewN | apply below_drew1) | exact HB.out)) hb); clear HB; have HO262 := n0_; have HB := n1_; clear n0_ n1_; (try clear hb); (try clear hb2); (try clear hk); (try clear hi); (try clear ho0)) | ((with_reducible refine gate_callee (f := 16) rfl ?_); refine goesL_ (some 13) rfl rfl Try.func16 (by kernel_rfl) rfl #[.agg #[.int .i64 4, .int .i64 0, .string (⟨#[]⟩ : ByteArray), .bool false, .complex .f64 0 0], .agg #[.int .i64 4, .int .i64 0, .string (⟨#[]⟩ : ByteArray), .bool false, .complex .f64 4613937818241073152 4616189618054758400]] rfl (by (try simp only [List.map_toArray, List.map_cons, List.map_nil]); first | done | rfl | (simp only [List.length_drop, List.length_take]; rfl)) ?_; (with_reducible refine (value_Apart.calls k 4 0 (⟨#[]⟩ : ByteArray) false (⟨0, 0⟩ : Cx) 4 0 (⟨#[]⟩ : ByteArray) false (⟨4613937818241073152, 4616189618054758400⟩ : Cx) t264 t265 _ A2.out).mono ?_); rintro e w10 ⟨rfl, hb⟩; refine ⟨_, rfl, ?_⟩; have n0_ := Aside0.mk (Kd.R_below (by (with_reducible repeat (first | apply Kd.R_alloc | apply Kd.R_drewN | apply Kd.R_drew)); exact HO262.out) hb); have n1_ := Aside0.mk (below_step (by repeat (first | (with_reducible first | exact HB.out | apply below_alloc | apply pw_below_drewN | apply below_drew1) | exact HB.out)) hb); clear HO262; clear HB; have HO262 := n0_; have HB := n1_; clear n0_ n1_; (try clear hb); (try clear hb2); (try clear hk); (try clear hi); have hcv11 := own_string (P := Try.prog) Try.underlying22 Try.underlying5 Try.underlying9 (Kd.own_of_R HO262.out)))
        go_ret
        exact ⟨by first | rfl | (simp [errW_none, errW_some] <;> rfl) | (simp [*, errW_none, errW_some] <;> rfl), by repeat (first | (with_reducible first | exact HB.out | apply below_alloc | apply pw_below_drewN | apply below_drew1) | exact HB.out)⟩
    · rw [if_neg c4] at H
      have c4b0 : ((strOfNums t260).toList == ([1, 1] : List UInt8)) = false := beq_eq_false_iff_ne.mpr c4
      have c4b1 : ((strOfNums t260).toList != ([1, 1] : List UInt8)) = true := bne_iff_ne.mpr c4
      obtain rfl := Option.some.inj H
      go_enter Try.func7, Try.ntmps7
      go_wp2_with (first | ((with_reducible refine gate_callee (f := 9) rfl ?_); refine goesL_ (some 7) rfl rfl Try.func9 (by kernel_rfl) rfl #[.agg #[.int .i64 1, .int .i64 (-1), .string (⟨#[]⟩ : ByteArray), .bool false, .complex .f64 0 0]] rfl (by (try simp only [List.map_toArray, List.map_cons, List.map_nil]); first | done | rfl | (simp only [List.length_drop, List.length_take]; rfl)) ?_; (with_reducible refine (value_Put.calls k 1 (-1) (⟨#[]⟩ : ByteArray) false (⟨0, 0⟩ : Cx) t260 t263 _ A1.out).mono ?_); rintro e w12 ⟨v261, rfl, ho0, hb⟩; refine ⟨_, rfl, ?_⟩; have n0_ := Aside0.mk (Kd.R_lower ho0 (below_size (by repeat (first | (with_reducible first | exact HB.out | apply below_alloc | apply pw_below_drewN | apply below_drew1) | exact HB.out)))); have n1_ := Aside0.mk (below_step (by repeat (first | (with_reducible first | exact HB.out | apply below_alloc | apply pw_below_drewN | apply below_drew1) | exact HB.out)) hb); clear HB; have HO262 := n0_; have HB := n1_; clear n0_ n1_; (try clear hb); (try clear hb2); (try clear hk); (try clear hi); (try clear ho0)) | ((with_reducible refine gate_callee (f := 16) rfl ?_); refine goesL_ (some 13) rfl rfl Try.func16 (by kernel_rfl) rfl #[.agg #[.int .i64 4, .int .i64 0, .string (⟨#[]⟩ : ByteArray), .bool false, .complex .f64 0 0], .agg #[.int .i64 4, .int .i64 0, .string (⟨#[]⟩ : ByteArray), .bool false, .complex .f64 4613937818241073152 4616189618054758400]] rfl (by (try simp only [List.map_toArray, List.map_cons, List.map_nil]); first | done | rfl | (simp only [List.length_drop, List.length_take]; rfl)) ?_; (with_reducible refine (value_Apart.calls k 4 0 (⟨#[]⟩ : ByteArray) false (⟨0, 0⟩ : Cx) 4 0 (⟨#[]⟩ : ByteArray) false (⟨4613937818241073152, 4616189618054758400⟩ : Cx) t264 t265 _ A2.out).mono ?_); rintro e w13 ⟨rfl, hb⟩; refine ⟨_, rfl, ?_⟩; have n0_ := Aside0.mk (Kd.R_below (by (with_reducible repeat (first | apply Kd.R_alloc | apply Kd.R_drewN | apply Kd.R_drew)); exact HO262.out) hb); have n1_ := Aside0.mk (below_step (by repeat (first | (with_reducible first | exact HB.out | apply below_alloc | apply pw_below_drewN | apply below_drew1) | exact HB.out)) hb); clear HO262; clear HB; have HO262 := n0_; have HB := n1_; clear n0_ n1_; (try clear hb); (try clear hb2); (try clear hk); (try clear hi); have hcv14 := own_string (P := Try.prog) Try.underlying22 Try.underlying5 Try.underlying9 (Kd.own_of_R HO262.out)))
      go_ret
      exact ⟨by first | rfl | (simp [errW_none, errW_some] <;> rfl) | (simp [*, errW_none, errW_some] <;> rfl), by repeat (first | (with_reducible first | exact HB.out | apply below_alloc | apply pw_below_drewN | apply below_drew1) | exact HB.out)⟩
  · rw [if_neg c3] at H
    have c3b0 : (t263 == 0) = false := beq_eq_false_iff_ne.mpr c3
    have c3b1 : (t263 != 0) = true := bne_iff_ne.mpr c3
    obtain rfl := Option.some.inj H
    go_enter Try.func7, Try.ntmps7
    go_wp2_with (first | ((with_reducible refine gate_callee (f := 9) rfl ?_); refine goesL_ (some 7) rfl rfl Try.func9 (by kernel_rfl) rfl #[.agg #[.int .i64 1, .int .i64 (-1), .string (⟨#[]⟩ : ByteArray), .bool false, .complex .f64 0 0]] rfl (by (try simp only [List.map_toArray, List.map_cons, List.map_nil]); first | done | rfl | (simp only [List.length_drop, List.length_take]; rfl)) ?_; (with_reducible refine (value_Put.calls k 1 (-1) (⟨#[]⟩ : ByteArray) false (⟨0, 0⟩ : Cx) t260 t263 _ A1.out).mono ?_); rintro e w15 ⟨v261, rfl, ho0, hb⟩; refine ⟨_, rfl, ?_⟩; have n0_ := Aside0.mk (Kd.R_lower ho0 (below_size (by repeat (first | (with_reducible first | exact HB.out | apply below_alloc | apply pw_below_drewN | apply below_drew1) | exact HB.out)))); have n1_ := Aside0.mk (below_step (by repeat (first | (with_reducible first | exact HB.out | apply below_alloc | apply pw_below_drewN | apply below_drew1) | exact HB.out)) hb); clear HB; have HO262 := n0_; have HB := n1_; clear n0_ n1_; (try clear hb); (try clear hb2); (try clear hk); (try clear hi); (try clear ho0)) | ((with_reducible refine gate_callee (f := 16) rfl ?_); refine goesL_ (some 13) rfl rfl Try.func16 (by kernel_rfl) rfl #[.agg #[.int .i64 4, .int .i64 0, .string (⟨#[]⟩ : ByteArray), .bool false, .complex .f64 0 0], .agg #[.int .i64 4, .int .i64 0, .string (⟨#[]⟩ : ByteArray), .bool false, .complex .f64 4613937818241073152 4616189618054758400]] rfl (by (try simp only [List.map_toArray, List.map_cons, List.map_nil]); first | done | rfl | (simp only [List.length_drop, List.length_take]; rfl)) ?_; (with_reducible refine (value_Apart.calls k 4 0 (⟨#[]⟩ : ByteArray) false (⟨0, 0⟩ : Cx) 4 0 (⟨#[]⟩ : ByteArray) false (⟨4613937818241073152, 4616189618054758400⟩ : Cx) t264 t265 _ A2.out).mono ?_); rintro e w16 ⟨rfl, hb⟩; refine ⟨_, rfl, ?_⟩; have n0_ := Aside0.mk (Kd.R_below (by (with_reducible repeat (first | apply Kd.R_alloc | apply Kd.R_drewN | apply Kd.R_drew)); exact HO262.out) hb); have n1_ := Aside0.mk (below_step (by repeat (first | (with_reducible first | exact HB.out | apply below_alloc | apply pw_below_drewN | apply below_drew1) | exact HB.out)) hb); clear HO262; clear HB; have HO262 := n0_; have HB := n1_; clear n0_ n1_; (try clear hb); (try clear hb2); (try clear hk); (try clear hi)))
    go_ret
    exact ⟨by first | rfl | (simp [errW_none, errW_some] <;> rfl) | (simp [*, errW_none, errW_some] <;> rfl), by repeat (first | (with_reducible first | exact HB.out | apply below_alloc | apply pw_below_drewN | apply below_drew1) | exact HB.out)⟩

end Go.Proofs.Ytbbgcbliihfpoaa.Q
