/- Functions of the program as Lean functions, each with its walk: that the Go code comes to just these answers, whatever the memory. Written by a program of this claim (wip/tools). -/
import Derived.Test.YtmgljgmieomngaaMc
import Derived.Test.YtmgljgmieomngaaQx0
import Derived.Test.YtmgljgmieomngaaQx50
namespace Go.Proofs.Ytmgljgmieomngaa.Q
open Go.RowKit Go.Proofs.YtmgljgmieomngaaW.PrintWords Go.Proofs.YtmgljgmieomngaaW.PrintLast Go.Proofs.YtmgljgmieomngaaW.PrintMore
attribute [local go_sem] run_ftoi isSome_setCell bytesLess_total run_store_complex run_store_float max2_int min2_int max_two min_two max_three min_three max_four min_four   -- for this text's walks alone
set_option linter.unusedVariables false
set_option linter.unusedSimpArgs false

/-! ### grapevineref02_some: function 70 -/
def grapevineref02_some.f (k : Nat) (l0 : List Int) (a1 : Int) (a2 : Int) : Option (List Int × Int × Int) := (grapevineref02_TakeUint.f k l0 a1).bind fun bt304 => (if bt304.2.2 = 0 then (if bt304.1 > (IntKind.u64.wrap (a2)) then (some (([] : List Int), 0, 6)) else (if (wrap64 ((l0.length : Int) - bt304.2.1)) < (wrap64 (bt304.1)) then (some (([] : List Int), 0, 3)) else ((some (([] : List Int) : List Int)).bind fun y307 => (if 0 ≤ bt304.2.1 then (if bt304.2.1 ≤ (wrap64 (bt304.2.1 + (wrap64 (bt304.1)))) then (if (wrap64 (bt304.2.1 + (wrap64 (bt304.1)))) ≤ (l0.length : Int) then (if y307.length + ((l0.take ((wrap64 (bt304.2.1 + (wrap64 (bt304.1)))) : Int).toNat).drop (bt304.2.1 : Int).toNat).length < 140737488355328 then (some ((y307 ++ ((l0.take ((wrap64 (bt304.2.1 + (wrap64 (bt304.1)))) : Int).toNat).drop (bt304.2.1 : Int).toNat)), wrap64 (bt304.2.1 + (wrap64 (bt304.1))), 0)) else (none)) else (none)) else (none)) else (none))))) else (some (([] : List Int), 0, bt304.2.2)))
theorem grapevineref02_some.mono : ∀ a0 a1 a2 k, LeO (grapevineref02_some.f k a0 a1 a2) (grapevineref02_some.f (k + 1) a0 a1 a2) := by
 intro a0 a1 a2 k
 unfold grapevineref02_some.f
 repeat' first
   | (with_reducible exact grapevineref02_TakeUint.mono _ _ _)
   | (with_reducible exact LeO.refl _)
   | (with_reducible exact LeO.none _)
   | (with_reducible refine LeO.ite ?_ ?_)
   | (with_reducible refine LeO.bind ?_ (fun _ => ?_))
   | exact grapevineref02_TakeUint.mono _ _ _
   | exact LeO.none _
   | refine LeO.ite ?_ ?_
   | refine LeO.bind ?_ (fun _ => ?_)
set_option maxHeartbeats 8000000 in
set_option maxRecDepth 100000 in
theorem grapevineref02_some.calls (k : Nat) (A0 : Option Addr) (c0 : Nat) (l0 : List Int) (a1 : Int) (a2 : Int) (r1 : List Int) (r2 : Int) (r3 : Int) (w : World) (hr0 : Kd.C (Kd.int .u8) w A0 l0.length l0) (hc0 : l0.length ≤ c0) (h : grapevineref02_some.f k l0 a1 a2 = some (r1, r2, r3)) :
  Calls Try.prog 70 #[.slice A0 l0.length c0, .int .i64 a1, .int .i64 a2] w fun e w' => ∃ v0_ : Value, e = .returned (.tuple #[v0_, .int .i64 r2, .int .i64 r3]) ∧ Kd.R (Kd.int .u8) 5 w' w.heap.size (fun _ => True) v0_ r1 ∧ Below w.heap.size w w' := by
 have HR0 := Aside0.mk hr0
 have HC0 := Aside0.mk hc0
 clear hr0 hc0
 have HB := Aside0.mk (Below.refl w.heap.size w)
 have H : ((grapevineref02_TakeUint.f k l0 a1).bind fun bt304 => (if bt304.2.2 = 0 then (if bt304.1 > (IntKind.u64.wrap (a2)) then (some (([] : List Int), 0, 6)) else (if (wrap64 ((l0.length : Int) - bt304.2.1)) < (wrap64 (bt304.1)) then (some (([] : List Int), 0, 3)) else ((some (([] : List Int) : List Int)).bind fun y307 => (if 0 ≤ bt304.2.1 then (if bt304.2.1 ≤ (wrap64 (bt304.2.1 + (wrap64 (bt304.1)))) then (if (wrap64 (bt304.2.1 + (wrap64 (bt304.1)))) ≤ (l0.length : Int) then (if y307.length + ((l0.take ((wrap64 (bt304.2.1 + (wrap64 (bt304.1)))) : Int).toNat).drop (bt304.2.1 : Int).toNat).length < 140737488355328 then (some ((y307 ++ ((l0.take ((wrap64 (bt304.2.1 + (wrap64 (bt304.1)))) : Int).toNat).drop (bt304.2.1 : Int).toNat)), wrap64 (bt304.2.1 + (wrap64 (bt304.1))), 0)) else (none)) else (none)) else (none)) else (none))))) else (some (([] : List Int), 0, bt304.2.2)))) = some (r1, r2, r3) := h
 clear h
 replace H := Option.bind_eq_some_iff.mp H
 obtain ⟨⟨t304, t305, t306⟩, A40, H⟩ := H
 replace H : (if t306 = 0 then (if t304 > (IntKind.u64.wrap (a2)) then (some (([] : List Int), 0, 6)) else (if (wrap64 ((l0.length : Int) - t305)) < (wrap64 (t304)) then (some (([] : List Int), 0, 3)) else ((some (([] : List Int) : List Int)).bind fun y307 => (if 0 ≤ t305 then (if t305 ≤ (wrap64 (t305 + (wrap64 (t304)))) then (if (wrap64 (t305 + (wrap64 (t304)))) ≤ (l0.length : Int) then (if y307.length + ((l0.take ((wrap64 (t305 + (wrap64 (t304)))) : Int).toNat).drop (t305 : Int).toNat).length < 140737488355328 then (some ((y307 ++ ((l0.take ((wrap64 (t305 + (wrap64 (t304)))) : Int).toNat).drop (t305 : Int).toNat)), wrap64 (t305 + (wrap64 (t304))), 0)) else (none)) else (none)) else (none)) else (none))))) else (some (([] : List Int), 0, t306))) = some (r1, r2, r3) := H
 have A4 := Aside0.mk A40
 clear A40
 by_cases c5 : t306 = 0
 ·rw [if_pos c5] at H
  have c5b0 : (t306 == 0) = true := beq_iff_eq.mpr c5
  have c5b1 : (t306 != 0) = false := bne_eq_false_iff_eq.mpr c5
  clear c5
  by_cases c6 : t304 > (IntKind.u64.wrap (a2))
  ·rw [if_pos c6] at H
   have c6b0 : decide ((IntKind.u64.wrap (a2)) < t304) = true := decide_eq_true c6
   clear c6
   simp only [Option.some.injEq, Prod.mk.injEq] at H
   obtain ⟨rfl, rfl, rfl⟩ := H
   go_enter Try.func70, Try.ntmps70
   go_wp2_with (first | ((with_reducible refine gate_callee (f := 26) rfl ?_); refine goesL_ (some 15) rfl rfl Try.func26 (by kernel_rfl) rfl #[.slice A0 l0.length c0, .int .i64 a1] rfl (Mp) ?_; (with_reducible refine (grapevineref02_TakeUint.calls k _ _ l0 a1 t304 t305 t306 _ ?side1 ?side2 A4.out).mono ?_); (case side1 => repeat (first | exact HR0.out | (with_reducible refine Kd.C_alloc ?_ _) | (with_reducible refine Kd.C_drewN ?_ _) | (with_reducible refine Kd.C_drew ?_))); (case side2 => exact HC0.out); rintro e w' ⟨rfl, ⟨nd, rfl⟩⟩; refine ⟨_, rfl, ?_⟩))
   go_ret3
   exact ⟨_, by first | rfl | (simp [errW_none, errW_some] <;> rfl) | (simp [*, errW_none, errW_some] <;> rfl), by first | exact Kd.R_nil _ _ _ _ _ | exact Kd.N_nil _ _ _ _ _ | exact Kd.V_nil _ _ _ _ _ | exact Kd.Q_nil _ _ _ _ _ | exact Kd.S_nil _ _ _ _ _, Bl⟩
  ·rw [if_neg c6] at H
   have c6b0 : decide ((IntKind.u64.wrap (a2)) < t304) = false := decide_eq_false c6
   clear c6
   by_cases c7 : (wrap64 ((l0.length : Int) - t305)) < (wrap64 (t304))
   ·rw [if_pos c7] at H
    have c7b0 : decide ((wrap64 ((l0.length : Int) - t305)) < (wrap64 (t304))) = true := decide_eq_true c7
    clear c7
    simp only [Option.some.injEq, Prod.mk.injEq] at H
    obtain ⟨rfl, rfl, rfl⟩ := H
    go_enter Try.func70, Try.ntmps70
    go_wp2_with (first | ((with_reducible refine gate_callee (f := 26) rfl ?_); refine goesL_ (some 15) rfl rfl Try.func26 (by kernel_rfl) rfl #[.slice A0 l0.length c0, .int .i64 a1] rfl (Mp) ?_; (with_reducible refine (grapevineref02_TakeUint.calls k _ _ l0 a1 t304 t305 t306 _ ?side1 ?side2 A4.out).mono ?_); (case side1 => repeat (first | exact HR0.out | (with_reducible refine Kd.C_alloc ?_ _) | (with_reducible refine Kd.C_drewN ?_ _) | (with_reducible refine Kd.C_drew ?_))); (case side2 => exact HC0.out); rintro e w' ⟨rfl, ⟨nd, rfl⟩⟩; refine ⟨_, rfl, ?_⟩))
    go_ret3
    exact ⟨_, by first | rfl | (simp [errW_none, errW_some] <;> rfl) | (simp [*, errW_none, errW_some] <;> rfl), by first | exact Kd.R_nil _ _ _ _ _ | exact Kd.N_nil _ _ _ _ _ | exact Kd.V_nil _ _ _ _ _ | exact Kd.Q_nil _ _ _ _ _ | exact Kd.S_nil _ _ _ _ _, Bl⟩
   ·rw [if_neg c7] at H
    have c7b0 : decide ((wrap64 ((l0.length : Int) - t305)) < (wrap64 (t304))) = false := decide_eq_false c7
    clear c7
    obtain ⟨y307, hy307⟩ : ∃ y_ : List Int, y_ = (([] : List Int)) := ⟨_, rfl⟩
    replace H : (if 0 ≤ t305 then (if t305 ≤ (wrap64 (t305 + (wrap64 (t304)))) then (if (wrap64 (t305 + (wrap64 (t304)))) ≤ (l0.length : Int) then (if y307.length + ((l0.take ((wrap64 (t305 + (wrap64 (t304)))) : Int).toNat).drop (t305 : Int).toNat).length < 140737488355328 then (some ((y307 ++ ((l0.take ((wrap64 (t305 + (wrap64 (t304)))) : Int).toNat).drop (t305 : Int).toNat)), wrap64 (t305 + (wrap64 (t304))), 0)) else (none)) else (none)) else (none)) else (none)) = some (r1, r2, r3) := by first | (rw [hy307]; with_reducible exact H) | (have H2_ := (Option.bind_some _ _).symm.trans H; rw [hy307]; with_reducible exact H2_) | (have H2_ := (Option.bind_some _ _).symm.trans H; with_reducible exact H2_) | with_reducible exact H | (rw [hy307]; exact H) | exact H
    have Ny307 := Aside0.mk hy307
    clear hy307
    by_cases c8 : 0 ≤ t305
    ·rw [if_pos c8] at H
     have c8b0 := eq_true c8
     have c8b1 : decide (0 ≤ t305) = true := decide_eq_true c8
     clear c8
     by_cases c9 : t305 ≤ (wrap64 (t305 + (wrap64 (t304))))
     ·rw [if_pos c9] at H
      have c9b0 := eq_true c9
      have c9b1 : decide (t305 ≤ (wrap64 (t305 + (wrap64 (t304))))) = true := decide_eq_true c9
      by_cases c10 : (wrap64 (t305 + (wrap64 (t304)))) ≤ (l0.length : Int)
      ·rw [if_pos c10] at H
       have c10b0 := eq_true c10
       have c10b1 : decide ((wrap64 (t305 + (wrap64 (t304)))) ≤ (l0.length : Int)) = true := decide_eq_true c10
       by_cases c11 : y307.length + ((l0.take ((wrap64 (t305 + (wrap64 (t304)))) : Int).toNat).drop (t305 : Int).toNat).length < 140737488355328
       ·rw [if_pos c11] at H
        have LMc11 := Aside0.mk c11
        clear c11
        obtain ⟨y311, hy311⟩ : ∃ y_ : List Int, y_ = (y307 ++ ((l0.take ((wrap64 (t305 + (wrap64 (t304)))) : Int).toNat).drop (t305 : Int).toNat)) := ⟨_, rfl⟩
        replace H : (some (y311, wrap64 (t305 + (wrap64 (t304))), 0)) = some (r1, r2, r3) := by first | (rw [hy311]; with_reducible exact H) | (have H2_ := (Option.bind_some _ _).symm.trans H; rw [hy311]; with_reducible exact H2_) | (have H2_ := (Option.bind_some _ _).symm.trans H; with_reducible exact H2_) | with_reducible exact H | (rw [hy311]; exact H) | exact H
        have Ny311 := Aside0.mk hy311
        clear hy311
        simp only [Option.some.injEq, Prod.mk.injEq] at H
        obtain ⟨rfl, rfl, rfl⟩ := H
        go_enter Try.func70, Try.ntmps70
        go_wp2_with (first | ((with_reducible refine gate_callee (f := 26) rfl ?_); refine goesL_ (some 15) rfl rfl Try.func26 (by kernel_rfl) rfl #[.slice A0 l0.length c0, .int .i64 a1] rfl (Mp) ?_; (with_reducible refine (grapevineref02_TakeUint.calls k _ _ l0 a1 t304 t305 t306 _ ?side1 ?side2 A4.out).mono ?_); (case side1 => repeat (first | exact HR0.out | (with_reducible refine Kd.C_alloc ?_ _) | (with_reducible refine Kd.C_drewN ?_ _) | (with_reducible refine Kd.C_drew ?_))); (case side2 => exact HC0.out); rintro e w' ⟨rfl, ⟨nd, rfl⟩⟩; refine ⟨_, rfl, ?_⟩) | ((with_reducible refine gate_dst (N := 33) rfl ?_); refine Kd.R_lit (Kd.int .u8) _ 5 ?hg (N := 33) ?hd (xs := ([] : List Int)) (inner := []) (ok := fun _ => True) (okp := fun _ => True) ?hr ?hp (fun _ hk => hk) trivial (Below.refl _ _) (Nat.le_refl _) (by simp) ?_; (case hd => rfl); (case hg => rfl); (case hr => first | (go_simp; done) | (go_simp; rfl)); (case hp => exact (Reps.none _ _)); intro v308 w12 ho13 hb hg_ hnew_; clear hg_ hnew_; (first | rw [← Ny307.out] at ho13 | (simp only [Int.reduceToNat] at ho13; rw [← Ny307.out] at ho13)); have n0_ := Aside0.mk (Kd.R_lower ho13 (below_size (Bl))); have n1_ := Aside0.mk (below_step (Bl) hb); clear HB; have HO309 := n0_; have HB := n1_; clear n0_ n1_; clear hb ho13; obtain ⟨i014, hi014, _, hsz14, _⟩ := info_parts info5; obtain ⟨A14, hcut14, hA14, hC14⟩ := print_mid_of (P := Try.prog) (Value.int .u8) 0 33 5 .i64 .i64 Try.underlying33 hi014 hsz14 A0 c0 l0 t305 (wrap64 (t305 + (wrap64 (t304)))) (of_decide_eq_true (As)) (by first | omega | exact of_decide_eq_true (As)) (of_decide_eq_true (As)) HC0.out; have HR310 := Aside0.mk (Kd.C_of_reads (h1 := fun _ => rfl) (hA14 _ (Kd.reads_of_C HR0.out))); have HC310 := Aside0.mk hC14; clear hA14 hC14 hi014 hsz14; have HLQ14 : Aside0 (((l0.take ((wrap64 (t305 + (wrap64 (t304)))) : Int).toNat).drop (t305 : Int).toNat).length = ((wrap64 (t305 + (wrap64 (t304)))) : Int).toNat - (t305 : Int).toNat) := ⟨by have h_ : ((wrap64 (t305 + (wrap64 (t304)))) : Int) ≤ (l0.length : Int) := of_decide_eq_true (As); simp only [List.length_drop, List.length_take]; omega⟩) | ((with_reducible refine gate_builtin (b := .append) (xs := #[.tmp 33, .tmp 40]) rfl ?_); at_builtin; refine Kd.R_append_rows (Kd.int .u8) (w0 := w) w.heap.size rfl (.tmp 33) (.tmp 40) 33 5 (.int .u8 0) 1 rfl Try.underlying33 info5 rfl (by decide) (by omega) v308 y307 ((l0.take ((wrap64 (t305 + (wrap64 (t304)))) : Int).toNat).drop (t305 : Int).toNat) _ _ _ (fun _ => True) (fun _ => False) rfl rfl ?aO ?aR (fun _ _ h => h) (fun _ h => h.elim) ?aF ?aB ?aS ?aL ?_; (case aR => first | (rw [← show ((l0.take ((wrap64 (t305 + (wrap64 (t304)))) : Int).toNat).drop (t305 : Int).toNat).length = ((wrap64 (t305 + (wrap64 (t304)))).toNat - t305.toNat) from (by rw [List.length_drop, List.length_take]; have h_ : ((wrap64 (t305 + (wrap64 (t304)))) : Int) ≤ (l0.length : Int) := of_decide_eq_true (As); omega)]; repeat (first | exact (Kd.C_below HR310.out HB.out) | (with_reducible refine Kd.C_alloc ?_ _) | (with_reducible refine Kd.C_drewN ?_ _) | (with_reducible refine Kd.C_drew ?_))) | (repeat (first | exact (Kd.C_below HR310.out HB.out) | (with_reducible refine Kd.C_alloc ?_ _) | (with_reducible refine Kd.C_drewN ?_ _) | (with_reducible refine Kd.C_drew ?_)))); (case aB => exact (Bl)); (case aF => exact (fun _ _ => trivial)); (case aO => exact (Rw HO309.out)); (case aS => exact (below_size (Bl))); (case aL => have := LMc11.out; have hlx_ := (show ((l0.take ((wrap64 (t305 + (wrap64 (t304)))) : Int).toNat).drop (t305 : Int).toNat).length = ((wrap64 (t305 + (wrap64 (t304)))).toNat - t305.toNat) from (by rw [List.length_drop, List.length_take]; have h_ : ((wrap64 (t305 + (wrap64 (t304)))) : Int) ≤ (l0.length : Int) := of_decide_eq_true (As); omega)); omega); intro v312 w15 ho hb hg hat; rw [← Ny311.out] at ho; have n0_ := Aside0.mk (hb); have n1_ := Aside0.mk (ho); clear HB; clear HO309; have HB := n0_; have HO313 := n1_; clear n0_ n1_; clear ho hb hg hat))
        go_ret3
        exact ⟨_, by first | rfl | (simp [errW_none, errW_some] <;> rfl) | (simp [*, errW_none, errW_some] <;> rfl), by (with_reducible repeat (first | apply Kd.R_alloc | apply Kd.R_drewN | apply Kd.R_drew)); exact HO313.out, Bl⟩
       ·rw [if_neg c11] at H
        exact absurd H (by simp)
      ·rw [if_neg c10] at H
       exact absurd H (by simp)
     ·rw [if_neg c9] at H
      exact absurd H (by simp)
    ·rw [if_neg c8] at H
     exact absurd H (by simp)
 ·rw [if_neg c5] at H
  have c5b0 : (t306 == 0) = false := beq_eq_false_iff_ne.mpr c5
  have c5b1 : (t306 != 0) = true := bne_iff_ne.mpr c5
  simp only [Option.some.injEq, Prod.mk.injEq] at H
  obtain ⟨rfl, rfl, rfl⟩ := H
  go_enter Try.func70, Try.ntmps70
  go_wp2_with (first | ((with_reducible refine gate_callee (f := 26) rfl ?_); refine goesL_ (some 15) rfl rfl Try.func26 (by kernel_rfl) rfl #[.slice A0 l0.length c0, .int .i64 a1] rfl (Mp) ?_; (with_reducible refine (grapevineref02_TakeUint.calls k _ _ l0 a1 t304 t305 t306 _ ?side1 ?side2 A4.out).mono ?_); (case side1 => repeat (first | exact HR0.out | (with_reducible refine Kd.C_alloc ?_ _) | (with_reducible refine Kd.C_drewN ?_ _) | (with_reducible refine Kd.C_drew ?_))); (case side2 => exact HC0.out); rintro e w' ⟨rfl, ⟨nd, rfl⟩⟩; refine ⟨_, rfl, ?_⟩))
  go_ret3
  exact ⟨_, by first | rfl | (simp [errW_none, errW_some] <;> rfl) | (simp [*, errW_none, errW_some] <;> rfl), by first | exact Kd.R_nil _ _ _ _ _ | exact Kd.N_nil _ _ _ _ _ | exact Kd.V_nil _ _ _ _ _ | exact Kd.Q_nil _ _ _ _ _ | exact Kd.S_nil _ _ _ _ _, Bl⟩

end Go.Proofs.Ytmgljgmieomngaa.Q
