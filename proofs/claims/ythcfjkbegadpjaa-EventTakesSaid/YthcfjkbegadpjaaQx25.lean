/- Functions of the program as Lean functions, each with its walk: that the Go code comes to just these answers, whatever the memory. Written by a program of this claim (wip/tools). -/
import Derived.Test.YthcfjkbegadpjaaQx0
import Derived.Test.YthcfjkbegadpjaaQx24
namespace Go.Proofs.Ythcfjkbegadpjaa.Q
open Go.RowKit Go.Proofs.YthcfjkbegadpjaaW.PrintWords Go.Proofs.YthcfjkbegadpjaaW.PrintLast Go.Proofs.YthcfjkbegadpjaaW.PrintMore
attribute [local go_sem] run_ftoi isSome_setCell bytesLess_total run_store_complex run_store_float max2_int min2_int max_two min_two max_three min_three max_four min_four   -- for this text's walks alone
set_option linter.unusedVariables false
set_option linter.unusedSimpArgs false

/-! ### octet_part: function 32 -/
def octet_part.f (k : Nat) (l0 : List Int) (a1 : Int) (a2 : Int) : Option (List Int × Int × Int) := (octet_TakeUint.f k l0 a1).bind fun bt246 => (if bt246.2.2 = 0 then (if bt246.1 > (IntKind.u64.wrap (a2)) then (some (([] : List Int), 0, 6)) else (if bt246.1 > (IntKind.u64.wrap (wrap64 ((l0.length : Int) - bt246.2.1))) then (some (([] : List Int), 0, 3)) else (if 0 ≤ bt246.2.1 then (if bt246.2.1 ≤ (wrap64 (bt246.2.1 + (wrap64 (bt246.1)))) then (if (wrap64 (bt246.2.1 + (wrap64 (bt246.1)))) ≤ (l0.length : Int) then (some ((l0.take ((wrap64 (bt246.2.1 + (wrap64 (bt246.1)))) : Int).toNat).drop (bt246.2.1 : Int).toNat, wrap64 (bt246.2.1 + (wrap64 (bt246.1))), 0)) else (none)) else (none)) else (none)))) else (some (([] : List Int), 0, bt246.2.2)))
theorem octet_part.mono : ∀ a0 a1 a2 k, LeO (octet_part.f k a0 a1 a2) (octet_part.f (k + 1) a0 a1 a2) := by
 intro a0 a1 a2 k
 unfold octet_part.f
 repeat' first
   | (with_reducible exact octet_TakeUint.mono _ _ _)
   | (with_reducible exact LeO.refl _)
   | (with_reducible exact LeO.none _)
   | (with_reducible refine LeO.ite ?_ ?_)
   | (with_reducible refine LeO.bind ?_ (fun _ => ?_))
   | exact octet_TakeUint.mono _ _ _
   | exact LeO.none _
   | refine LeO.ite ?_ ?_
   | refine LeO.bind ?_ (fun _ => ?_)
set_option maxHeartbeats 8000000 in
set_option maxRecDepth 100000 in
theorem octet_part.calls (k : Nat) (A0 : Option Addr) (c0 : Nat) (l0 : List Int) (a1 : Int) (a2 : Int) (r1 : List Int) (r2 : Int) (r3 : Int) (w : World) (hr0 : Kd.C (Kd.int .u8) w A0 l0.length l0) (hc0 : l0.length ≤ c0) (h : octet_part.f k l0 a1 a2 = some (r1, r2, r3)) :
  Calls Try.prog 32 #[.slice A0 l0.length c0, .int .i64 a1, .int .i64 a2] w fun e w' => ∃ (Al_ : Option Addr) (cl_ : Nat), e = .returned (.tuple #[.slice Al_ r1.length cl_, .int .i64 r2, .int .i64 r3]) ∧ (∀ W_, Kd.C (Kd.int .u8) W_ A0 l0.length l0 → Kd.C (Kd.int .u8) W_ Al_ r1.length r1) ∧ r1.length ≤ cl_ ∧ Drawn0 w w' := by
 have HR0 := Aside0.mk hr0
 have HC0 := Aside0.mk hc0
 clear hr0 hc0
 have H : ((octet_TakeUint.f k l0 a1).bind fun bt246 => (if bt246.2.2 = 0 then (if bt246.1 > (IntKind.u64.wrap (a2)) then (some (([] : List Int), 0, 6)) else (if bt246.1 > (IntKind.u64.wrap (wrap64 ((l0.length : Int) - bt246.2.1))) then (some (([] : List Int), 0, 3)) else (if 0 ≤ bt246.2.1 then (if bt246.2.1 ≤ (wrap64 (bt246.2.1 + (wrap64 (bt246.1)))) then (if (wrap64 (bt246.2.1 + (wrap64 (bt246.1)))) ≤ (l0.length : Int) then (some ((l0.take ((wrap64 (bt246.2.1 + (wrap64 (bt246.1)))) : Int).toNat).drop (bt246.2.1 : Int).toNat, wrap64 (bt246.2.1 + (wrap64 (bt246.1))), 0)) else (none)) else (none)) else (none)))) else (some (([] : List Int), 0, bt246.2.2)))) = some (r1, r2, r3) := h
 clear h
 replace H := Option.bind_eq_some_iff.mp H
 obtain ⟨⟨t246, t247, t248⟩, A40, H⟩ := H
 replace H : (if t248 = 0 then (if t246 > (IntKind.u64.wrap (a2)) then (some (([] : List Int), 0, 6)) else (if t246 > (IntKind.u64.wrap (wrap64 ((l0.length : Int) - t247))) then (some (([] : List Int), 0, 3)) else (if 0 ≤ t247 then (if t247 ≤ (wrap64 (t247 + (wrap64 (t246)))) then (if (wrap64 (t247 + (wrap64 (t246)))) ≤ (l0.length : Int) then (some ((l0.take ((wrap64 (t247 + (wrap64 (t246)))) : Int).toNat).drop (t247 : Int).toNat, wrap64 (t247 + (wrap64 (t246))), 0)) else (none)) else (none)) else (none)))) else (some (([] : List Int), 0, t248))) = some (r1, r2, r3) := H
 have A4 := Aside0.mk A40
 clear A40
 by_cases c5 : t248 = 0
 ·rw [if_pos c5] at H
  have c5b0 : (t248 == 0) = true := beq_iff_eq.mpr c5
  have c5b1 : (t248 != 0) = false := bne_eq_false_iff_eq.mpr c5
  clear c5
  by_cases c6 : t246 > (IntKind.u64.wrap (a2))
  ·rw [if_pos c6] at H
   have c6b0 : decide ((IntKind.u64.wrap (a2)) < t246) = true := decide_eq_true c6
   clear c6
   simp only [Option.some.injEq, Prod.mk.injEq] at H
   obtain ⟨rfl, rfl, rfl⟩ := H
   go_enter Try.func32, Try.ntmps32
   go_wp2_with (first | ((with_reducible refine gate_callee (f := 19) rfl ?_); refine goesL_ (some 15) rfl rfl Try.func19 (by kernel_rfl) rfl #[.slice A0 l0.length c0, .int .i64 a1] rfl (by (try simp only [List.map_toArray, List.map_cons, List.map_nil]); first | done | rfl | (simp only [List.length_drop, List.length_take]; rfl)) ?_; (with_reducible refine (octet_TakeUint.calls k _ _ l0 a1 t246 t247 t248 _ ?side1 ?side2 A4.out).mono ?_); (case side1 => repeat (first | exact HR0.out | (with_reducible refine Kd.C_alloc ?_ _) | (with_reducible refine Kd.C_drewN ?_ _) | (with_reducible refine Kd.C_drew ?_))); (case side2 => exact HC0.out); rintro e w' ⟨rfl, ⟨nd, rfl⟩⟩; refine ⟨_, rfl, ?_⟩))
   go_ret3
   exact ⟨none, 0, by first | rfl | (simp; done) | (simp [*]; done), fun _ _ => Kd.C_nil _ _, by simp, by repeat (first | exact Drawn0.refl _ | apply Drawn0.step)⟩
  ·rw [if_neg c6] at H
   have c6b0 : decide ((IntKind.u64.wrap (a2)) < t246) = false := decide_eq_false c6
   clear c6
   by_cases c7 : t246 > (IntKind.u64.wrap (wrap64 ((l0.length : Int) - t247)))
   ·rw [if_pos c7] at H
    have c7b0 : decide ((IntKind.u64.wrap (wrap64 ((l0.length : Int) - t247))) < t246) = true := decide_eq_true c7
    clear c7
    simp only [Option.some.injEq, Prod.mk.injEq] at H
    obtain ⟨rfl, rfl, rfl⟩ := H
    go_enter Try.func32, Try.ntmps32
    go_wp2_with (first | ((with_reducible refine gate_callee (f := 19) rfl ?_); refine goesL_ (some 15) rfl rfl Try.func19 (by kernel_rfl) rfl #[.slice A0 l0.length c0, .int .i64 a1] rfl (by (try simp only [List.map_toArray, List.map_cons, List.map_nil]); first | done | rfl | (simp only [List.length_drop, List.length_take]; rfl)) ?_; (with_reducible refine (octet_TakeUint.calls k _ _ l0 a1 t246 t247 t248 _ ?side1 ?side2 A4.out).mono ?_); (case side1 => repeat (first | exact HR0.out | (with_reducible refine Kd.C_alloc ?_ _) | (with_reducible refine Kd.C_drewN ?_ _) | (with_reducible refine Kd.C_drew ?_))); (case side2 => exact HC0.out); rintro e w' ⟨rfl, ⟨nd, rfl⟩⟩; refine ⟨_, rfl, ?_⟩))
    go_ret3
    exact ⟨none, 0, by first | rfl | (simp; done) | (simp [*]; done), fun _ _ => Kd.C_nil _ _, by simp, by repeat (first | exact Drawn0.refl _ | apply Drawn0.step)⟩
   ·rw [if_neg c7] at H
    have c7b0 : decide ((IntKind.u64.wrap (wrap64 ((l0.length : Int) - t247))) < t246) = false := decide_eq_false c7
    clear c7
    by_cases c8 : 0 ≤ t247
    ·rw [if_pos c8] at H
     have c8b0 := eq_true c8
     have c8b1 : decide (0 ≤ t247) = true := decide_eq_true c8
     clear c8
     by_cases c9 : t247 ≤ (wrap64 (t247 + (wrap64 (t246))))
     ·rw [if_pos c9] at H
      have c9b0 := eq_true c9
      have c9b1 : decide (t247 ≤ (wrap64 (t247 + (wrap64 (t246))))) = true := decide_eq_true c9
      by_cases c10 : (wrap64 (t247 + (wrap64 (t246)))) ≤ (l0.length : Int)
      ·rw [if_pos c10] at H
       have c10b0 := eq_true c10
       have c10b1 : decide ((wrap64 (t247 + (wrap64 (t246)))) ≤ (l0.length : Int)) = true := decide_eq_true c10
       simp only [Option.some.injEq, Prod.mk.injEq] at H
       obtain ⟨rfl, rfl, rfl⟩ := H
       go_enter Try.func32, Try.ntmps32
       go_wp2_with (first | ((with_reducible refine gate_callee (f := 19) rfl ?_); refine goesL_ (some 15) rfl rfl Try.func19 (by kernel_rfl) rfl #[.slice A0 l0.length c0, .int .i64 a1] rfl (by (try simp only [List.map_toArray, List.map_cons, List.map_nil]); first | done | rfl | (simp only [List.length_drop, List.length_take]; rfl)) ?_; (with_reducible refine (octet_TakeUint.calls k _ _ l0 a1 t246 t247 t248 _ ?side1 ?side2 A4.out).mono ?_); (case side1 => repeat (first | exact HR0.out | (with_reducible refine Kd.C_alloc ?_ _) | (with_reducible refine Kd.C_drewN ?_ _) | (with_reducible refine Kd.C_drew ?_))); (case side2 => exact HC0.out); rintro e w' ⟨rfl, ⟨nd, rfl⟩⟩; refine ⟨_, rfl, ?_⟩; obtain ⟨i011, hi011, _, hsz11, _⟩ := info_parts info5; obtain ⟨A11, hcut11, hA11, hC11⟩ := print_mid_of (P := Try.prog) (Value.int .u8) 0 28 5 .i64 .i64 Try.underlying28 hi011 hsz11 A0 c0 l0 t247 (wrap64 (t247 + (wrap64 (t246)))) (of_decide_eq_true (by first | (with_reducible assumption) | assumption)) (by first | omega | exact of_decide_eq_true (by first | (with_reducible assumption) | assumption)) (of_decide_eq_true (by first | (with_reducible assumption) | assumption)) HC0.out; have HR249 := Aside0.mk (Kd.C_of_reads (h1 := fun _ => rfl) (hA11 _ (Kd.reads_of_C HR0.out))); have HC249 := Aside0.mk hC11; clear hC11 hi011 hsz11; have HLQ11 : Aside0 (((l0.take ((wrap64 (t247 + (wrap64 (t246)))) : Int).toNat).drop (t247 : Int).toNat).length = ((wrap64 (t247 + (wrap64 (t246)))) : Int).toNat - (t247 : Int).toNat) := ⟨by have h_ : ((wrap64 (t247 + (wrap64 (t246)))) : Int) ≤ (l0.length : Int) := of_decide_eq_true (by first | (with_reducible assumption) | assumption); simp only [List.length_drop, List.length_take]; omega⟩))
       go_ret3
       exact ⟨_, _, by rw [HLQ11.out]; first | rfl | (simp; done) | (simp [*]; done), fun W_ h_ => Kd.C_of_reads (h1 := fun _ => rfl) (hA11 W_ (Kd.reads_of_C h_)), HC249.out, by repeat (first | exact Drawn0.refl _ | apply Drawn0.step)⟩
      ·rw [if_neg c10] at H
       exact absurd H (by simp)
     ·rw [if_neg c9] at H
      exact absurd H (by simp)
    ·rw [if_neg c8] at H
     exact absurd H (by simp)
 ·rw [if_neg c5] at H
  have c5b0 : (t248 == 0) = false := beq_eq_false_iff_ne.mpr c5
  have c5b1 : (t248 != 0) = true := bne_iff_ne.mpr c5
  simp only [Option.some.injEq, Prod.mk.injEq] at H
  obtain ⟨rfl, rfl, rfl⟩ := H
  go_enter Try.func32, Try.ntmps32
  go_wp2_with (first | ((with_reducible refine gate_callee (f := 19) rfl ?_); refine goesL_ (some 15) rfl rfl Try.func19 (by kernel_rfl) rfl #[.slice A0 l0.length c0, .int .i64 a1] rfl (by (try simp only [List.map_toArray, List.map_cons, List.map_nil]); first | done | rfl | (simp only [List.length_drop, List.length_take]; rfl)) ?_; (with_reducible refine (octet_TakeUint.calls k _ _ l0 a1 t246 t247 t248 _ ?side1 ?side2 A4.out).mono ?_); (case side1 => repeat (first | exact HR0.out | (with_reducible refine Kd.C_alloc ?_ _) | (with_reducible refine Kd.C_drewN ?_ _) | (with_reducible refine Kd.C_drew ?_))); (case side2 => exact HC0.out); rintro e w' ⟨rfl, ⟨nd, rfl⟩⟩; refine ⟨_, rfl, ?_⟩))
  go_ret3
  exact ⟨none, 0, by first | rfl | (simp; done) | (simp [*]; done), fun _ _ => Kd.C_nil _ _, by simp, by repeat (first | exact Drawn0.refl _ | apply Drawn0.step)⟩

end Go.Proofs.Ythcfjkbegadpjaa.Q
