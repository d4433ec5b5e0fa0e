/- Functions of the program as Lean functions, each with its walk: that the Go code comes to just these answers, whatever the memory. Written by a program of this claim (wip/tools). -/
import Derived.Test.YtmgljgmieomngaaMc
import Derived.Test.YtmgljgmieomngaaQx0
import Derived.Test.YtmgljgmieomngaaQx42
namespace Go.Proofs.Ytmgljgmieomngaa.Q
open Go.RowKit Go.Proofs.YtmgljgmieomngaaW.PrintWords Go.Proofs.YtmgljgmieomngaaW.PrintLast Go.Proofs.YtmgljgmieomngaaW.PrintMore
attribute [local go_sem] run_ftoi isSome_setCell bytesLess_total run_store_complex run_store_float max2_int min2_int max_two min_two max_three min_three max_four min_four   -- for this text's walks alone
set_option linter.unusedVariables false
set_option linter.unusedSimpArgs false

/-! ### octet_part: function 67 -/
def octet_part.f (k : Nat) (l0 : List Int) (a1 : Int) (a2 : Int) : Option (List Int × Int × Int) := (octet_TakeUint.f k l0 a1).bind fun bt215 => (if bt215.2.2 = 0 then (if bt215.1 > (IntKind.u64.wrap (a2)) then (some (([] : List Int), 0, 6)) else (if bt215.1 > (IntKind.u64.wrap (wrap64 ((l0.length : Int) - bt215.2.1))) then (some (([] : List Int), 0, 3)) else (if 0 ≤ bt215.2.1 then (if bt215.2.1 ≤ (wrap64 (bt215.2.1 + (wrap64 (bt215.1)))) then (if (wrap64 (bt215.2.1 + (wrap64 (bt215.1)))) ≤ (l0.length : Int) then (some ((l0.take ((wrap64 (bt215.2.1 + (wrap64 (bt215.1)))) : Int).toNat).drop (bt215.2.1 : Int).toNat, wrap64 (bt215.2.1 + (wrap64 (bt215.1))), 0)) else (none)) else (none)) else (none)))) else (some (([] : List Int), 0, bt215.2.2)))
theorem octet_part.mono : ∀ a0 a1 a2 k, LeO (octet_part.f k a0 a1 a2) (octet_part.f (k + 1) a0 a1 a2) := by
 intro a0 a1 a2 k
 unfold octet_part.f
 repeat' first
   | (with_reducible exact octet_TakeUint.mono _ _ _)
   | (with_reducible exact LeO.refl _)
   | (with_reducible exact LeO.none _)
   | (with_reducible refine LeO.ite ?_ ?_)
   | (with_reducible refine LeO.bind ?_ (fun _ => ?_))
   | exact octet_TakeUint.mono _ _ _
   | exact LeO.none _
   | refine LeO.ite ?_ ?_
   | refine LeO.bind ?_ (fun _ => ?_)
set_option maxHeartbeats 8000000 in
set_option maxRecDepth 100000 in
theorem octet_part.calls (k : Nat) (A0 : Option Addr) (c0 : Nat) (l0 : List Int) (a1 : Int) (a2 : Int) (r1 : List Int) (r2 : Int) (r3 : Int) (w : World) (hr0 : Kd.C (Kd.int .u8) w A0 l0.length l0) (hc0 : l0.length ≤ c0) (h : octet_part.f k l0 a1 a2 = some (r1, r2, r3)) :
  Calls Try.prog 67 #[.slice A0 l0.length c0, .int .i64 a1, .int .i64 a2] w fun e w' => ∃ (Al_ : Option Addr) (cl_ : Nat), e = .returned (.tuple #[.slice Al_ r1.length cl_, .int .i64 r2, .int .i64 r3]) ∧ (∀ W_, Kd.C (Kd.int .u8) W_ A0 l0.length l0 → Kd.C (Kd.int .u8) W_ Al_ r1.length r1) ∧ r1.length ≤ cl_ ∧ Drawn0 w w' := by
 have HR0 := Aside0.mk hr0
 have HC0 := Aside0.mk hc0
 clear hr0 hc0
 have H : ((octet_TakeUint.f k l0 a1).bind fun bt215 => (if bt215.2.2 = 0 then (if bt215.1 > (IntKind.u64.wrap (a2)) then (some (([] : List Int), 0, 6)) else (if bt215.1 > (IntKind.u64.wrap (wrap64 ((l0.length : Int) - bt215.2.1))) then (some (([] : List Int), 0, 3)) else (if 0 ≤ bt215.2.1 then (if bt215.2.1 ≤ (wrap64 (bt215.2.1 + (wrap64 (bt215.1)))) then (if (wrap64 (bt215.2.1 + (wrap64 (bt215.1)))) ≤ (l0.length : Int) then (some ((l0.take ((wrap64 (bt215.2.1 + (wrap64 (bt215.1)))) : Int).toNat).drop (bt215.2.1 : Int).toNat, wrap64 (bt215.2.1 + (wrap64 (bt215.1))), 0)) else (none)) else (none)) else (none)))) else (some (([] : List Int), 0, bt215.2.2)))) = some (r1, r2, r3) := h
 clear h
 replace H := Option.bind_eq_some_iff.mp H
 obtain ⟨⟨t215, t216, t217⟩, A40, H⟩ := H
 replace H : (if t217 = 0 then (if t215 > (IntKind.u64.wrap (a2)) then (some (([] : List Int), 0, 6)) else (if t215 > (IntKind.u64.wrap (wrap64 ((l0.length : Int) - t216))) then (some (([] : List Int), 0, 3)) else (if 0 ≤ t216 then (if t216 ≤ (wrap64 (t216 + (wrap64 (t215)))) then (if (wrap64 (t216 + (wrap64 (t215)))) ≤ (l0.length : Int) then (some ((l0.take ((wrap64 (t216 + (wrap64 (t215)))) : Int).toNat).drop (t216 : Int).toNat, wrap64 (t216 + (wrap64 (t215))), 0)) else (none)) else (none)) else (none)))) else (some (([] : List Int), 0, t217))) = some (r1, r2, r3) := H
 have A4 := Aside0.mk A40
 clear A40
 by_cases c5 : t217 = 0
 ·rw [if_pos c5] at H
  have c5b0 : (t217 == 0) = true := beq_iff_eq.mpr c5
  have c5b1 : (t217 != 0) = false := bne_eq_false_iff_eq.mpr c5
  clear c5
  by_cases c6 : t215 > (IntKind.u64.wrap (a2))
  ·rw [if_pos c6] at H
   have c6b0 : decide ((IntKind.u64.wrap (a2)) < t215) = true := decide_eq_true c6
   clear c6
   simp only [Option.some.injEq, Prod.mk.injEq] at H
   obtain ⟨rfl, rfl, rfl⟩ := H
   go_enter Try.func67, Try.ntmps67
   go_wp2_with (first | ((with_reducible refine gate_callee (f := 24) rfl ?_); refine goesL_ (some 15) rfl rfl Try.func24 (by kernel_rfl) rfl #[.slice A0 l0.length c0, .int .i64 a1] rfl (Mp) ?_; (with_reducible refine (octet_TakeUint.calls k _ _ l0 a1 t215 t216 t217 _ ?side1 ?side2 A4.out).mono ?_); (case side1 => repeat (first | exact HR0.out | (with_reducible refine Kd.C_alloc ?_ _) | (with_reducible refine Kd.C_drewN ?_ _) | (with_reducible refine Kd.C_drew ?_))); (case side2 => exact HC0.out); rintro e w' ⟨rfl, ⟨nd, rfl⟩⟩; refine ⟨_, rfl, ?_⟩))
   go_ret3
   exact ⟨none, 0, by first | rfl | (simp; done) | (simp [*]; done), fun _ _ => Kd.C_nil _ _, by simp, by repeat (first | exact Drawn0.refl _ | apply Drawn0.step)⟩
  ·rw [if_neg c6] at H
   have c6b0 : decide ((IntKind.u64.wrap (a2)) < t215) = false := decide_eq_false c6
   clear c6
   by_cases c7 : t215 > (IntKind.u64.wrap (wrap64 ((l0.length : Int) - t216)))
   ·rw [if_pos c7] at H
    have c7b0 : decide ((IntKind.u64.wrap (wrap64 ((l0.length : Int) - t216))) < t215) = true := decide_eq_true c7
    clear c7
    simp only [Option.some.injEq, Prod.mk.injEq] at H
    obtain ⟨rfl, rfl, rfl⟩ := H
    go_enter Try.func67, Try.ntmps67
    go_wp2_with (first | ((with_reducible refine gate_callee (f := 24) rfl ?_); refine goesL_ (some 15) rfl rfl Try.func24 (by kernel_rfl) rfl #[.slice A0 l0.length c0, .int .i64 a1] rfl (Mp) ?_; (with_reducible refine (octet_TakeUint.calls k _ _ l0 a1 t215 t216 t217 _ ?side1 ?side2 A4.out).mono ?_); (case side1 => repeat (first | exact HR0.out | (with_reducible refine Kd.C_alloc ?_ _) | (with_reducible refine Kd.C_drewN ?_ _) | (with_reducible refine Kd.C_drew ?_))); (case side2 => exact HC0.out); rintro e w' ⟨rfl, ⟨nd, rfl⟩⟩; refine ⟨_, rfl, ?_⟩))
    go_ret3
    exact ⟨none, 0, by first | rfl | (simp; done) | (simp [*]; done), fun _ _ => Kd.C_nil _ _, by simp, by repeat (first | exact Drawn0.refl _ | apply Drawn0.step)⟩
   ·rw [if_neg c7] at H
    have c7b0 : decide ((IntKind.u64.wrap (wrap64 ((l0.length : Int) - t216))) < t215) = false := decide_eq_false c7
    clear c7
    by_cases c8 : 0 ≤ t216
    ·rw [if_pos c8] at H
     have c8b0 := eq_true c8
     have c8b1 : decide (0 ≤ t216) = true := decide_eq_true c8
     clear c8
     by_cases c9 : t216 ≤ (wrap64 (t216 + (wrap64 (t215))))
     ·rw [if_pos c9] at H
      have c9b0 := eq_true c9
      have c9b1 : decide (t216 ≤ (wrap64 (t216 + (wrap64 (t215))))) = true := decide_eq_true c9
      by_cases c10 : (wrap64 (t216 + (wrap64 (t215)))) ≤ (l0.length : Int)
      ·rw [if_pos c10] at H
       have c10b0 := eq_true c10
       have c10b1 : decide ((wrap64 (t216 + (wrap64 (t215)))) ≤ (l0.length : Int)) = true := decide_eq_true c10
       simp only [Option.some.injEq, Prod.mk.injEq] at H
       obtain ⟨rfl, rfl, rfl⟩ := H
       go_enter Try.func67, Try.ntmps67
       go_wp2_with (first | ((with_reducible refine gate_callee (f := 24) rfl ?_); refine goesL_ (some 15) rfl rfl Try.func24 (by kernel_rfl) rfl #[.slice A0 l0.length c0, .int .i64 a1] rfl (Mp) ?_; (with_reducible refine (octet_TakeUint.calls k _ _ l0 a1 t215 t216 t217 _ ?side1 ?side2 A4.out).mono ?_); (case side1 => repeat (first | exact HR0.out | (with_reducible refine Kd.C_alloc ?_ _) | (with_reducible refine Kd.C_drewN ?_ _) | (with_reducible refine Kd.C_drew ?_))); (case side2 => exact HC0.out); rintro e w' ⟨rfl, ⟨nd, rfl⟩⟩; refine ⟨_, rfl, ?_⟩; obtain ⟨i011, hi011, _, hsz11, _⟩ := info_parts info5; obtain ⟨A11, hcut11, hA11, hC11⟩ := print_mid_of (P := Try.prog) (Value.int .u8) 0 33 5 .i64 .i64 Try.underlying33 hi011 hsz11 A0 c0 l0 t216 (wrap64 (t216 + (wrap64 (t215)))) (of_decide_eq_true (As)) (by first | omega | exact of_decide_eq_true (As)) (of_decide_eq_true (As)) HC0.out; have HR218 := Aside0.mk (Kd.C_of_reads (h1 := fun _ => rfl) (hA11 _ (Kd.reads_of_C HR0.out))); have HC218 := Aside0.mk hC11; clear hC11 hi011 hsz11; have HLQ11 : Aside0 (((l0.take ((wrap64 (t216 + (wrap64 (t215)))) : Int).toNat).drop (t216 : Int).toNat).length = ((wrap64 (t216 + (wrap64 (t215)))) : Int).toNat - (t216 : Int).toNat) := ⟨by have h_ : ((wrap64 (t216 + (wrap64 (t215)))) : Int) ≤ (l0.length : Int) := of_decide_eq_true (As); simp only [List.length_drop, List.length_take]; omega⟩))
       go_ret3
       exact ⟨_, _, by rw [HLQ11.out]; first | rfl | (simp; done) | (simp [*]; done), fun W_ h_ => Kd.C_of_reads (h1 := fun _ => rfl) (hA11 W_ (Kd.reads_of_C h_)), HC218.out, by repeat (first | exact Drawn0.refl _ | apply Drawn0.step)⟩
      ·rw [if_neg c10] at H
       exact absurd H (by simp)
     ·rw [if_neg c9] at H
      exact absurd H (by simp)
    ·rw [if_neg c8] at H
     exact absurd H (by simp)
 ·rw [if_neg c5] at H
  have c5b0 : (t217 == 0) = false := beq_eq_false_iff_ne.mpr c5
  have c5b1 : (t217 != 0) = true := bne_iff_ne.mpr c5
  simp only [Option.some.injEq, Prod.mk.injEq] at H
  obtain ⟨rfl, rfl, rfl⟩ := H
  go_enter Try.func67, Try.ntmps67
  go_wp2_with (first | ((with_reducible refine gate_callee (f := 24) rfl ?_); refine goesL_ (some 15) rfl rfl Try.func24 (by kernel_rfl) rfl #[.slice A0 l0.length c0, .int .i64 a1] rfl (Mp) ?_; (with_reducible refine (octet_TakeUint.calls k _ _ l0 a1 t215 t216 t217 _ ?side1 ?side2 A4.out).mono ?_); (case side1 => repeat (first | exact HR0.out | (with_reducible refine Kd.C_alloc ?_ _) | (with_reducible refine Kd.C_drewN ?_ _) | (with_reducible refine Kd.C_drew ?_))); (case side2 => exact HC0.out); rintro e w' ⟨rfl, ⟨nd, rfl⟩⟩; refine ⟨_, rfl, ?_⟩))
  go_ret3
  exact ⟨none, 0, by first | rfl | (simp; done) | (simp [*]; done), fun _ _ => Kd.C_nil _ _, by simp, by repeat (first | exact Drawn0.refl _ | apply Drawn0.step)⟩

end Go.Proofs.Ytmgljgmieomngaa.Q
