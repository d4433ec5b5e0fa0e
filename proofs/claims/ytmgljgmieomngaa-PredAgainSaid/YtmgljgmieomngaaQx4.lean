/- Functions of the program as Lean functions, each with its walk: that the Go code comes to just these answers, whatever the memory. Written by a program of this claim (wip/tools). -/
import Derived.Test.YtmgljgmieomngaaMc
import Derived.Test.YtmgljgmieomngaaQx0
namespace Go.Proofs.Ytmgljgmieomngaa.Q
open Go.RowKit Go.Proofs.YtmgljgmieomngaaW.PrintWords Go.Proofs.YtmgljgmieomngaaW.PrintLast Go.Proofs.YtmgljgmieomngaaW.PrintMore
attribute [local go_sem] run_ftoi isSome_setCell bytesLess_total run_store_complex run_store_float max2_int min2_int max_two min_two max_three min_three max_four min_four   -- for this text's walks alone
set_option linter.unusedVariables false
set_option linter.unusedSimpArgs false

/-! ### value_part: function 74 -/
def value_part.f (a0 : Nat) : Option (Int × Bool) := if (FloatKind.f64.format.order a0 13920626448202203136 == some .lt) = true then (some (0, false)) else (if (FloatKind.f64.format.order a0 4697254411347427328 == some .gt) = true then (some (0, false)) else (if (FloatKind.f64.format.order a0 a0 != some .eq) = true then (some (0, false)) else (if fok a0 = true then (some (ftoi a0, (FloatKind.f64.format.order (floatOfInt .f64 (ftoi a0)) a0 == some .eq))) else (none))))
set_option maxHeartbeats 8000000 in
set_option maxRecDepth 100000 in
theorem value_part.calls (a0 : Nat) (r1 : Int) (r2 : Bool) (w : World) (h : value_part.f a0 = some (r1, r2)) :
  Calls Try.prog 74 #[.float .f64 a0] w fun e w' => e = .returned (.tuple #[.int .i64 r1, .bool r2]) ∧ Drawn0 w w' := by
 have H : (if (FloatKind.f64.format.order a0 13920626448202203136 == some .lt) = true then (some (0, false)) else (if (FloatKind.f64.format.order a0 4697254411347427328 == some .gt) = true then (some (0, false)) else (if (FloatKind.f64.format.order a0 a0 != some .eq) = true then (some (0, false)) else (if fok a0 = true then (some (ftoi a0, (FloatKind.f64.format.order (floatOfInt .f64 (ftoi a0)) a0 == some .eq))) else (none))))) = some (r1, r2) := h
 clear h
 by_cases c2 : (FloatKind.f64.format.order a0 13920626448202203136 == some .lt) = true
 ·rw [if_pos c2] at H
  have c2b0 : (FloatKind.f64.format.order a0 13920626448202203136 == some .lt) = true := c2
  (try (have c2b1 : decide (FloatKind.f64.format.order a0 13920626448202203136 = some .lt) = true := by simpa using c2))
  (try (have c2b2 : (FloatKind.f64.format.order a0 13920626448202203136 == some .lt) = true := by simpa using c2))
  clear c2
  simp only [Option.some.injEq, Prod.mk.injEq] at H
  obtain ⟨rfl, rfl⟩ := H
  go_enter Try.func74, Try.ntmps74
  go_wp2
  go_ret2
  exact ⟨by first | rfl | (simp; done) | (simp [*]; done), by repeat (first | exact Drawn0.refl _ | apply Drawn0.step)⟩
 ·rw [if_neg c2] at H
  have c2b0 : (FloatKind.f64.format.order a0 13920626448202203136 == some .lt) = false := by simpa using c2
  (try (have c2b1 : decide (FloatKind.f64.format.order a0 13920626448202203136 = some .lt) = false := by simpa using c2))
  (try (have c2b2 : (FloatKind.f64.format.order a0 13920626448202203136 == some .lt) = false := by simpa using c2))
  (try (have c2b3 : ¬ (FloatKind.f64.format.order a0 13920626448202203136 = some .lt) := by simpa using c2))
  clear c2
  by_cases c3 : (FloatKind.f64.format.order a0 4697254411347427328 == some .gt) = true
  ·rw [if_pos c3] at H
   have c3b0 : (FloatKind.f64.format.order a0 4697254411347427328 == some .gt) = true := c3
   (try (have c3b1 : decide (FloatKind.f64.format.order a0 4697254411347427328 = some .gt) = true := by simpa using c3))
   (try (have c3b2 : (FloatKind.f64.format.order a0 4697254411347427328 == some .gt) = true := by simpa using c3))
   clear c3
   simp only [Option.some.injEq, Prod.mk.injEq] at H
   obtain ⟨rfl, rfl⟩ := H
   go_enter Try.func74, Try.ntmps74
   go_wp2
   go_ret2
   exact ⟨by first | rfl | (simp; done) | (simp [*]; done), by repeat (first | exact Drawn0.refl _ | apply Drawn0.step)⟩
  ·rw [if_neg c3] at H
   have c3b0 : (FloatKind.f64.format.order a0 4697254411347427328 == some .gt) = false := by simpa using c3
   (try (have c3b1 : decide (FloatKind.f64.format.order a0 4697254411347427328 = some .gt) = false := by simpa using c3))
   (try (have c3b2 : (FloatKind.f64.format.order a0 4697254411347427328 == some .gt) = false := by simpa using c3))
   (try (have c3b3 : ¬ (FloatKind.f64.format.order a0 4697254411347427328 = some .gt) := by simpa using c3))
   clear c3
   by_cases c4 : (FloatKind.f64.format.order a0 a0 != some .eq) = true
   ·rw [if_pos c4] at H
    have c4b0 : (FloatKind.f64.format.order a0 a0 != some .eq) = true := c4
    (try (have c4b1 : decide (FloatKind.f64.format.order a0 a0 = some .eq) = false := by simpa using c4))
    (try (have c4b2 : (FloatKind.f64.format.order a0 a0 == some .eq) = false := by simpa using c4))
    (try (have c4b3 : ¬ (FloatKind.f64.format.order a0 a0 = some .eq) := by simpa using c4))
    clear c4
    simp only [Option.some.injEq, Prod.mk.injEq] at H
    obtain ⟨rfl, rfl⟩ := H
    go_enter Try.func74, Try.ntmps74
    go_wp2
    go_ret2
    exact ⟨by first | rfl | (simp; done) | (simp [*]; done), by repeat (first | exact Drawn0.refl _ | apply Drawn0.step)⟩
   ·rw [if_neg c4] at H
    have c4b0 : (FloatKind.f64.format.order a0 a0 != some .eq) = false := by simpa using c4
    (try (have c4b1 : decide (FloatKind.f64.format.order a0 a0 = some .eq) = true := by simpa using c4))
    (try (have c4b2 : (FloatKind.f64.format.order a0 a0 == some .eq) = true := by simpa using c4))
    clear c4
    by_cases c5 : fok a0 = true
    ·rw [if_pos c5] at H
     have c5b0 := eq_true c5
     have c5b1 : decide (fok a0 = true) = true := decide_eq_true c5
     clear c5
     simp only [Option.some.injEq, Prod.mk.injEq] at H
     obtain ⟨rfl, rfl⟩ := H
     go_enter Try.func74, Try.ntmps74
     go_wp2
     go_ret2
     exact ⟨by first | rfl | (simp; done) | (simp [*]; done), by repeat (first | exact Drawn0.refl _ | apply Drawn0.step)⟩
    ·rw [if_neg c5] at H
     exact absurd H (by simp)

end Go.Proofs.Ytmgljgmieomngaa.Q
