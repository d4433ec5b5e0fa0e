/- Functions of the program as Lean functions, each with its walk: that the Go code comes to just these answers, whatever the memory. Written by a program of this claim (wip/tools). -/
import Derived.Test.YtmgljgmieomngaaMc
import Derived.Test.YtmgljgmieomngaaQx0
namespace Go.Proofs.Ytmgljgmieomngaa.Q
open Go.RowKit Go.Proofs.YtmgljgmieomngaaW.PrintWords Go.Proofs.YtmgljgmieomngaaW.PrintLast Go.Proofs.YtmgljgmieomngaaW.PrintMore
attribute [local go_sem] run_ftoi isSome_setCell bytesLess_total run_store_complex run_store_float max2_int min2_int max_two min_two max_three min_three max_four min_four   -- for this text's walks alone
set_option linter.unusedVariables false
set_option linter.unusedSimpArgs false

/-! ### grapevineref05_May: function 52 -/
def grapevineref05_May.f (a0 : Int) (a1 : Int) : Option (Bool) := if a0 = 9 then (some (a1 == 2)) else (if a0 = 10 then (some (a1 == 4)) else (if a0 = 5 then (if a1 = 1 then (some true) else (some (a1 == 2))) else (if a0 = 6 then (if a1 = 1 then (some true) else (some (a1 == 2))) else (if a0 = 7 then (if a1 = 1 then (some true) else (some (a1 == 2))) else (if a0 = 8 then (if a1 = 1 then (some true) else (some (a1 == 2))) else (some true))))))
set_option maxHeartbeats 8000000 in
set_option maxRecDepth 100000 in
theorem grapevineref05_May.calls (a0 : Int) (a1 : Int) (r : Bool) (w : World) (h : grapevineref05_May.f a0 a1 = some r) :
  Calls Try.prog 52 #[.int .i64 a0, .int .i64 a1] w fun e w' => e = .returned (.bool r) ∧ Drawn0 w w' := by
 have H : (if a0 = 9 then (some (a1 == 2)) else (if a0 = 10 then (some (a1 == 4)) else (if a0 = 5 then (if a1 = 1 then (some true) else (some (a1 == 2))) else (if a0 = 6 then (if a1 = 1 then (some true) else (some (a1 == 2))) else (if a0 = 7 then (if a1 = 1 then (some true) else (some (a1 == 2))) else (if a0 = 8 then (if a1 = 1 then (some true) else (some (a1 == 2))) else (some true))))))) = some r := h
 clear h
 by_cases c3 : a0 = 9
 ·rw [if_pos c3] at H
  have c3b0 : (a0 == 9) = true := beq_iff_eq.mpr c3
  have c3b1 : (a0 != 9) = false := bne_eq_false_iff_eq.mpr c3
  clear c3
  obtain rfl := Option.some.inj H
  go_enter Try.func52, Try.ntmps52
  go_wp2
  go_ret
  exact ⟨by first | rfl | (simp; done) | (simp [*]; done), by repeat (first | exact Drawn0.refl _ | apply Drawn0.step)⟩
 ·rw [if_neg c3] at H
  have c3b0 : (a0 == 9) = false := beq_eq_false_iff_ne.mpr c3
  have c3b1 : (a0 != 9) = true := bne_iff_ne.mpr c3
  by_cases c4 : a0 = 10
  ·rw [if_pos c4] at H
   have c4b0 : (a0 == 10) = true := beq_iff_eq.mpr c4
   have c4b1 : (a0 != 10) = false := bne_eq_false_iff_eq.mpr c4
   clear c4
   obtain rfl := Option.some.inj H
   go_enter Try.func52, Try.ntmps52
   go_wp2
   go_ret
   exact ⟨by first | rfl | (simp; done) | (simp [*]; done), by repeat (first | exact Drawn0.refl _ | apply Drawn0.step)⟩
  ·rw [if_neg c4] at H
   have c4b0 : (a0 == 10) = false := beq_eq_false_iff_ne.mpr c4
   have c4b1 : (a0 != 10) = true := bne_iff_ne.mpr c4
   by_cases c5 : a0 = 5
   ·rw [if_pos c5] at H
    have c5b0 : (a0 == 5) = true := beq_iff_eq.mpr c5
    have c5b1 : (a0 != 5) = false := bne_eq_false_iff_eq.mpr c5
    clear c5
    by_cases c6 : a1 = 1
    ·rw [if_pos c6] at H
     have c6b0 : (a1 == 1) = true := beq_iff_eq.mpr c6
     have c6b1 : (a1 != 1) = false := bne_eq_false_iff_eq.mpr c6
     clear c6
     obtain rfl := Option.some.inj H
     go_enter Try.func52, Try.ntmps52
     go_wp2
     go_ret
     exact ⟨by first | rfl | (simp; done) | (simp [*]; done), by repeat (first | exact Drawn0.refl _ | apply Drawn0.step)⟩
    ·rw [if_neg c6] at H
     have c6b0 : (a1 == 1) = false := beq_eq_false_iff_ne.mpr c6
     have c6b1 : (a1 != 1) = true := bne_iff_ne.mpr c6
     obtain rfl := Option.some.inj H
     go_enter Try.func52, Try.ntmps52
     go_wp2
     go_ret
     exact ⟨by first | rfl | (simp; done) | (simp [*]; done), by repeat (first | exact Drawn0.refl _ | apply Drawn0.step)⟩
   ·rw [if_neg c5] at H
    have c5b0 : (a0 == 5) = false := beq_eq_false_iff_ne.mpr c5
    have c5b1 : (a0 != 5) = true := bne_iff_ne.mpr c5
    by_cases c7 : a0 = 6
    ·rw [if_pos c7] at H
     have c7b0 : (a0 == 6) = true := beq_iff_eq.mpr c7
     have c7b1 : (a0 != 6) = false := bne_eq_false_iff_eq.mpr c7
     clear c7
     by_cases c8 : a1 = 1
     ·rw [if_pos c8] at H
      have c8b0 : (a1 == 1) = true := beq_iff_eq.mpr c8
      have c8b1 : (a1 != 1) = false := bne_eq_false_iff_eq.mpr c8
      clear c8
      obtain rfl := Option.some.inj H
      go_enter Try.func52, Try.ntmps52
      go_wp2
      go_ret
      exact ⟨by first | rfl | (simp; done) | (simp [*]; done), by repeat (first | exact Drawn0.refl _ | apply Drawn0.step)⟩
     ·rw [if_neg c8] at H
      have c8b0 : (a1 == 1) = false := beq_eq_false_iff_ne.mpr c8
      have c8b1 : (a1 != 1) = true := bne_iff_ne.mpr c8
      obtain rfl := Option.some.inj H
      go_enter Try.func52, Try.ntmps52
      go_wp2
      go_ret
      exact ⟨by first | rfl | (simp; done) | (simp [*]; done), by repeat (first | exact Drawn0.refl _ | apply Drawn0.step)⟩
    ·rw [if_neg c7] at H
     have c7b0 : (a0 == 6) = false := beq_eq_false_iff_ne.mpr c7
     have c7b1 : (a0 != 6) = true := bne_iff_ne.mpr c7
     by_cases c9 : a0 = 7
     ·rw [if_pos c9] at H
      have c9b0 : (a0 == 7) = true := beq_iff_eq.mpr c9
      have c9b1 : (a0 != 7) = false := bne_eq_false_iff_eq.mpr c9
      clear c9
      by_cases c10 : a1 = 1
      ·rw [if_pos c10] at H
       have c10b0 : (a1 == 1) = true := beq_iff_eq.mpr c10
       have c10b1 : (a1 != 1) = false := bne_eq_false_iff_eq.mpr c10
       clear c10
       obtain rfl := Option.some.inj H
       go_enter Try.func52, Try.ntmps52
       go_wp2
       go_ret
       exact ⟨by first | rfl | (simp; done) | (simp [*]; done), by repeat (first | exact Drawn0.refl _ | apply Drawn0.step)⟩
      ·rw [if_neg c10] at H
       have c10b0 : (a1 == 1) = false := beq_eq_false_iff_ne.mpr c10
       have c10b1 : (a1 != 1) = true := bne_iff_ne.mpr c10
       obtain rfl := Option.some.inj H
       go_enter Try.func52, Try.ntmps52
       go_wp2
       go_ret
       exact ⟨by first | rfl | (simp; done) | (simp [*]; done), by repeat (first | exact Drawn0.refl _ | apply Drawn0.step)⟩
     ·rw [if_neg c9] at H
      have c9b0 : (a0 == 7) = false := beq_eq_false_iff_ne.mpr c9
      have c9b1 : (a0 != 7) = true := bne_iff_ne.mpr c9
      by_cases c11 : a0 = 8
      ·rw [if_pos c11] at H
       have c11b0 : (a0 == 8) = true := beq_iff_eq.mpr c11
       have c11b1 : (a0 != 8) = false := bne_eq_false_iff_eq.mpr c11
       clear c11
       by_cases c12 : a1 = 1
       ·rw [if_pos c12] at H
        have c12b0 : (a1 == 1) = true := beq_iff_eq.mpr c12
        have c12b1 : (a1 != 1) = false := bne_eq_false_iff_eq.mpr c12
        clear c12
        obtain rfl := Option.some.inj H
        go_enter Try.func52, Try.ntmps52
        go_wp2
        go_ret
        exact ⟨by first | rfl | (simp; done) | (simp [*]; done), by repeat (first | exact Drawn0.refl _ | apply Drawn0.step)⟩
       ·rw [if_neg c12] at H
        have c12b0 : (a1 == 1) = false := beq_eq_false_iff_ne.mpr c12
        have c12b1 : (a1 != 1) = true := bne_iff_ne.mpr c12
        obtain rfl := Option.some.inj H
        go_enter Try.func52, Try.ntmps52
        go_wp2
        go_ret
        exact ⟨by first | rfl | (simp; done) | (simp [*]; done), by repeat (first | exact Drawn0.refl _ | apply Drawn0.step)⟩
      ·rw [if_neg c11] at H
       have c11b0 : (a0 == 8) = false := beq_eq_false_iff_ne.mpr c11
       have c11b1 : (a0 != 8) = true := bne_iff_ne.mpr c11
       obtain rfl := Option.some.inj H
       go_enter Try.func52, Try.ntmps52
       go_wp2
       go_ret
       exact ⟨by first | rfl | (simp; done) | (simp [*]; done), by repeat (first | exact Drawn0.refl _ | apply Drawn0.step)⟩

end Go.Proofs.Ytmgljgmieomngaa.Q
