/- Functions of the program as Lean functions, each with its walk: that the Go code comes to just these answers, whatever the memory. Written by a program of this claim (wip/tools). -/
import Derived.Test.YtmgljgmieomngaaMc
import Derived.Test.YtmgljgmieomngaaQx0
namespace Go.Proofs.Ytmgljgmieomngaa.Q
open Go.RowKit Go.Proofs.YtmgljgmieomngaaW.PrintWords Go.Proofs.YtmgljgmieomngaaW.PrintLast Go.Proofs.YtmgljgmieomngaaW.PrintMore
attribute [local go_sem] run_ftoi isSome_setCell bytesLess_total run_store_complex run_store_float max2_int min2_int max_two min_two max_three min_three max_four min_four   -- for this text's walks alone
set_option linter.unusedVariables false
set_option linter.unusedSimpArgs false

/-! ### pred_sign: function 43 -/
def pred_sign.f (a0 : Int) : Option (ByteArray) := if a0 = 3 then some ⟨#[61]⟩ else if a0 = 4 then some ⟨#[33, 61]⟩ else if a0 = 5 then some ⟨#[60]⟩ else if a0 = 6 then some ⟨#[60, 61]⟩ else if a0 = 7 then some ⟨#[62]⟩ else if a0 = 8 then some ⟨#[62, 61]⟩ else if a0 = 9 then some ⟨#[94]⟩ else if a0 = 10 then some ⟨#[126]⟩ else none
set_option maxHeartbeats 8000000 in
set_option maxRecDepth 100000 in
theorem pred_sign.at3 (w : World) : Calls Try.prog 43 #[.int .i64 3] w fun e w' => e = .returned (.string ⟨#[61]⟩) ∧ Drawn0 w w' := by
 have hi : ∀ W, Sem.run Try.prog (Instr.index 112 (.agg #[.string ⟨#[]⟩, .string ⟨#[]⟩, .string ⟨#[]⟩, .string ⟨#[61]⟩, .string ⟨#[33, 61]⟩, .string ⟨#[60]⟩, .string ⟨#[60, 61]⟩, .string ⟨#[62]⟩, .string ⟨#[62, 61]⟩, .string ⟨#[94]⟩, .string ⟨#[126]⟩]) (.int .i64 3)) W = .ok (.string ⟨#[61]⟩) W := fun _ => rfl
 go_enter Try.func43, Try.ntmps43
 go_wp2
 go_ret
 exact ⟨rfl, by repeat (first | exact Drawn0.refl _ | apply Drawn0.step)⟩
set_option maxHeartbeats 8000000 in
set_option maxRecDepth 100000 in
theorem pred_sign.at4 (w : World) : Calls Try.prog 43 #[.int .i64 4] w fun e w' => e = .returned (.string ⟨#[33, 61]⟩) ∧ Drawn0 w w' := by
 have hi : ∀ W, Sem.run Try.prog (Instr.index 112 (.agg #[.string ⟨#[]⟩, .string ⟨#[]⟩, .string ⟨#[]⟩, .string ⟨#[61]⟩, .string ⟨#[33, 61]⟩, .string ⟨#[60]⟩, .string ⟨#[60, 61]⟩, .string ⟨#[62]⟩, .string ⟨#[62, 61]⟩, .string ⟨#[94]⟩, .string ⟨#[126]⟩]) (.int .i64 4)) W = .ok (.string ⟨#[33, 61]⟩) W := fun _ => rfl
 go_enter Try.func43, Try.ntmps43
 go_wp2
 go_ret
 exact ⟨rfl, by repeat (first | exact Drawn0.refl _ | apply Drawn0.step)⟩
set_option maxHeartbeats 8000000 in
set_option maxRecDepth 100000 in
theorem pred_sign.at5 (w : World) : Calls Try.prog 43 #[.int .i64 5] w fun e w' => e = .returned (.string ⟨#[60]⟩) ∧ Drawn0 w w' := by
 have hi : ∀ W, Sem.run Try.prog (Instr.index 112 (.agg #[.string ⟨#[]⟩, .string ⟨#[]⟩, .string ⟨#[]⟩, .string ⟨#[61]⟩, .string ⟨#[33, 61]⟩, .string ⟨#[60]⟩, .string ⟨#[60, 61]⟩, .string ⟨#[62]⟩, .string ⟨#[62, 61]⟩, .string ⟨#[94]⟩, .string ⟨#[126]⟩]) (.int .i64 5)) W = .ok (.string ⟨#[60]⟩) W := fun _ => rfl
 go_enter Try.func43, Try.ntmps43
 go_wp2
 go_ret
 exact ⟨rfl, by repeat (first | exact Drawn0.refl _ | apply Drawn0.step)⟩
set_option maxHeartbeats 8000000 in
set_option maxRecDepth 100000 in
theorem pred_sign.at6 (w : World) : Calls Try.prog 43 #[.int .i64 6] w fun e w' => e = .returned (.string ⟨#[60, 61]⟩) ∧ Drawn0 w w' := by
 have hi : ∀ W, Sem.run Try.prog (Instr.index 112 (.agg #[.string ⟨#[]⟩, .string ⟨#[]⟩, .string ⟨#[]⟩, .string ⟨#[61]⟩, .string ⟨#[33, 61]⟩, .string ⟨#[60]⟩, .string ⟨#[60, 61]⟩, .string ⟨#[62]⟩, .string ⟨#[62, 61]⟩, .string ⟨#[94]⟩, .string ⟨#[126]⟩]) (.int .i64 6)) W = .ok (.string ⟨#[60, 61]⟩) W := fun _ => rfl
 go_enter Try.func43, Try.ntmps43
 go_wp2
 go_ret
 exact ⟨rfl, by repeat (first | exact Drawn0.refl _ | apply Drawn0.step)⟩
set_option maxHeartbeats 8000000 in
set_option maxRecDepth 100000 in
theorem pred_sign.at7 (w : World) : Calls Try.prog 43 #[.int .i64 7] w fun e w' => e = .returned (.string ⟨#[62]⟩) ∧ Drawn0 w w' := by
 have hi : ∀ W, Sem.run Try.prog (Instr.index 112 (.agg #[.string ⟨#[]⟩, .string ⟨#[]⟩, .string ⟨#[]⟩, .string ⟨#[61]⟩, .string ⟨#[33, 61]⟩, .string ⟨#[60]⟩, .string ⟨#[60, 61]⟩, .string ⟨#[62]⟩, .string ⟨#[62, 61]⟩, .string ⟨#[94]⟩, .string ⟨#[126]⟩]) (.int .i64 7)) W = .ok (.string ⟨#[62]⟩) W := fun _ => rfl
 go_enter Try.func43, Try.ntmps43
 go_wp2
 go_ret
 exact ⟨rfl, by repeat (first | exact Drawn0.refl _ | apply Drawn0.step)⟩
set_option maxHeartbeats 8000000 in
set_option maxRecDepth 100000 in
theorem pred_sign.at8 (w : World) : Calls Try.prog 43 #[.int .i64 8] w fun e w' => e = .returned (.string ⟨#[62, 61]⟩) ∧ Drawn0 w w' := by
 have hi : ∀ W, Sem.run Try.prog (Instr.index 112 (.agg #[.string ⟨#[]⟩, .string ⟨#[]⟩, .string ⟨#[]⟩, .string ⟨#[61]⟩, .string ⟨#[33, 61]⟩, .string ⟨#[60]⟩, .string ⟨#[60, 61]⟩, .string ⟨#[62]⟩, .string ⟨#[62, 61]⟩, .string ⟨#[94]⟩, .string ⟨#[126]⟩]) (.int .i64 8)) W = .ok (.string ⟨#[62, 61]⟩) W := fun _ => rfl
 go_enter Try.func43, Try.ntmps43
 go_wp2
 go_ret
 exact ⟨rfl, by repeat (first | exact Drawn0.refl _ | apply Drawn0.step)⟩
set_option maxHeartbeats 8000000 in
set_option maxRecDepth 100000 in
theorem pred_sign.at9 (w : World) : Calls Try.prog 43 #[.int .i64 9] w fun e w' => e = .returned (.string ⟨#[94]⟩) ∧ Drawn0 w w' := by
 have hi : ∀ W, Sem.run Try.prog (Instr.index 112 (.agg #[.string ⟨#[]⟩, .string ⟨#[]⟩, .string ⟨#[]⟩, .string ⟨#[61]⟩, .string ⟨#[33, 61]⟩, .string ⟨#[60]⟩, .string ⟨#[60, 61]⟩, .string ⟨#[62]⟩, .string ⟨#[62, 61]⟩, .string ⟨#[94]⟩, .string ⟨#[126]⟩]) (.int .i64 9)) W = .ok (.string ⟨#[94]⟩) W := fun _ => rfl
 go_enter Try.func43, Try.ntmps43
 go_wp2
 go_ret
 exact ⟨rfl, by repeat (first | exact Drawn0.refl _ | apply Drawn0.step)⟩
set_option maxHeartbeats 8000000 in
set_option maxRecDepth 100000 in
theorem pred_sign.at10 (w : World) : Calls Try.prog 43 #[.int .i64 10] w fun e w' => e = .returned (.string ⟨#[126]⟩) ∧ Drawn0 w w' := by
 have hi : ∀ W, Sem.run Try.prog (Instr.index 112 (.agg #[.string ⟨#[]⟩, .string ⟨#[]⟩, .string ⟨#[]⟩, .string ⟨#[61]⟩, .string ⟨#[33, 61]⟩, .string ⟨#[60]⟩, .string ⟨#[60, 61]⟩, .string ⟨#[62]⟩, .string ⟨#[62, 61]⟩, .string ⟨#[94]⟩, .string ⟨#[126]⟩]) (.int .i64 10)) W = .ok (.string ⟨#[126]⟩) W := fun _ => rfl
 go_enter Try.func43, Try.ntmps43
 go_wp2
 go_ret
 exact ⟨rfl, by repeat (first | exact Drawn0.refl _ | apply Drawn0.step)⟩
theorem pred_sign.calls (a0 : Int) (r : ByteArray) (w : World) (h : pred_sign.f a0 = some r) :
  Calls Try.prog 43 #[.int .i64 a0] w fun e w' => e = .returned (.string r) ∧ Drawn0 w w' := by
 unfold pred_sign.f at h
 by_cases c3 : a0 = 3
 ·rw [if_pos c3] at h
  obtain rfl := Option.some.inj h
  subst c3
  exact pred_sign.at3 w
 rw [if_neg c3] at h
 by_cases c4 : a0 = 4
 ·rw [if_pos c4] at h
  obtain rfl := Option.some.inj h
  subst c4
  exact pred_sign.at4 w
 rw [if_neg c4] at h
 by_cases c5 : a0 = 5
 ·rw [if_pos c5] at h
  obtain rfl := Option.some.inj h
  subst c5
  exact pred_sign.at5 w
 rw [if_neg c5] at h
 by_cases c6 : a0 = 6
 ·rw [if_pos c6] at h
  obtain rfl := Option.some.inj h
  subst c6
  exact pred_sign.at6 w
 rw [if_neg c6] at h
 by_cases c7 : a0 = 7
 ·rw [if_pos c7] at h
  obtain rfl := Option.some.inj h
  subst c7
  exact pred_sign.at7 w
 rw [if_neg c7] at h
 by_cases c8 : a0 = 8
 ·rw [if_pos c8] at h
  obtain rfl := Option.some.inj h
  subst c8
  exact pred_sign.at8 w
 rw [if_neg c8] at h
 by_cases c9 : a0 = 9
 ·rw [if_pos c9] at h
  obtain rfl := Option.some.inj h
  subst c9
  exact pred_sign.at9 w
 rw [if_neg c9] at h
 by_cases c10 : a0 = 10
 ·rw [if_pos c10] at h
  obtain rfl := Option.some.inj h
  subst c10
  exact pred_sign.at10 w
 rw [if_neg c10] at h
 cases h

end Go.Proofs.Ytmgljgmieomngaa.Q
