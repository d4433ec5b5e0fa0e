/- The deferred function of Parse: where nothing panics, and behind a fault. -/
import Derived.Test.YtmgljgmieomngaaPz9
import Derived.Test.YtmgljgmieomngaaPz10
import Derived.Recover
import Derived.Defers
namespace Go.Proofs.Ytmgljgmieomngaa.Pz
open Go Go.RowKit Go.Proofs.YtmgljgmieomngaaW.PrintWords Go.Proofs.YtmgljgmieomngaaW.PrintLast Go.Proofs.YtmgljgmieomngaaW.PrintMore Go.Proofs.Ytmgljgmieomngaa.Q
attribute [local go_sem] run_store_complex run_store_float isSome_setCell
set_option linter.unusedVariables false
set_option linter.unusedSimpArgs false
theorem walks : ∀ k, (∀ j, j ≤ k → UnitC j ∧ SumC j)
  | 0 => by
    intro j hj
    obtain rfl : j = 0 := by omega
    exact ⟨fun _ _ _ _ _ _ _ _ _ _ _ _ _ _ h => by simp [pr] at h, fun _ _ _ _ _ _ _ _ _ _ _ _ _ _ h => by simp [pr] at h⟩
  | k + 1 => by
    intro j hj
    have ih := walks k
    by_cases e : j ≤ k
    · exact ih j e
    · obtain rfl : j = k + 1 := by omega
      exact ⟨unit_step k (ih k (Nat.le_refl _)).1 (ih k (Nat.le_refl _)).2, sum_step k (fun j hj => (ih j hj).1)⟩
set_option maxHeartbeats 8000000 in
set_option maxRecDepth 100000 in
theorem idle (p q r : Addr) (w : World) :
    CallsD Try.prog 16 #[.pointer (some p), .pointer (some q), .pointer (some r)] .returning w fun e u' w' => e = .returned (.tuple #[]) ∧ u' = .returning ∧ w' = w := by
  have hnil : ∀ w : World, (binOp .eql 20 .nilIface .nilIface).run Try.prog w = .ok (.bool true) w := fun _ => by kernel_rfl
  refine callsD_of_wpS Try.func16 rfl fun c₀ cs hu => ?_
  apply wpS_seq
  apply wpS_region
  simp [wpOpsS, go_sem, recoverD, hu, Try.ntmps16, Exit.thenS]
  refine wpS_of_wp ?_
  go_wp2
  (try simp only [Exit.then, Exit.jump])
  cases c₀
  simp_all [bodyPostS, results, Try.results16, Exit.thenS]
/-- the faults' panic, and what it is once it is recovered -/
def fv (p e : Int) : Value := .iface 56 (.agg #[.int .i64 p, .int .i64 e])
set_option maxHeartbeats 8000000 in
set_option maxRecDepth 100000 in
theorem caught (a b c : Nat) (p e : Int) (v : Value) (x y : Int) (w : World) (ha : At w a #[v] 23) (hb : At w b #[.int .i64 x] 3) (hc : At w c #[.int .i64 y] 24) (hab : a ≠ b) (hac : a ≠ c) (hbc : b ≠ c) :
    CallsD Try.prog 16 #[.pointer (some ⟨a, 0, none⟩), .pointer (some ⟨b, 0, none⟩), .pointer (some ⟨c, 0, none⟩)] (.panicking [{ v := fv p e, recovered := false }]) w fun en u' w' => en = .returned (.tuple #[]) ∧
      u' = .panicking [{ v := fv p e, recovered := true }] ∧ At w' a #[.slice none 0 0] 23 ∧ At w' b #[.int .i64 p] 3 ∧ At w' c #[.int .i64 e] 24 ∧ (∀ B, B ≤ a → B ≤ b → B ≤ c → B ≤ w.heap.size → Below B w w') := by
  have hne : ∀ w : World, (binOp .eql 20 (.iface 56 (.agg #[.int .i64 p, .int .i64 e])) .nilIface).run Try.prog w = .ok (.bool false) w := fun _ => by kernel_rfl
  have hta : ∀ w : World, (Instr.typeAssert (.iface 56 (.agg #[.int .i64 p, .int .i64 e])) 20 56 true).run Try.prog w = .ok (.tuple #[.agg #[.int .i64 p, .int .i64 e], .bool true]) w := fun _ => by kernel_rfl
  have hu56 := Try.underlying56
  have lt1 := ha.lt
  have lt2 := hb.lt
  have lt3 := hc.lt
  have a0 : w.cell? ⟨a, 0, none⟩ = some v := (blk_cell ha 0).trans rfl
  have b0 : w.cell? ⟨b, 0, none⟩ = some (.int .i64 x) := (blk_cell hb 0).trans rfl
  have c0 : w.cell? ⟨c, 0, none⟩ = some (.int .i64 y) := (blk_cell hc 0).trans rfl
  have fa := blk_frozen ha 0
  have fb := blk_frozen hb 0
  have fc := blk_frozen hc 0
  refine callsD_of_wpS Try.func16 rfl fun c₀ cs hu => ?_
  apply wpS_seq
  apply wpS_region
  simp [wpOpsS, go_sem, recoverD, hu, Try.ntmps16, Exit.thenS, fv]
  have hba : b ≠ a := fun h => hab h.symm
  have hca : c ≠ a := fun h => hac h.symm
  have hcb : c ≠ b := fun h => hbc h.symm
  have na : a ≠ w.heap.size := by omega
  have na' : w.heap.size ≠ a := by omega
  have nb : b ≠ w.heap.size := by omega
  have nb' : w.heap.size ≠ b := by omega
  have nc : c ≠ w.heap.size := by omega
  have nc' : w.heap.size ≠ c := by omega
  have HA := Aside0.mk ha
  have HB := Aside0.mk hb
  have HC := Aside0.mk hc
  clear ha hb hc
  refine wpS_of_wp ?_
  go_wp2
  go_region
  all_goals (try go_wp2)
  all_goals (try simp only [Exit.then, Exit.jump])
  all_goals simp [bodyPostS, results, Try.results16]
  all_goals exact ⟨by (apply At.fin; (focus (with_reducible repeat (first | exact HA.out | exact HB.out | exact HC.out | apply At.drew | apply At.alloc | (refine At.set (cs := ?_) ?_ _ _; rotate_left) | apply At.other (hne := hab) | apply At.other (hne := hac) | apply At.other (hne := hbc) | apply At.other (hne := hba) | apply At.other (hne := hca) | apply At.other (hne := hcb)))); (focus rfl)), by (apply At.fin; (focus (with_reducible repeat (first | exact HA.out | exact HB.out | exact HC.out | apply At.drew | apply At.alloc | (refine At.set (cs := ?_) ?_ _ _; rotate_left) | apply At.other (hne := hab) | apply At.other (hne := hac) | apply At.other (hne := hbc) | apply At.other (hne := hba) | apply At.other (hne := hca) | apply At.other (hne := hcb)))); (focus rfl)), by (apply At.fin; (focus (with_reducible repeat (first | exact HA.out | exact HB.out | exact HC.out | apply At.drew | apply At.alloc | (refine At.set (cs := ?_) ?_ _ _; rotate_left) | apply At.other (hne := hab) | apply At.other (hne := hac) | apply At.other (hne := hbc) | apply At.other (hne := hba) | apply At.other (hne := hca) | apply At.other (hne := hcb)))); (focus rfl)), by intro B h1 h2 h3 h4; repeat (first | exact Below.refl _ _ | (with_reducible apply below_drew1) | (with_reducible refine bl_set ?_ h1) | (with_reducible refine bl_set ?_ h2) | (with_reducible refine bl_set ?_ h3) | (refine Below.alloc ?_ (by simp [World.setCell]; omega) _))⟩
end Go.Proofs.Ytmgljgmieomngaa.Pz
