/- live() of layer 5. -/
import Derived.Test.YtmgljgmieomngaaQx0
import Derived.Test.YtmgljgmieomngaaLab
import Derived.Test.YtmgljgmieomngaaFl
import Derived.LoopN
import Derived.Deep.RegionLaw
import Derived.Test.YtmgljgmieomngaaQx9
import Derived.Recover
import Derived.Defers
import Derived.Test.YtmgljgmieomngaaQx31
import Derived.Test.YtmgljgmieomngaaQx28
namespace Go.Proofs.Ytmgljgmieomngaa.Lv
open Go Go.RowKit Go.Proofs.YtmgljgmieomngaaW.PrintWords Go.Proofs.YtmgljgmieomngaaW.PrintLast Go.Proofs.YtmgljgmieomngaaW.PrintMore
set_option linter.unusedVariables false
set_option linter.unusedSimpArgs false
/-- the reader's cells -/
def RC (p kind : Int) (long : Bool) (wp : Int) (text : ByteArray) (n : Int) (v : Value) : Array Value := #[.string (⟨#[97, 60, 53, 32, 38, 32, 33, 63, 98]⟩ : ByteArray), .int .i64 p, .int .u8 kind, .bool long, .int .i64 wp, .string text, .int .i64 n, v]
/-- a block's cells -/
def At (W : World) (g : Nat) (cs : Array Value) (t : TypeId) : Prop := W.heap[g]? = some (.cells cs t (0, 0))
namespace At
variable {W : World} {g : Nat} {cs cs' : Array Value} {t : TypeId}
theorem fin (h : At W g cs t) (e : cs = cs') : At W g cs' t := e ▸ h
theorem drew (h : At W g cs t) : At W.drew g cs t := h
theorem drewN (h : At W g cs t) (n : Nat) : At (W.drewN n) g cs t := h
theorem lt (h : At W g cs t) : g < W.heap.size := blk_lt h
theorem alloc (h : At W g cs t) (o : Obj) : At (W.alloc o) g cs t := blk_alloc h o
theorem other (h : At W g cs t) {g' : Nat} (hne : g' ≠ g) (j : Nat) (u : Value) : At (W.setCell ⟨g', j, none⟩ u) g cs t := blk_far h (fun e => hne e.symm) u
theorem set (h : At W g cs t) (j : Nat) (u : Value) : At (W.setCell ⟨g, j, none⟩ u) g (cs.setIfInBounds j u) t := by
  unfold At at *
  simp only [World.setCell, Array.getElem?_modify, if_true, h, Option.map_some]
  rfl
theorem keep {W' : World} (h : At W g cs t) {g' : Nat} (k : KeepBut W W' g' none) (hne : g ≠ g') : At W' g cs t := KeepBut.blk k h hne (by simp)
end At
theorem bl_set {w W : World} {g j : Nat} {u : Value} (h : Below g w W) : Below g w (W.setCell ⟨g, j, none⟩ u) := h.setCell (Nat.le_refl _) u
theorem bl_alloc {w W : World} {g : Nat} (h : Below g w W) (hlt : g < w.heap.size) (o : Obj) : Below g w (W.alloc o) := h.alloc (Nat.le_trans (Nat.le_of_lt hlt) h.size) o
/-- what a call that turns the reader alone leaves -/
def Turns (w w' : World) (g : Nat) (cs : Array Value) : Prop := At w' g cs 61 ∧ KeepBut w w' g none ∧ Below g w w'
end Go.Proofs.Ytmgljgmieomngaa.Lv
namespace Go.Proofs.Ytmgljgmieomngaa.Lv
open Go Go.RowKit Go.Proofs.YtmgljgmieomngaaW.PrintWords Go.Proofs.YtmgljgmieomngaaW.PrintLast Go.Proofs.YtmgljgmieomngaaW.PrintMore
set_option linter.unusedVariables false
set_option linter.unusedSimpArgs false
set_option maxHeartbeats 8000000 in
set_option maxRecDepth 100000 in
/-- the word behind place 0 -/
theorem next0 (w : World) (g : Nat) (v : Value) (kd : Int) (lg : Bool) (wp : Int) (tx : ByteArray) (n : Int) (hb : At w g (RC 0 kd lg wp tx n v) 61) :
    Calls Try.prog 17 #[.pointer (some ⟨g, 0, none⟩)] w fun e w' => e = .returned (.tuple #[]) ∧ Turns w w' g (RC 1 110 false 0 (⟨#[97]⟩ : ByteArray) 0 v) := by
  have hu61 := Try.underlying61
  have hu59 := Try.underlying59
  have HA := Aside0.mk hb
  have hlt := At.lt hb
  have hne : g ≠ w.heap.size := by omega
  have hne' : w.heap.size ≠ g := by omega
  have q0 : w.cell? ⟨g, 0, none⟩ = some (.string (⟨#[97, 60, 53, 32, 38, 32, 33, 63, 98]⟩ : ByteArray)) := (blk_cell hb 0).trans rfl
  have q1 : w.cell? ⟨g, 1, none⟩ = some (.int .i64 0) := (blk_cell hb 1).trans rfl
  have q2 : w.cell? ⟨g, 2, none⟩ = some (.int .u8 kd) := (blk_cell hb 2).trans rfl
  have q3 : w.cell? ⟨g, 3, none⟩ = some (.bool lg) := (blk_cell hb 3).trans rfl
  have q4 : w.cell? ⟨g, 4, none⟩ = some (.int .i64 wp) := (blk_cell hb 4).trans rfl
  have q5 : w.cell? ⟨g, 5, none⟩ = some (.string tx) := (blk_cell hb 5).trans rfl
  have q6 : w.cell? ⟨g, 6, none⟩ = some (.int .i64 n) := (blk_cell hb 6).trans rfl
  have q7 : w.cell? ⟨g, 7, none⟩ = some (v) := (blk_cell hb 7).trans rfl
  have f1 := blk_frozen hb 1
  have f2 := blk_frozen hb 2
  have f3 := blk_frozen hb 3
  have f4 := blk_frozen hb 4
  have f5 := blk_frozen hb 5
  have f6 := blk_frozen hb 6
  have ix0 : ∀ h : 0 < (⟨#[97, 60, 53, 32, 38, 32, 33, 63, 98]⟩ : ByteArray).size, (((⟨#[97, 60, 53, 32, 38, 32, 33, 63, 98]⟩ : ByteArray)[0]'h).toNat : Int) = 97 := fun _ => rfl
  have ix1 : ∀ h : 1 < (⟨#[97, 60, 53, 32, 38, 32, 33, 63, 98]⟩ : ByteArray).size, (((⟨#[97, 60, 53, 32, 38, 32, 33, 63, 98]⟩ : ByteArray)[1]'h).toNat : Int) = 60 := fun _ => rfl
  have ix2 : ∀ h : 2 < (⟨#[97, 60, 53, 32, 38, 32, 33, 63, 98]⟩ : ByteArray).size, (((⟨#[97, 60, 53, 32, 38, 32, 33, 63, 98]⟩ : ByteArray)[2]'h).toNat : Int) = 53 := fun _ => rfl
  clear hb
  go_enter Try.func17, Try.ntmps17
  go_wp2
  refine Go.Proofs.YtmgljgmieomngaaW.wp_scope_lab 0 (by exact rfl) ?_
  intro G1 hG1
  have HG1 := Aside0.mk hG1
  clear hG1
  go_wp2
  go_step3
  go_step
  go_wp2
  repeat (go_region; go_wp2)
  refine Go.Proofs.YtmgljgmieomngaaW.wp_scope_lab 0 (by exact rfl) ?_
  intro G2 hG2
  have HG2 := Aside0.mk hG2
  clear hG2
  go_wp2
  go_step3
  go_step
  go_wp2
  repeat (go_region; go_wp2)
  go_step3
  refine And.intro (Eq.refl 0) (HG2.out _ _ ?_)
  go_wp2
  repeat (go_region; go_wp2)
  (try simp only [Exit.then, Exit.jump])
  go_end0
  go_wp2
  repeat (go_region; go_wp2)
  (try simp only [Exit.then, Exit.jump])
  go_end0
  refine ⟨rfl, ?_, ?_, ?_⟩
  · apply At.fin
    · (with_reducible repeat (first | exact HA.out | apply At.drew | apply At.drewN | apply At.alloc | apply At.set | apply At.other _ hne'))
    · rfl
  · (with_reducible repeat (first | exact KeepBut.refl _ _ _ | apply KeepBut.set_ | apply keep_drewN | apply keep_drew | apply keep_alloc))
  · (with_reducible repeat (first | exact Below.refl _ _ | apply pw_below_drewN | apply below_drew1 | refine bl_set ?_ | refine bl_alloc ?_ hlt _))
end Go.Proofs.Ytmgljgmieomngaa.Lv
namespace Go.Proofs.Ytmgljgmieomngaa.Lv
open Go Go.RowKit Go.Proofs.YtmgljgmieomngaaW.PrintWords Go.Proofs.YtmgljgmieomngaaW.PrintLast Go.Proofs.YtmgljgmieomngaaW.PrintMore
set_option linter.unusedVariables false
set_option linter.unusedSimpArgs false
set_option maxHeartbeats 8000000 in
set_option maxRecDepth 100000 in
/-- the word behind place 1 -/
theorem next1 (w : World) (g : Nat) (v : Value) (kd : Int) (lg : Bool) (wp : Int) (tx : ByteArray) (n : Int) (hb : At w g (RC 1 kd lg wp tx n v) 61) :
    Calls Try.prog 17 #[.pointer (some ⟨g, 0, none⟩)] w fun e w' => e = .returned (.tuple #[]) ∧ Turns w w' g (RC 2 60 false 1 (⟨#[]⟩ : ByteArray) 0 v) := by
  have hu61 := Try.underlying61
  have hu59 := Try.underlying59
  have HA := Aside0.mk hb
  have hlt := At.lt hb
  have hne : g ≠ w.heap.size := by omega
  have hne' : w.heap.size ≠ g := by omega
  have q0 : w.cell? ⟨g, 0, none⟩ = some (.string (⟨#[97, 60, 53, 32, 38, 32, 33, 63, 98]⟩ : ByteArray)) := (blk_cell hb 0).trans rfl
  have q1 : w.cell? ⟨g, 1, none⟩ = some (.int .i64 1) := (blk_cell hb 1).trans rfl
  have q2 : w.cell? ⟨g, 2, none⟩ = some (.int .u8 kd) := (blk_cell hb 2).trans rfl
  have q3 : w.cell? ⟨g, 3, none⟩ = some (.bool lg) := (blk_cell hb 3).trans rfl
  have q4 : w.cell? ⟨g, 4, none⟩ = some (.int .i64 wp) := (blk_cell hb 4).trans rfl
  have q5 : w.cell? ⟨g, 5, none⟩ = some (.string tx) := (blk_cell hb 5).trans rfl
  have q6 : w.cell? ⟨g, 6, none⟩ = some (.int .i64 n) := (blk_cell hb 6).trans rfl
  have q7 : w.cell? ⟨g, 7, none⟩ = some (v) := (blk_cell hb 7).trans rfl
  have f1 := blk_frozen hb 1
  have f2 := blk_frozen hb 2
  have f3 := blk_frozen hb 3
  have f4 := blk_frozen hb 4
  have f5 := blk_frozen hb 5
  have f6 := blk_frozen hb 6
  have ix1 : ∀ h : 1 < (⟨#[97, 60, 53, 32, 38, 32, 33, 63, 98]⟩ : ByteArray).size, (((⟨#[97, 60, 53, 32, 38, 32, 33, 63, 98]⟩ : ByteArray)[1]'h).toNat : Int) = 60 := fun _ => rfl
  have ix2 : ∀ h : 2 < (⟨#[97, 60, 53, 32, 38, 32, 33, 63, 98]⟩ : ByteArray).size, (((⟨#[97, 60, 53, 32, 38, 32, 33, 63, 98]⟩ : ByteArray)[2]'h).toNat : Int) = 53 := fun _ => rfl
  have ix3 : ∀ h : 3 < (⟨#[97, 60, 53, 32, 38, 32, 33, 63, 98]⟩ : ByteArray).size, (((⟨#[97, 60, 53, 32, 38, 32, 33, 63, 98]⟩ : ByteArray)[3]'h).toNat : Int) = 32 := fun _ => rfl
  clear hb
  go_enter Try.func17, Try.ntmps17
  go_wp2
  refine Go.Proofs.YtmgljgmieomngaaW.wp_scope_lab 0 (by exact rfl) ?_
  intro G1 hG1
  have HG1 := Aside0.mk hG1
  clear hG1
  go_wp2
  go_step3
  go_step
  go_wp2
  repeat (go_region; go_wp2)
  (try simp only [Exit.then, Exit.jump])
  go_end0
  go_wp2
  repeat (go_region; go_wp2)
  (try simp only [Exit.then, Exit.jump])
  go_end0
  refine ⟨rfl, ?_, ?_, ?_⟩
  · apply At.fin
    · (with_reducible repeat (first | exact HA.out | apply At.drew | apply At.drewN | apply At.alloc | apply At.set | apply At.other _ hne'))
    · rfl
  · (with_reducible repeat (first | exact KeepBut.refl _ _ _ | apply KeepBut.set_ | apply keep_drewN | apply keep_drew | apply keep_alloc))
  · (with_reducible repeat (first | exact Below.refl _ _ | apply pw_below_drewN | apply below_drew1 | refine bl_set ?_ | refine bl_alloc ?_ hlt _))
end Go.Proofs.Ytmgljgmieomngaa.Lv
namespace Go.Proofs.Ytmgljgmieomngaa.Lv
open Go Go.RowKit Go.Proofs.YtmgljgmieomngaaW.PrintWords Go.Proofs.YtmgljgmieomngaaW.PrintLast Go.Proofs.YtmgljgmieomngaaW.PrintMore
set_option linter.unusedVariables false
set_option linter.unusedSimpArgs false
set_option maxHeartbeats 8000000 in
set_option maxRecDepth 100000 in
/-- the word behind place 2 -/
theorem next2 (w : World) (g : Nat) (v : Value) (kd : Int) (lg : Bool) (wp : Int) (tx : ByteArray) (n : Int) (hb : At w g (RC 2 kd lg wp tx n v) 61) :
    Calls Try.prog 17 #[.pointer (some ⟨g, 0, none⟩)] w fun e w' => e = .returned (.tuple #[]) ∧ Turns w w' g (RC 3 100 false 2 (⟨#[]⟩ : ByteArray) 5 v) := by
  have hu61 := Try.underlying61
  have hu59 := Try.underlying59
  have HA := Aside0.mk hb
  have hlt := At.lt hb
  have hne : g ≠ w.heap.size := by omega
  have hne' : w.heap.size ≠ g := by omega
  have q0 : w.cell? ⟨g, 0, none⟩ = some (.string (⟨#[97, 60, 53, 32, 38, 32, 33, 63, 98]⟩ : ByteArray)) := (blk_cell hb 0).trans rfl
  have q1 : w.cell? ⟨g, 1, none⟩ = some (.int .i64 2) := (blk_cell hb 1).trans rfl
  have q2 : w.cell? ⟨g, 2, none⟩ = some (.int .u8 kd) := (blk_cell hb 2).trans rfl
  have q3 : w.cell? ⟨g, 3, none⟩ = some (.bool lg) := (blk_cell hb 3).trans rfl
  have q4 : w.cell? ⟨g, 4, none⟩ = some (.int .i64 wp) := (blk_cell hb 4).trans rfl
  have q5 : w.cell? ⟨g, 5, none⟩ = some (.string tx) := (blk_cell hb 5).trans rfl
  have q6 : w.cell? ⟨g, 6, none⟩ = some (.int .i64 n) := (blk_cell hb 6).trans rfl
  have q7 : w.cell? ⟨g, 7, none⟩ = some (v) := (blk_cell hb 7).trans rfl
  have f1 := blk_frozen hb 1
  have f2 := blk_frozen hb 2
  have f3 := blk_frozen hb 3
  have f4 := blk_frozen hb 4
  have f5 := blk_frozen hb 5
  have f6 := blk_frozen hb 6
  have ix2 : ∀ h : 2 < (⟨#[97, 60, 53, 32, 38, 32, 33, 63, 98]⟩ : ByteArray).size, (((⟨#[97, 60, 53, 32, 38, 32, 33, 63, 98]⟩ : ByteArray)[2]'h).toNat : Int) = 53 := fun _ => rfl
  have ix3 : ∀ h : 3 < (⟨#[97, 60, 53, 32, 38, 32, 33, 63, 98]⟩ : ByteArray).size, (((⟨#[97, 60, 53, 32, 38, 32, 33, 63, 98]⟩ : ByteArray)[3]'h).toNat : Int) = 32 := fun _ => rfl
  have ix4 : ∀ h : 4 < (⟨#[97, 60, 53, 32, 38, 32, 33, 63, 98]⟩ : ByteArray).size, (((⟨#[97, 60, 53, 32, 38, 32, 33, 63, 98]⟩ : ByteArray)[4]'h).toNat : Int) = 38 := fun _ => rfl
  clear hb
  go_enter Try.func17, Try.ntmps17
  go_wp2
  refine Go.Proofs.YtmgljgmieomngaaW.wp_scope_lab 0 (by exact rfl) ?_
  intro G1 hG1
  have HG1 := Aside0.mk hG1
  clear hG1
  go_wp2
  go_step3
  go_step
  go_wp2
  repeat (go_region; go_wp2)
  refine wp_loop_rounds 2 ?_
  rw [rounds_succ]
  go_wp2
  repeat (go_region; go_wp2)
  show Code.rounds _ _ _ _ _ _
  rw [rounds_succ]
  go_wp2
  repeat (go_region; go_wp2)
  (try simp only [Exit.then, Exit.jump])
  go_end0
  go_wp2
  repeat (go_region; go_wp2)
  (try simp only [Exit.then, Exit.jump])
  go_end0
  refine ⟨rfl, ?_, ?_, ?_⟩
  · apply At.fin
    · (with_reducible repeat (first | exact HA.out | apply At.drew | apply At.drewN | apply At.alloc | apply At.set | apply At.other _ hne'))
    · rfl
  · (with_reducible repeat (first | exact KeepBut.refl _ _ _ | apply KeepBut.set_ | apply keep_drewN | apply keep_drew | apply keep_alloc))
  · (with_reducible repeat (first | exact Below.refl _ _ | apply pw_below_drewN | apply below_drew1 | refine bl_set ?_ | refine bl_alloc ?_ hlt _))
end Go.Proofs.Ytmgljgmieomngaa.Lv
namespace Go.Proofs.Ytmgljgmieomngaa.Lv
open Go Go.RowKit Go.Proofs.YtmgljgmieomngaaW.PrintWords Go.Proofs.YtmgljgmieomngaaW.PrintLast Go.Proofs.YtmgljgmieomngaaW.PrintMore
set_option linter.unusedVariables false
set_option linter.unusedSimpArgs false
set_option maxHeartbeats 8000000 in
set_option maxRecDepth 100000 in
/-- the word behind place 3 -/
theorem next3 (w : World) (g : Nat) (v : Value) (kd : Int) (lg : Bool) (wp : Int) (tx : ByteArray) (n : Int) (hb : At w g (RC 3 kd lg wp tx n v) 61) :
    Calls Try.prog 17 #[.pointer (some ⟨g, 0, none⟩)] w fun e w' => e = .returned (.tuple #[]) ∧ Turns w w' g (RC 5 38 false 4 (⟨#[]⟩ : ByteArray) 0 v) := by
  have hu61 := Try.underlying61
  have hu59 := Try.underlying59
  have HA := Aside0.mk hb
  have hlt := At.lt hb
  have hne : g ≠ w.heap.size := by omega
  have hne' : w.heap.size ≠ g := by omega
  have q0 : w.cell? ⟨g, 0, none⟩ = some (.string (⟨#[97, 60, 53, 32, 38, 32, 33, 63, 98]⟩ : ByteArray)) := (blk_cell hb 0).trans rfl
  have q1 : w.cell? ⟨g, 1, none⟩ = some (.int .i64 3) := (blk_cell hb 1).trans rfl
  have q2 : w.cell? ⟨g, 2, none⟩ = some (.int .u8 kd) := (blk_cell hb 2).trans rfl
  have q3 : w.cell? ⟨g, 3, none⟩ = some (.bool lg) := (blk_cell hb 3).trans rfl
  have q4 : w.cell? ⟨g, 4, none⟩ = some (.int .i64 wp) := (blk_cell hb 4).trans rfl
  have q5 : w.cell? ⟨g, 5, none⟩ = some (.string tx) := (blk_cell hb 5).trans rfl
  have q6 : w.cell? ⟨g, 6, none⟩ = some (.int .i64 n) := (blk_cell hb 6).trans rfl
  have q7 : w.cell? ⟨g, 7, none⟩ = some (v) := (blk_cell hb 7).trans rfl
  have f1 := blk_frozen hb 1
  have f2 := blk_frozen hb 2
  have f3 := blk_frozen hb 3
  have f4 := blk_frozen hb 4
  have f5 := blk_frozen hb 5
  have f6 := blk_frozen hb 6
  have ix3 : ∀ h : 3 < (⟨#[97, 60, 53, 32, 38, 32, 33, 63, 98]⟩ : ByteArray).size, (((⟨#[97, 60, 53, 32, 38, 32, 33, 63, 98]⟩ : ByteArray)[3]'h).toNat : Int) = 32 := fun _ => rfl
  have ix4 : ∀ h : 4 < (⟨#[97, 60, 53, 32, 38, 32, 33, 63, 98]⟩ : ByteArray).size, (((⟨#[97, 60, 53, 32, 38, 32, 33, 63, 98]⟩ : ByteArray)[4]'h).toNat : Int) = 38 := fun _ => rfl
  have ix5 : ∀ h : 5 < (⟨#[97, 60, 53, 32, 38, 32, 33, 63, 98]⟩ : ByteArray).size, (((⟨#[97, 60, 53, 32, 38, 32, 33, 63, 98]⟩ : ByteArray)[5]'h).toNat : Int) = 32 := fun _ => rfl
  clear hb
  go_enter Try.func17, Try.ntmps17
  go_wp2
  refine Go.Proofs.YtmgljgmieomngaaW.wp_scope_lab 0 (by exact rfl) ?_
  intro G1 hG1
  have HG1 := Aside0.mk hG1
  clear hG1
  go_wp2
  go_step3
  go_step
  go_wp2
  repeat (go_region; go_wp2)
  go_step3
  refine And.intro (Eq.refl 0) (HG1.out _ _ ?_)
  go_wp2
  repeat (go_region; go_wp2)
  (try simp only [Exit.then, Exit.jump])
  go_end0
  go_wp2
  repeat (go_region; go_wp2)
  (try simp only [Exit.then, Exit.jump])
  go_end0
  refine ⟨rfl, ?_, ?_, ?_⟩
  · apply At.fin
    · (with_reducible repeat (first | exact HA.out | apply At.drew | apply At.drewN | apply At.alloc | apply At.set | apply At.other _ hne'))
    · rfl
  · (with_reducible repeat (first | exact KeepBut.refl _ _ _ | apply KeepBut.set_ | apply keep_drewN | apply keep_drew | apply keep_alloc))
  · (with_reducible repeat (first | exact Below.refl _ _ | apply pw_below_drewN | apply below_drew1 | refine bl_set ?_ | refine bl_alloc ?_ hlt _))
end Go.Proofs.Ytmgljgmieomngaa.Lv
namespace Go.Proofs.Ytmgljgmieomngaa.Lv
open Go Go.RowKit Go.Proofs.YtmgljgmieomngaaW.PrintWords Go.Proofs.YtmgljgmieomngaaW.PrintLast Go.Proofs.YtmgljgmieomngaaW.PrintMore
set_option linter.unusedVariables false
set_option linter.unusedSimpArgs false
set_option maxHeartbeats 8000000 in
set_option maxRecDepth 100000 in
/-- the word behind place 5 -/
theorem next4 (w : World) (g : Nat) (v : Value) (kd : Int) (lg : Bool) (wp : Int) (tx : ByteArray) (n : Int) (hb : At w g (RC 5 kd lg wp tx n v) 61) :
    Calls Try.prog 17 #[.pointer (some ⟨g, 0, none⟩)] w fun e w' => e = .returned (.tuple #[]) ∧ Turns w w' g (RC 7 33 false 6 (⟨#[]⟩ : ByteArray) 0 v) := by
  have hu61 := Try.underlying61
  have hu59 := Try.underlying59
  have HA := Aside0.mk hb
  have hlt := At.lt hb
  have hne : g ≠ w.heap.size := by omega
  have hne' : w.heap.size ≠ g := by omega
  have q0 : w.cell? ⟨g, 0, none⟩ = some (.string (⟨#[97, 60, 53, 32, 38, 32, 33, 63, 98]⟩ : ByteArray)) := (blk_cell hb 0).trans rfl
  have q1 : w.cell? ⟨g, 1, none⟩ = some (.int .i64 5) := (blk_cell hb 1).trans rfl
  have q2 : w.cell? ⟨g, 2, none⟩ = some (.int .u8 kd) := (blk_cell hb 2).trans rfl
  have q3 : w.cell? ⟨g, 3, none⟩ = some (.bool lg) := (blk_cell hb 3).trans rfl
  have q4 : w.cell? ⟨g, 4, none⟩ = some (.int .i64 wp) := (blk_cell hb 4).trans rfl
  have q5 : w.cell? ⟨g, 5, none⟩ = some (.string tx) := (blk_cell hb 5).trans rfl
  have q6 : w.cell? ⟨g, 6, none⟩ = some (.int .i64 n) := (blk_cell hb 6).trans rfl
  have q7 : w.cell? ⟨g, 7, none⟩ = some (v) := (blk_cell hb 7).trans rfl
  have f1 := blk_frozen hb 1
  have f2 := blk_frozen hb 2
  have f3 := blk_frozen hb 3
  have f4 := blk_frozen hb 4
  have f5 := blk_frozen hb 5
  have f6 := blk_frozen hb 6
  have ix5 : ∀ h : 5 < (⟨#[97, 60, 53, 32, 38, 32, 33, 63, 98]⟩ : ByteArray).size, (((⟨#[97, 60, 53, 32, 38, 32, 33, 63, 98]⟩ : ByteArray)[5]'h).toNat : Int) = 32 := fun _ => rfl
  have ix6 : ∀ h : 6 < (⟨#[97, 60, 53, 32, 38, 32, 33, 63, 98]⟩ : ByteArray).size, (((⟨#[97, 60, 53, 32, 38, 32, 33, 63, 98]⟩ : ByteArray)[6]'h).toNat : Int) = 33 := fun _ => rfl
  have ix7 : ∀ h : 7 < (⟨#[97, 60, 53, 32, 38, 32, 33, 63, 98]⟩ : ByteArray).size, (((⟨#[97, 60, 53, 32, 38, 32, 33, 63, 98]⟩ : ByteArray)[7]'h).toNat : Int) = 63 := fun _ => rfl
  clear hb
  go_enter Try.func17, Try.ntmps17
  go_wp2
  refine Go.Proofs.YtmgljgmieomngaaW.wp_scope_lab 0 (by exact rfl) ?_
  intro G1 hG1
  have HG1 := Aside0.mk hG1
  clear hG1
  go_wp2
  go_step3
  go_step
  go_wp2
  repeat (go_region; go_wp2)
  go_step3
  refine And.intro (Eq.refl 0) (HG1.out _ _ ?_)
  go_wp2
  repeat (go_region; go_wp2)
  (try simp only [Exit.then, Exit.jump])
  go_end0
  go_wp2
  repeat (go_region; go_wp2)
  (try simp only [Exit.then, Exit.jump])
  go_end0
  refine ⟨rfl, ?_, ?_, ?_⟩
  · apply At.fin
    · (with_reducible repeat (first | exact HA.out | apply At.drew | apply At.drewN | apply At.alloc | apply At.set | apply At.other _ hne'))
    · rfl
  · (with_reducible repeat (first | exact KeepBut.refl _ _ _ | apply KeepBut.set_ | apply keep_drewN | apply keep_drew | apply keep_alloc))
  · (with_reducible repeat (first | exact Below.refl _ _ | apply pw_below_drewN | apply below_drew1 | refine bl_set ?_ | refine bl_alloc ?_ hlt _))
end Go.Proofs.Ytmgljgmieomngaa.Lv
namespace Go.Proofs.Ytmgljgmieomngaa.Lv
open Go Go.RowKit Go.Proofs.YtmgljgmieomngaaW.PrintWords Go.Proofs.YtmgljgmieomngaaW.PrintLast Go.Proofs.YtmgljgmieomngaaW.PrintMore
set_option linter.unusedVariables false
set_option linter.unusedSimpArgs false
set_option maxHeartbeats 8000000 in
set_option maxRecDepth 100000 in
/-- the word behind place 7 -/
theorem next5 (w : World) (g : Nat) (v : Value) (kd : Int) (lg : Bool) (wp : Int) (tx : ByteArray) (n : Int) (hb : At w g (RC 7 kd lg wp tx n v) 61) :
    Calls Try.prog 17 #[.pointer (some ⟨g, 0, none⟩)] w fun e w' => e = .returned (.tuple #[]) ∧ Turns w w' g (RC 8 63 false 7 (⟨#[]⟩ : ByteArray) 0 v) := by
  have hu61 := Try.underlying61
  have hu59 := Try.underlying59
  have HA := Aside0.mk hb
  have hlt := At.lt hb
  have hne : g ≠ w.heap.size := by omega
  have hne' : w.heap.size ≠ g := by omega
  have q0 : w.cell? ⟨g, 0, none⟩ = some (.string (⟨#[97, 60, 53, 32, 38, 32, 33, 63, 98]⟩ : ByteArray)) := (blk_cell hb 0).trans rfl
  have q1 : w.cell? ⟨g, 1, none⟩ = some (.int .i64 7) := (blk_cell hb 1).trans rfl
  have q2 : w.cell? ⟨g, 2, none⟩ = some (.int .u8 kd) := (blk_cell hb 2).trans rfl
  have q3 : w.cell? ⟨g, 3, none⟩ = some (.bool lg) := (blk_cell hb 3).trans rfl
  have q4 : w.cell? ⟨g, 4, none⟩ = some (.int .i64 wp) := (blk_cell hb 4).trans rfl
  have q5 : w.cell? ⟨g, 5, none⟩ = some (.string tx) := (blk_cell hb 5).trans rfl
  have q6 : w.cell? ⟨g, 6, none⟩ = some (.int .i64 n) := (blk_cell hb 6).trans rfl
  have q7 : w.cell? ⟨g, 7, none⟩ = some (v) := (blk_cell hb 7).trans rfl
  have f1 := blk_frozen hb 1
  have f2 := blk_frozen hb 2
  have f3 := blk_frozen hb 3
  have f4 := blk_frozen hb 4
  have f5 := blk_frozen hb 5
  have f6 := blk_frozen hb 6
  have ix7 : ∀ h : 7 < (⟨#[97, 60, 53, 32, 38, 32, 33, 63, 98]⟩ : ByteArray).size, (((⟨#[97, 60, 53, 32, 38, 32, 33, 63, 98]⟩ : ByteArray)[7]'h).toNat : Int) = 63 := fun _ => rfl
  have ix8 : ∀ h : 8 < (⟨#[97, 60, 53, 32, 38, 32, 33, 63, 98]⟩ : ByteArray).size, (((⟨#[97, 60, 53, 32, 38, 32, 33, 63, 98]⟩ : ByteArray)[8]'h).toNat : Int) = 98 := fun _ => rfl
  clear hb
  go_enter Try.func17, Try.ntmps17
  go_wp2
  refine Go.Proofs.YtmgljgmieomngaaW.wp_scope_lab 0 (by exact rfl) ?_
  intro G1 hG1
  have HG1 := Aside0.mk hG1
  clear hG1
  go_wp2
  go_step3
  go_step
  go_wp2
  repeat (go_region; go_wp2)
  (try simp only [Exit.then, Exit.jump])
  go_end0
  go_wp2
  repeat (go_region; go_wp2)
  (try simp only [Exit.then, Exit.jump])
  go_end0
  refine ⟨rfl, ?_, ?_, ?_⟩
  · apply At.fin
    · (with_reducible repeat (first | exact HA.out | apply At.drew | apply At.drewN | apply At.alloc | apply At.set | apply At.other _ hne'))
    · rfl
  · (with_reducible repeat (first | exact KeepBut.refl _ _ _ | apply KeepBut.set_ | apply keep_drewN | apply keep_drew | apply keep_alloc))
  · (with_reducible repeat (first | exact Below.refl _ _ | apply pw_below_drewN | apply below_drew1 | refine bl_set ?_ | refine bl_alloc ?_ hlt _))
end Go.Proofs.Ytmgljgmieomngaa.Lv
namespace Go.Proofs.Ytmgljgmieomngaa.Lv
open Go Go.RowKit Go.Proofs.YtmgljgmieomngaaW.PrintWords Go.Proofs.YtmgljgmieomngaaW.PrintLast Go.Proofs.YtmgljgmieomngaaW.PrintMore
set_option linter.unusedVariables false
set_option linter.unusedSimpArgs false
set_option maxHeartbeats 8000000 in
set_option maxRecDepth 100000 in
/-- the word behind place 8 -/
theorem next6 (w : World) (g : Nat) (v : Value) (kd : Int) (lg : Bool) (wp : Int) (tx : ByteArray) (n : Int) (hb : At w g (RC 8 kd lg wp tx n v) 61) :
    Calls Try.prog 17 #[.pointer (some ⟨g, 0, none⟩)] w fun e w' => e = .returned (.tuple #[]) ∧ Turns w w' g (RC 9 110 false 8 (⟨#[98]⟩ : ByteArray) 0 v) := by
  have hu61 := Try.underlying61
  have hu59 := Try.underlying59
  have HA := Aside0.mk hb
  have hlt := At.lt hb
  have hne : g ≠ w.heap.size := by omega
  have hne' : w.heap.size ≠ g := by omega
  have q0 : w.cell? ⟨g, 0, none⟩ = some (.string (⟨#[97, 60, 53, 32, 38, 32, 33, 63, 98]⟩ : ByteArray)) := (blk_cell hb 0).trans rfl
  have q1 : w.cell? ⟨g, 1, none⟩ = some (.int .i64 8) := (blk_cell hb 1).trans rfl
  have q2 : w.cell? ⟨g, 2, none⟩ = some (.int .u8 kd) := (blk_cell hb 2).trans rfl
  have q3 : w.cell? ⟨g, 3, none⟩ = some (.bool lg) := (blk_cell hb 3).trans rfl
  have q4 : w.cell? ⟨g, 4, none⟩ = some (.int .i64 wp) := (blk_cell hb 4).trans rfl
  have q5 : w.cell? ⟨g, 5, none⟩ = some (.string tx) := (blk_cell hb 5).trans rfl
  have q6 : w.cell? ⟨g, 6, none⟩ = some (.int .i64 n) := (blk_cell hb 6).trans rfl
  have q7 : w.cell? ⟨g, 7, none⟩ = some (v) := (blk_cell hb 7).trans rfl
  have f1 := blk_frozen hb 1
  have f2 := blk_frozen hb 2
  have f3 := blk_frozen hb 3
  have f4 := blk_frozen hb 4
  have f5 := blk_frozen hb 5
  have f6 := blk_frozen hb 6
  have ix8 : ∀ h : 8 < (⟨#[97, 60, 53, 32, 38, 32, 33, 63, 98]⟩ : ByteArray).size, (((⟨#[97, 60, 53, 32, 38, 32, 33, 63, 98]⟩ : ByteArray)[8]'h).toNat : Int) = 98 := fun _ => rfl
  clear hb
  go_enter Try.func17, Try.ntmps17
  go_wp2
  refine Go.Proofs.YtmgljgmieomngaaW.wp_scope_lab 0 (by exact rfl) ?_
  intro G1 hG1
  have HG1 := Aside0.mk hG1
  clear hG1
  go_wp2
  go_step3
  go_step
  go_wp2
  repeat (go_region; go_wp2)
  refine Go.Proofs.YtmgljgmieomngaaW.wp_scope_lab 0 (by exact rfl) ?_
  intro G2 hG2
  have HG2 := Aside0.mk hG2
  clear hG2
  go_wp2
  go_step3
  go_step
  go_wp2
  repeat (go_region; go_wp2)
  go_step3
  refine And.intro (Eq.refl 0) (HG2.out _ _ ?_)
  go_wp2
  repeat (go_region; go_wp2)
  (try simp only [Exit.then, Exit.jump])
  go_end0
  go_wp2
  repeat (go_region; go_wp2)
  (try simp only [Exit.then, Exit.jump])
  go_end0
  refine ⟨rfl, ?_, ?_, ?_⟩
  · apply At.fin
    · (with_reducible repeat (first | exact HA.out | apply At.drew | apply At.drewN | apply At.alloc | apply At.set | apply At.other _ hne'))
    · rfl
  · (with_reducible repeat (first | exact KeepBut.refl _ _ _ | apply KeepBut.set_ | apply keep_drewN | apply keep_drew | apply keep_alloc))
  · (with_reducible repeat (first | exact Below.refl _ _ | apply pw_below_drewN | apply below_drew1 | refine bl_set ?_ | refine bl_alloc ?_ hlt _))
end Go.Proofs.Ytmgljgmieomngaa.Lv
namespace Go.Proofs.Ytmgljgmieomngaa.Lv
open Go Go.RowKit Go.Proofs.YtmgljgmieomngaaW.PrintWords Go.Proofs.YtmgljgmieomngaaW.PrintLast Go.Proofs.YtmgljgmieomngaaW.PrintMore
set_option linter.unusedVariables false
set_option linter.unusedSimpArgs false
set_option maxHeartbeats 8000000 in
set_option maxRecDepth 100000 in
/-- the word behind place 9 -/
theorem next7 (w : World) (g : Nat) (v : Value) (kd : Int) (lg : Bool) (wp : Int) (tx : ByteArray) (n : Int) (hb : At w g (RC 9 kd lg wp tx n v) 61) :
    Calls Try.prog 17 #[.pointer (some ⟨g, 0, none⟩)] w fun e w' => e = .returned (.tuple #[]) ∧ Turns w w' g (RC 9 101 false 9 (⟨#[]⟩ : ByteArray) 0 v) := by
  have hu61 := Try.underlying61
  have hu59 := Try.underlying59
  have HA := Aside0.mk hb
  have hlt := At.lt hb
  have hne : g ≠ w.heap.size := by omega
  have hne' : w.heap.size ≠ g := by omega
  have q0 : w.cell? ⟨g, 0, none⟩ = some (.string (⟨#[97, 60, 53, 32, 38, 32, 33, 63, 98]⟩ : ByteArray)) := (blk_cell hb 0).trans rfl
  have q1 : w.cell? ⟨g, 1, none⟩ = some (.int .i64 9) := (blk_cell hb 1).trans rfl
  have q2 : w.cell? ⟨g, 2, none⟩ = some (.int .u8 kd) := (blk_cell hb 2).trans rfl
  have q3 : w.cell? ⟨g, 3, none⟩ = some (.bool lg) := (blk_cell hb 3).trans rfl
  have q4 : w.cell? ⟨g, 4, none⟩ = some (.int .i64 wp) := (blk_cell hb 4).trans rfl
  have q5 : w.cell? ⟨g, 5, none⟩ = some (.string tx) := (blk_cell hb 5).trans rfl
  have q6 : w.cell? ⟨g, 6, none⟩ = some (.int .i64 n) := (blk_cell hb 6).trans rfl
  have q7 : w.cell? ⟨g, 7, none⟩ = some (v) := (blk_cell hb 7).trans rfl
  have f1 := blk_frozen hb 1
  have f2 := blk_frozen hb 2
  have f3 := blk_frozen hb 3
  have f4 := blk_frozen hb 4
  have f5 := blk_frozen hb 5
  have f6 := blk_frozen hb 6
  clear hb
  go_enter Try.func17, Try.ntmps17
  go_wp2
  refine Go.Proofs.YtmgljgmieomngaaW.wp_scope_lab 0 (by exact rfl) ?_
  intro G1 hG1
  have HG1 := Aside0.mk hG1
  clear hG1
  go_wp2
  go_step3
  go_step
  go_wp2
  repeat (go_region; go_wp2)
  (try simp only [Exit.then, Exit.jump])
  go_end0
  refine ⟨rfl, ?_, ?_, ?_⟩
  · apply At.fin
    · (with_reducible repeat (first | exact HA.out | apply At.drew | apply At.drewN | apply At.alloc | apply At.set | apply At.other _ hne'))
    · rfl
  · (with_reducible repeat (first | exact KeepBut.refl _ _ _ | apply KeepBut.set_ | apply keep_drewN | apply keep_drew | apply keep_alloc))
  · (with_reducible repeat (first | exact Below.refl _ _ | apply pw_below_drewN | apply below_drew1 | refine bl_set ?_ | refine bl_alloc ?_ hlt _))
end Go.Proofs.Ytmgljgmieomngaa.Lv
namespace Go.Proofs.Ytmgljgmieomngaa.Lv
open Go Go.RowKit Go.Proofs.YtmgljgmieomngaaW.PrintWords Go.Proofs.YtmgljgmieomngaaW.PrintLast Go.Proofs.YtmgljgmieomngaaW.PrintMore
set_option linter.unusedVariables false
set_option linter.unusedSimpArgs false
set_option maxHeartbeats 8000000 in
set_option maxRecDepth 100000 in
/-- the word behind place 9 -/
theorem next8 (w : World) (g : Nat) (v : Value) (kd : Int) (lg : Bool) (wp : Int) (tx : ByteArray) (n : Int) (hb : At w g (RC 9 kd lg wp tx n v) 61) :
    Calls Try.prog 17 #[.pointer (some ⟨g, 0, none⟩)] w fun e w' => e = .returned (.tuple #[]) ∧ Turns w w' g (RC 9 101 false 9 (⟨#[]⟩ : ByteArray) 0 v) := by
  have hu61 := Try.underlying61
  have hu59 := Try.underlying59
  have HA := Aside0.mk hb
  have hlt := At.lt hb
  have hne : g ≠ w.heap.size := by omega
  have hne' : w.heap.size ≠ g := by omega
  have q0 : w.cell? ⟨g, 0, none⟩ = some (.string (⟨#[97, 60, 53, 32, 38, 32, 33, 63, 98]⟩ : ByteArray)) := (blk_cell hb 0).trans rfl
  have q1 : w.cell? ⟨g, 1, none⟩ = some (.int .i64 9) := (blk_cell hb 1).trans rfl
  have q2 : w.cell? ⟨g, 2, none⟩ = some (.int .u8 kd) := (blk_cell hb 2).trans rfl
  have q3 : w.cell? ⟨g, 3, none⟩ = some (.bool lg) := (blk_cell hb 3).trans rfl
  have q4 : w.cell? ⟨g, 4, none⟩ = some (.int .i64 wp) := (blk_cell hb 4).trans rfl
  have q5 : w.cell? ⟨g, 5, none⟩ = some (.string tx) := (blk_cell hb 5).trans rfl
  have q6 : w.cell? ⟨g, 6, none⟩ = some (.int .i64 n) := (blk_cell hb 6).trans rfl
  have q7 : w.cell? ⟨g, 7, none⟩ = some (v) := (blk_cell hb 7).trans rfl
  have f1 := blk_frozen hb 1
  have f2 := blk_frozen hb 2
  have f3 := blk_frozen hb 3
  have f4 := blk_frozen hb 4
  have f5 := blk_frozen hb 5
  have f6 := blk_frozen hb 6
  clear hb
  go_enter Try.func17, Try.ntmps17
  go_wp2
  refine Go.Proofs.YtmgljgmieomngaaW.wp_scope_lab 0 (by exact rfl) ?_
  intro G1 hG1
  have HG1 := Aside0.mk hG1
  clear hG1
  go_wp2
  go_step3
  go_step
  go_wp2
  repeat (go_region; go_wp2)
  (try simp only [Exit.then, Exit.jump])
  go_end0
  refine ⟨rfl, ?_, ?_, ?_⟩
  · apply At.fin
    · (with_reducible repeat (first | exact HA.out | apply At.drew | apply At.drewN | apply At.alloc | apply At.set | apply At.other _ hne'))
    · rfl
  · (with_reducible repeat (first | exact KeepBut.refl _ _ _ | apply KeepBut.set_ | apply keep_drewN | apply keep_drew | apply keep_alloc))
  · (with_reducible repeat (first | exact Below.refl _ _ | apply pw_below_drewN | apply below_drew1 | refine bl_set ?_ | refine bl_alloc ?_ hlt _))
end Go.Proofs.Ytmgljgmieomngaa.Lv
namespace Go.Proofs.Ytmgljgmieomngaa.Lv
open Go Go.RowKit Go.Proofs.YtmgljgmieomngaaW.PrintWords Go.Proofs.YtmgljgmieomngaaW.PrintLast Go.Proofs.YtmgljgmieomngaaW.PrintMore
attribute [local go_sem] run_store_complex run_store_float isSome_setCell
set_option linter.unusedVariables false
set_option linter.unusedSimpArgs false
theorem At.new (W : World) (cs : Array Value) (t : TypeId) : At (W.alloc (.cells cs t (0, 0))) W.heap.size cs t := blk_new W _
theorem At.new2 (W : World) (o : Obj) (cs : Array Value) (t : TypeId) : At ((W.alloc o).alloc (.cells cs t (0, 0))) (W.heap.size + 1) cs t := by
  have h := At.new (W.alloc o) cs t
  rwa [World.size_alloc] at h
theorem size_alloc1 (W : World) (o : Obj) : (W.alloc o).heap.size = W.heap.size + 1 := World.size_alloc W o
/-- what a call leaves, seen from a world with fewer blocks -/
theorem Turns.older {w W w' : World} {g : Nat} {cs : Array Value} (hk : KeepBut w W g none) (hb : Below g w W) (hlt : g < w.heap.size) (h : Turns W w' g cs) : Turns w w' g cs :=
  ⟨h.1, hk.trans h.2.1 (.inl rfl), hb.trans h.2.2⟩
theorem Turns.then {w W w' : World} {g : Nat} {cs cs' : Array Value} (h : Turns w W g cs) (hlt : g < w.heap.size) (k : Turns W w' g cs') : Turns w w' g cs' := k.older h.2.1 h.2.2 hlt
theorem Turns.far {w w' : World} {g : Nat} {cs : Array Value} (h : Turns w w' g cs) (hlt : g < w.heap.size) {g' : Nat} (hg : w.heap.size ≤ g') (j : Nat) (u : Value) : Turns w (w'.setCell ⟨g', j, none⟩ u) g cs :=
  ⟨h.1.other (by omega) j u, keep_far h.2.1 hg u, h.2.2.setCell (by show g ≤ g'; omega) u⟩
theorem Turns.alloc {w w' : World} {g : Nat} {cs : Array Value} (h : Turns w w' g cs) (hlt : g < w.heap.size) (o : Obj) : Turns w (w'.alloc o) g cs := ⟨h.1.alloc o, keep_alloc h.2.1 o, bl_alloc h.2.2 hlt o⟩
set_option maxHeartbeats 8000000 in
set_option maxRecDepth 100000 in
/-- it is not that sign -/
theorem is_no (w : World) (g : Nat) (p kd : Int) (lg : Bool) (wp : Int) (tx : ByteArray) (n : Int) (v : Value) (c : Int) (hc : (kd == c) = false) (hb : At w g (RC p kd lg wp tx n v) 61) :
    Calls Try.prog 39 #[.pointer (some ⟨g, 0, none⟩), .int .u8 c] w fun e w' => e = .returned (.bool false) ∧ w' = w := by
  have hu61 := Try.underlying61
  have hu59 := Try.underlying59
  have hc2 : (kd != c) = true := by simpa [bne] using hc
  have q2 : w.cell? ⟨g, 2, none⟩ = some (.int .u8 kd) := (blk_cell hb 2).trans rfl
  have q3 : w.cell? ⟨g, 3, none⟩ = some (.bool lg) := (blk_cell hb 3).trans rfl
  clear hb
  go_enter Try.func39, Try.ntmps39
  go_wp2
  go_ret
  exact ⟨rfl, rfl⟩
set_option maxHeartbeats 8000000 in
set_option maxRecDepth 100000 in
/-- it is that sign -/
theorem is_yes (w : World) (g : Nat) (p kd : Int) (wp : Int) (tx : ByteArray) (n : Int) (v : Value) (cs : Array Value) (hb : At w g (RC p kd false wp tx n v) 61)
    (hn : Calls Try.prog 17 #[.pointer (some ⟨g, 0, none⟩)] w fun e w' => e = .returned (.tuple #[]) ∧ Turns w w' g cs) :
    Calls Try.prog 39 #[.pointer (some ⟨g, 0, none⟩), .int .u8 kd] w fun e w' => e = .returned (.bool true) ∧ Turns w w' g cs := by
  have hu61 := Try.underlying61
  have hu59 := Try.underlying59
  have q2 : w.cell? ⟨g, 2, none⟩ = some (.int .u8 kd) := (blk_cell hb 2).trans rfl
  have q3 : w.cell? ⟨g, 3, none⟩ = some (.bool false) := (blk_cell hb 3).trans rfl
  clear hb
  go_enter Try.func39, Try.ntmps39
  go_wp2_with (first | (go_at_call 17; refine hn.mono ?_; rintro e w2 ⟨rfl, ht⟩))
  go_ret
  exact ⟨rfl, ht⟩
set_option maxHeartbeats 8000000 in
set_option maxRecDepth 100000 in
/-- a word that is wanted -/
theorem want_yes (w : World) (g : Nat) (p kd : Int) (wp : Int) (tx : ByteArray) (n : Int) (v : Value) (cs : Array Value) (hb : At w g (RC p kd false wp tx n v) 61)
    (hn : ∀ W, At W g (RC p kd false wp tx n v) 61 → Calls Try.prog 17 #[.pointer (some ⟨g, 0, none⟩)] W fun e w' => e = .returned (.tuple #[]) ∧ Turns W w' g cs) :
    Calls Try.prog 19 #[.pointer (some ⟨g, 0, none⟩), .int .u8 kd] w fun e w' => e = .returned (.agg #[.int .u8 kd, .bool false, .int .i64 wp, .string tx, .int .i64 n]) ∧ Turns w w' g cs := by
  have hu61 := Try.underlying61
  have hu59 := Try.underlying59
  have hlt := At.lt hb
  have HB := Aside0.mk hb
  have HN := Aside0.mk hn
  have q2 : w.cell? ⟨g, 2, none⟩ = some (.int .u8 kd) := (blk_cell hb 2).trans rfl
  have q3 : w.cell? ⟨g, 3, none⟩ = some (.bool false) := (blk_cell hb 3).trans rfl
  have q4 : w.cell? ⟨g, 4, none⟩ = some (.int .i64 wp) := (blk_cell hb 4).trans rfl
  have q5 : w.cell? ⟨g, 5, none⟩ = some (.string tx) := (blk_cell hb 5).trans rfl
  have q6 : w.cell? ⟨g, 6, none⟩ = some (.int .i64 n) := (blk_cell hb 6).trans rfl
  have hne : g ≠ w.heap.size := by omega
  have hne' : w.heap.size ≠ g := by omega
  have hne1 : g ≠ w.heap.size + 1 := by omega
  have hne1' : w.heap.size + 1 ≠ g := by omega
  clear hb hn
  go_enter Try.func19, Try.ntmps19
  go_wp2_with (first | (go_at_call 17; refine (HN.out _ ?hA).mono ?_; (case hA => exact (HB.out.alloc _).alloc _); rintro e w2 ⟨rfl, ht⟩; have HT := Aside0.mk ht; have bA := At.keep (At.new2 _ _ _ _) ht.2.1 hne1'; have bB := At.keep ((At.new w _ _).alloc _) ht.2.1 hne'; have BB := Aside0.mk bB; have hs2 := Aside0.mk (keep_size ht.2.1); clear ht; have za0 := (blk_cell bA 0).trans rfl; have za1 := (blk_cell bA 1).trans rfl; have za2 := (blk_cell bA 2).trans rfl; have za3 := (blk_cell bA 3).trans rfl; have za4 := (blk_cell bA 4).trans rfl; have zb0 := (blk_cell bB 0).trans rfl; have zb1 := (blk_cell bB 1).trans rfl; have zb2 := (blk_cell bB 2).trans rfl; have zb3 := (blk_cell bB 3).trans rfl; have zb4 := (blk_cell bB 4).trans rfl; have fb0 := blk_frozen bB 0; have fb1 := blk_frozen bB 1; have fb2 := blk_frozen bB 2; have fb3 := blk_frozen bB 3; have fb4 := blk_frozen bB 4; clear bA bB))
  refine bodyPost_ret (results_cell_row rfl _ _ w.heap.size 59 #[.int .u8 kd, .bool false, .int .i64 wp, .string tx, .int .i64 n] (0, 0) _ rfl ?zg Try.underlying59 rfl (by kernel_rfl)) rfl ?zp
  case zg =>
    apply At.fin
    · (with_reducible repeat (first | exact BB.out | apply At.set))
    · rfl
  case zp =>
    have h0 := HT.out.older (keep_alloc (keep_alloc (KeepBut.refl _ _ _) _) _) (bl_alloc (bl_alloc (Below.refl _ _) hlt _) hlt _) hlt
    exact ⟨rfl, ((((h0.far hlt (Nat.le_refl _) _ _).far hlt (Nat.le_refl _) _ _).far hlt (Nat.le_refl _) _ _).far hlt (Nat.le_refl _) _ _).far hlt (Nat.le_refl _) _ _⟩
set_option maxHeartbeats 8000000 in
set_option maxRecDepth 100000 in
/-- a number -/
theorem plain_num (w : World) (g : Nat) (p : Int) (wp : Int) (tx : ByteArray) (n : Int) (v : Value) (cs : Array Value) (hb : At w g (RC p 100 false wp tx n v) 61)
    (hn : ∀ W, At W g (RC p 100 false wp tx n v) 61 → Calls Try.prog 17 #[.pointer (some ⟨g, 0, none⟩)] W fun e w' => e = .returned (.tuple #[]) ∧ Turns W w' g cs) :
    Calls Try.prog 79 #[.pointer (some ⟨g, 0, none⟩), .bool false] w fun e w' => e = .returned (.agg #[.int .i64 1, .int .i64 n, .string (⟨#[]⟩ : ByteArray), .bool false, .complex .f64 0 0]) ∧ Turns w w' g cs := by
  have hu61 := Try.underlying61
  have hu59 := Try.underlying59
  have hu43 := Try.underlying43
  have hlt := At.lt hb
  have HB := Aside0.mk hb
  have HN := Aside0.mk hn
  have q2 : w.cell? ⟨g, 2, none⟩ = some (.int .u8 100) := (blk_cell hb 2).trans rfl
  have q3 : w.cell? ⟨g, 3, none⟩ = some (.bool false) := (blk_cell hb 3).trans rfl
  have q4 : w.cell? ⟨g, 4, none⟩ = some (.int .i64 wp) := (blk_cell hb 4).trans rfl
  have q5 : w.cell? ⟨g, 5, none⟩ = some (.string tx) := (blk_cell hb 5).trans rfl
  have q6 : w.cell? ⟨g, 6, none⟩ = some (.int .i64 n) := (blk_cell hb 6).trans rfl
  have hne : g ≠ w.heap.size := by omega
  have hne' : w.heap.size ≠ g := by omega
  have hne1 : g ≠ w.heap.size + 1 := by omega
  have hne1' : w.heap.size + 1 ≠ g := by omega
  clear hb hn
  go_enter Try.func79, Try.ntmps79
  go_wp2_with (first | (go_at_call 17; refine (HN.out _ ?hA).mono ?_; (case hA => exact (HB.out.alloc _).alloc _); rintro e w2 ⟨rfl, ht⟩; have HT := Aside0.mk ht; have bA := At.keep (At.new2 _ _ _ _) ht.2.1 hne1'; have bB := At.keep ((At.new w _ _).alloc _) ht.2.1 hne'; have BB := Aside0.mk bB; clear ht; have za4 := (blk_cell bA 4).trans rfl; have zb0 := (blk_cell bB 0).trans rfl; have zb1 := (blk_cell bB 1).trans rfl; have zb2 := (blk_cell bB 2).trans rfl; have zb3 := (blk_cell bB 3).trans rfl; have zb4 := (blk_cell bB 4).trans rfl; have fb0 := blk_frozen bB 0; have fb1 := blk_frozen bB 1; have fb2 := blk_frozen bB 2; have fb3 := blk_frozen bB 3; have fb4 := blk_frozen bB 4; clear bA bB))
  refine bodyPost_ret (results_cell_row rfl _ _ w.heap.size 43 #[.int .i64 1, .int .i64 n, .string (⟨#[]⟩ : ByteArray), .bool false, .complex .f64 0 0] (0, 0) _ rfl ?zg Try.underlying43 rfl (by kernel_rfl)) rfl ?zp
  case zg =>
    apply At.fin
    · (with_reducible repeat (first | exact BB.out | apply At.set))
    · rfl
  case zp =>
    have h0 := HT.out.older (keep_alloc (keep_alloc (KeepBut.refl _ _ _) _) _) (bl_alloc (bl_alloc (Below.refl _ _) hlt _) hlt _) hlt
    exact ⟨rfl, ((((h0.far hlt (Nat.le_refl _) _ _).far hlt (Nat.le_refl _) _ _).far hlt (Nat.le_refl _) _ _).far hlt (Nat.le_refl _) _ _).far hlt (Nat.le_refl _) _ _⟩
end Go.Proofs.Ytmgljgmieomngaa.Lv
namespace Go.Proofs.Ytmgljgmieomngaa.Lv
open Go Go.RowKit Go.Proofs.YtmgljgmieomngaaW.PrintWords Go.Proofs.YtmgljgmieomngaaW.PrintLast Go.Proofs.YtmgljgmieomngaaW.PrintMore Go.Proofs.Ytmgljgmieomngaa.Q
attribute [local go_sem] run_store_complex run_store_float isSome_setCell
set_option linter.unusedVariables false
set_option linter.unusedSimpArgs false
theorem kb_alloc {w W : World} {g : Nat} {row : Option Nat} (h : KeepBut w W g row) (o : Obj) : KeepBut w (W.alloc o) g row :=
  ⟨Nat.le_trans h.1 (by simp), fun i hi hg hr => (Below.heap_alloc _ _ _ (Nat.lt_of_lt_of_le hi h.1)).trans (h.2 i hi hg hr)⟩
theorem kb_new {w W : World} {g : Nat} {row : Option Nat} (h : KeepBut w W g row) {b : Nat} (hb : w.heap.size ≤ b) (j : Nat) (u : Value) : KeepBut w (W.setCell ⟨b, j, none⟩ u) g row :=
  ⟨by simpa [World.setCell] using h.1, fun i hi hg hr => (Below.heap_setCell W ⟨b, j, none⟩ u i (by show i ≠ b; omega)).trans (h.2 i hi hg hr)⟩
theorem kb_drew {w W : World} {g : Nat} {row : Option Nat} (h : KeepBut w W g row) : KeepBut w W.drew g row := h
theorem kb_then {w W X : World} {g : Nat} (h : KeepBut w W g none) (k : KeepBut W X g none) : KeepBut w X g none := h.trans k (.inl rfl)
/-- the reader, what it has made by now, in a block of its own -/
structure Rt (B : Nat) (w : World) (g : Nat) (cs : Value → Array Value) (v : Value) (xs : List S54) : Prop where
  at' : At w g (cs v) 61
  own : Kd.R k54 54 w B (fun k => k ≠ g) v xs
  ge : B ≤ g
/-- what a call that appends leaves -/
def Adds (B : Nat) (w w' : World) (g : Nat) (v : Value) (cs : Value → Array Value) (xs : List S54) : Prop :=
  ∃ v', Rt B w' g cs v' xs ∧ KeepBut w w' g v.ownBlock ∧ (v'.ownBlock = v.ownBlock ∨ ∃ b, v'.ownBlock = some b ∧ w.heap.size ≤ b) ∧ Below B w w'
theorem KeepBut.weaker {w w' : World} {g : Nat} (h : KeepBut w w' g none) (row : Option Nat) : KeepBut w w' g row := ⟨h.1, fun i hi hg _ => h.2 i hi hg (by simp)⟩
theorem Below.less {B g : Nat} {w w' : World} (h : Below g w w') (hB : B ≤ g) : Below B w w' := ⟨h.os, h.tape, h.output, h.size, fun k hk => h.block k (by omega)⟩
theorem Rt.turns {B : Nat} {w w' : World} {g : Nat} {cs cs' : Value → Array Value} {v : Value} {xs : List S54} (h : Rt B w g cs v xs) (t : Turns w w' g (cs' v)) : Rt B w' g cs' v xs :=
  ⟨t.1, Kd.R_keep h.own t.2.1 (fun _ hk => hk), h.ge⟩
theorem Adds.refl {B : Nat} {w : World} {g : Nat} {cs : Value → Array Value} {v : Value} {xs : List S54} (h : Rt B w g cs v xs) : Adds B w w g v cs xs := ⟨v, h, KeepBut.refl _ _ _, .inl rfl, Below.refl _ _⟩
/-- a call that appends, behind what turned the reader alone -/
theorem Adds.after {B : Nat} {w w1 w' : World} {g : Nat} {cs : Value → Array Value} {v : Value} {xs : List S54} (k : KeepBut w w1 g none) (b : Below g w w1) (hB : B ≤ g) (h : Adds B w1 w' g v cs xs) : Adds B w w' g v cs xs := by
  obtain ⟨v', hr, hk, hv, hb⟩ := h
  refine ⟨v', hr, (KeepBut.weaker k _).trans hk (.inl rfl), ?_, (Below.less b hB).trans hb⟩
  rcases hv with hv | ⟨q, hq, hle⟩
  · exact .inl hv
  · exact .inr ⟨q, hq, Nat.le_trans k.1 hle⟩
theorem Adds.then {B : Nat} {w w1 w' : World} {g : Nat} {cs : Value → Array Value} {v v1 : Value} {xs : List S54} (k : KeepBut w w1 g v.ownBlock) (hv1 : v1.ownBlock = v.ownBlock ∨ ∃ b, v1.ownBlock = some b ∧ w.heap.size ≤ b) (b : Below B w w1)
    (h : Adds B w1 w' g v1 cs xs) : Adds B w w' g v cs xs := by
  obtain ⟨v', hr, hk, hv, hb⟩ := h
  refine ⟨v', hr, k.trans hk hv1, ?_, b.trans hb⟩
  rcases hv with hv | ⟨q, hq, hle⟩
  · rcases hv1 with hv1 | ⟨q, hq, hle⟩
    · exact .inl (hv.trans hv1)
    · exact .inr ⟨q, hv.trans hq, hle⟩
  · exact .inr ⟨q, hq, Nat.le_trans k.1 hle⟩
def vz : S43 := ⟨0, 0, (⟨#[]⟩ : ByteArray), false, ⟨0, 0⟩⟩
def T1 : S54 := ⟨3, (⟨#[97]⟩ : ByteArray), 5, ⟨1, 5, (⟨#[]⟩ : ByteArray), false, ⟨0, 0⟩⟩, 0⟩
def T2 : S54 := ⟨3, (⟨#[98]⟩ : ByteArray), 1, vz, 0⟩
def T3 : S54 := ⟨4, (⟨#[]⟩ : ByteArray), 0, vz, 0⟩
def T4 : S54 := ⟨5, (⟨#[]⟩ : ByteArray), 0, vz, 0⟩
def tc (t : S54) : List Value := [.int .i64 t.f0, .string t.f1, .int .i64 t.f2, .int .i64 t.f3.f0, .int .i64 t.f3.f1, .string t.f3.f2, .bool t.f3.f3, .complex .f64 t.f3.f4.re t.f3.f4.im, .int .i64 t.f4]
theorem tc_M (w : World) (B : Nat) (ok : Nat → Prop) (t : S54) : k54.M w B ok t (tc t) := k54_mkM _ _ _ t
theorem info54 : (Try.prog.info? 54).map (fun i => (i.zero, i.size, i.bytes)) = some (some (.agg #[(.int .i64 0), (.string ⟨#[]⟩), (.int .i64 0), (.int .i64 0), (.int .i64 0), (.string ⟨#[]⟩), (.bool false), (.complex .f64 0 0), (.int .i64 0)]), 9, 96) := by kernel_rfl
theorem At.grown {W w1 : World} {g : Nat} {cs : Array Value} {t : TypeId} {row : Option Nat} (h : At W g cs t) (hg : W.grownBy w1 row) (hne : some g ≠ row) : At w1 g cs t := blk_grown h hg hne
/-- an append that is stored into the reader -/
theorem Adds.mk' {B : Nat} {w W w1 : World} {g : Nat} {cs : Value → Array Value} {v v1 : Value} {xs ys : List S54} (hs : ∀ u, (cs v).setIfInBounds 7 u = cs u) (hk : KeepBut w W g none) (hB : Below B w W) (hA : At W g (cs v) 61)
    (hO : Kd.R k54 54 W B (fun k => k ≠ g) v xs) (ge : B ≤ g) (ho : Kd.R k54 54 w1 B (fun k => k ≠ g) v1 ys) (hb : Below B W w1) (hg : W.grownBy w1 v.ownBlock) (hat : v1.ownBlock = v.ownBlock ∨ ∃ b, v1.ownBlock = some b ∧ W.heap.size ≤ b) :
    Adds B w (w1.setCell ⟨g, 7, none⟩ v1) g v cs ys := by
  have hne : some g ≠ v.ownBlock := fun e => hO.1 g e.symm rfl
  refine ⟨v1, ⟨?_, Kd.R_far (p := ⟨g, 7, none⟩) ho (fun _ hk => hk) v1, ge⟩, ?_, ?_, ?_⟩
  · rw [← hs v1]; exact (hA.grown hg hne).set 7 v1
  · exact ((KeepBut.weaker hk _).trans (KeepBut.of_grown hg g) (.inl rfl)).set_ 7 v1
  · rcases hat with h | ⟨b, h1, h2⟩
    · exact .inl h
    · exact .inr ⟨b, h1, Nat.le_trans hk.1 h2⟩
  · exact (hB.trans hb).setCell (by show B ≤ g; exact ge) v1
/-- the cell that is stored into, behind an append -/
theorem cell7 {W w1 : World} {g : Nat} {cs : Value → Array Value} {v : Value} {B : Nat} {xs : List S54} (hA : At W g (cs v) 61) (hc : (cs v)[7]? = some v) (hO : Kd.R k54 54 W B (fun k => k ≠ g) v xs) (hg : W.grownBy w1 v.ownBlock) :
    w1.cell? ⟨g, 7, none⟩ = some v ∧ w1.frozen? ⟨g, 7, none⟩ = false := by
  have hne : some g ≠ v.ownBlock := fun e => hO.1 g e.symm rfl
  have h := hA.grown hg hne
  exact ⟨(blk_cell h 7).trans hc, blk_frozen h 7⟩
theorem fold_wp {P : Program} {c : Code} {Q : Exit → Act → World → Prop} {a : Act} {W : World} (F : World → Prop) (h : F W) (k : ∀ X, F X → c.wp P Q a X) : c.wp P Q a W := k W h
/-- the reader, its last cell open -/
def R1 (v : Value) := RC 1 110 false 0 (⟨#[97]⟩ : ByteArray) 0 v
def R2 (v : Value) := RC 2 60 false 1 (⟨#[]⟩ : ByteArray) 0 v
def R3 (v : Value) := RC 3 100 false 2 (⟨#[]⟩ : ByteArray) 5 v
def R4 (v : Value) := RC 5 38 false 4 (⟨#[]⟩ : ByteArray) 0 v
def R5 (v : Value) := RC 7 33 false 6 (⟨#[]⟩ : ByteArray) 0 v
def R6 (v : Value) := RC 8 63 false 7 (⟨#[]⟩ : ByteArray) 0 v
def R7 (v : Value) := RC 9 110 false 8 (⟨#[98]⟩ : ByteArray) 0 v
def R8 (v : Value) := RC 9 101 false 9 (⟨#[]⟩ : ByteArray) 0 v
set_option maxHeartbeats 8000000 in
set_option maxRecDepth 100000 in
/-- 'a<5', behind its name -/
theorem atom_a (B : Nat) (w : World) (g : Nat) (v : Value) (h : Rt B w g R2 v []) :
    Calls Try.prog 64 #[.pointer (some ⟨g, 0, none⟩), .string (⟨#[97]⟩ : ByteArray)] w fun e w' => e = .returned (.tuple #[]) ∧ Adds B w w' g v R4 [T1] := by
  have hu61 := Try.underlying61
  have hu59 := Try.underlying59
  have hu54 := Try.underlying54
  have hu43 := Try.underlying43
  have HR := Aside0.mk h
  have hb := h.at'
  have hlt := At.lt hb
  have HB := Aside0.mk hb
  have q2 : w.cell? ⟨g, 2, none⟩ = some (.int .u8 60) := (blk_cell hb 2).trans rfl
  have q3 : w.cell? ⟨g, 3, none⟩ = some (.bool false) := (blk_cell hb 3).trans rfl
  have q4 : w.cell? ⟨g, 4, none⟩ = some (.int .i64 1) := (blk_cell hb 4).trans rfl
  have q5 : w.cell? ⟨g, 5, none⟩ = some (.string (⟨#[]⟩ : ByteArray)) := (blk_cell hb 5).trans rfl
  have q6 : w.cell? ⟨g, 6, none⟩ = some (.int .i64 0) := (blk_cell hb 6).trans rfl
  have hne : g ≠ w.heap.size := by omega
  have hne' : w.heap.size ≠ g := by omega
  have hne1 : g ≠ w.heap.size + 1 := by omega
  have hne1' : w.heap.size + 1 ≠ g := by omega
  clear hb h
  go_enter Try.func64, Try.ntmps64
  go_wp2_with (first
    | (go_at_call 17; refine (next2 _ g v 60 false 1 (⟨#[]⟩ : ByteArray) 0 ?hA).mono ?_; (case hA => exact (HB.out.alloc _).alloc _); rintro e w2 ⟨rfl, ht⟩; have HT2 := Aside0.mk ht; have bt := At.keep ((At.new w _ _).alloc _) ht.2.1 hne'; have BT2 := Aside0.mk bt; clear ht; have zt2 := (blk_cell bt 2).trans rfl; clear bt)
    | (go_at_call 79; refine (plain_num _ g 3 2 (⟨#[]⟩ : ByteArray) 5 v (R4 v) ?hA ?hN).mono ?_; (case hA => exact HT2.out.1); (case hN => intro W hW; exact next3 W g v _ _ _ _ _ hW); rintro e w3 ⟨rfl, ht⟩; have HT3 := Aside0.mk ht; have bt := At.keep BT2.out ht.2.1 hne'; have BT3 := Aside0.mk bt; clear zt2; have zt0 := (blk_cell bt 0).trans rfl; have zt1 := (blk_cell bt 1).trans rfl; have zt2 := (blk_cell bt 2).trans rfl; have zt3 := (blk_cell bt 3).trans rfl; have zt4 := (blk_cell bt 4).trans rfl; have zt5 := (blk_cell bt 5).trans rfl; have zt6 := (blk_cell bt 6).trans rfl; have zt7 := (blk_cell bt 7).trans rfl; have zt8 := (blk_cell bt 8).trans rfl; have ft3 := blk_frozen bt 3; have ft4 := blk_frozen bt 4; have ft5 := blk_frozen bt 5; have ft6 := blk_frozen bt 6; have ft7 := blk_frozen bt 7; have hg7 : w3.cell? ⟨g, 7, none⟩ = some v := (blk_cell ht.1 7).trans rfl; clear bt ht))
  have hh1 : At _ g (R4 v) 61 := HT3.out.1
  have hh2 := HT3.out.2.1
  have hh3 := HT3.out.2.2
  have hh4 := HT2.out.2.1
  have hh5 := HT2.out.2.2
  refine fold_wp (fun X => (At X g (R4 v) 61 ∧ At X w.heap.size (tc T1).toArray 54) ∧ KeepBut w X g none ∧ Below B w X) ⟨⟨?q1, ?q2⟩, ?q3, ?q4⟩ ?_
  case q1 => 
    apply At.fin
    · apply At.other (hne := hne')
      with_reducible repeat (first | exact hh1 | apply At.other (hne := hne'))
    · rfl
  case q2 => 
    apply At.fin
    · with_reducible repeat (first | exact BT3.out | apply At.set)
    · rfl
  case q3 => 
    with_reducible repeat (first | exact kb_then (kb_alloc (kb_alloc (KeepBut.refl w g none) _) _) (kb_then hh4 hh2) | apply kb_new (hb := Nat.le_refl _))
  case q4 => 
    have := HR.out.ge
    have hs : w.heap.size ≤ w3.heap.size := (kb_then (kb_alloc (kb_alloc (KeepBut.refl w g none) _) _) (kb_then hh4 hh2)).1
    refine Below.setCell (hp := ?_) (Below.setCell (hp := ?_) (Below.setCell (hp := ?_) (Below.setCell (hp := ?_) (Below.setCell (hp := ?_) (((Below.refl B w).alloc ?_ _).alloc ?_ _ |>.trans ((Below.less hh5 this).trans (Below.less hh3 this))) _) _) _) _) _
    all_goals first | (show B ≤ w.heap.size; omega) | (simp; omega)
  rintro X ⟨⟨hg, hb⟩, hk, hB⟩
  clear hh1 hh2 hh3 hh4 hh5 HT2 HT3 BT2 BT3 zt0 zt1 zt2 zt3 zt4 zt5 zt6 zt7 zt8 ft3 ft4 ft5 ft6 ft7 hg7 q2 q3 q4 q5 q6
  have O : Kd.R k54 54 X B (fun k => k ≠ g) v [] := Kd.R_keep HR.out.own hk (fun _ h => h)
  have ge := HR.out.ge
  have lt := hg.lt
  have c7 : X.cell? ⟨g, 7, none⟩ = some v := (blk_cell hg 7).trans rfl
  have x0 : X.cell? ⟨w.heap.size, 0, none⟩ = some (.int .i64 3) := (blk_cell hb 0).trans rfl
  have x1 : X.cell? ⟨w.heap.size, 1, none⟩ = some (.string (⟨#[97]⟩ : ByteArray)) := (blk_cell hb 1).trans rfl
  have x2 : X.cell? ⟨w.heap.size, 2, none⟩ = some (.int .i64 5) := (blk_cell hb 2).trans rfl
  have x3 : X.cell? ⟨w.heap.size, 3, none⟩ = some (.int .i64 1) := (blk_cell hb 3).trans rfl
  have x4 : X.cell? ⟨w.heap.size, 4, none⟩ = some (.int .i64 5) := (blk_cell hb 4).trans rfl
  have x5 : X.cell? ⟨w.heap.size, 5, none⟩ = some (.string (⟨#[]⟩ : ByteArray)) := (blk_cell hb 5).trans rfl
  have x6 : X.cell? ⟨w.heap.size, 6, none⟩ = some (.bool false) := (blk_cell hb 6).trans rfl
  have x7 : X.cell? ⟨w.heap.size, 7, none⟩ = some (.complex .f64 0 0) := (blk_cell hb 7).trans rfl
  have x8 : X.cell? ⟨w.heap.size, 8, none⟩ = some (.int .i64 0) := (blk_cell hb 8).trans rfl
  have hne2 := World.new_ne X ⟨g, 7, none⟩ c7
  go_region_law ((refine Kd.R_append_step k54 (w0 := X.drew) (W := X.drew) B (by rfl) (.tmp 102) (.tmp 104) 23 54 _ 96 (by rfl) Try.underlying23 info54 rfl (by decide) (by decide) v [] T1 (tc T1) (fun k => k ≠ g) (fun _ => False) (by rfl) (by rfl) (tc_M _ _ _ _) (fun _ h => h.elim) (fun k (hk : X.heap.size ≤ k) e => by omega) (Kd.R_drew O) (Below.refl _ _) (by show B ≤ X.heap.size; omega) (by decide) ?_; intro v1 w1 ho hb1 hg1 hat1; obtain ⟨e1, e2⟩ := cell7 (At.drew hg) rfl (Kd.R_drew O) hg1; obtain ⟨A1, n1, rfl⟩ := Kd.R_slice ho; have HO1 := Aside0.mk ho; have HB1 := Aside0.mk hb1; have HG1 := Aside0.mk hg1; have HT1 := Aside0.mk hat1; clear ho hb1 hg1 hat1))
  all_goals (try go_wp2)
  all_goals go_end0
  all_goals exact ⟨rfl, Adds.mk' (fun _ => rfl) (kb_drew hk) (below_drew1 hB) (At.drew hg) (Kd.R_drew O) ge HO1.out HB1.out HG1.out HT1.out⟩
end Go.Proofs.Ytmgljgmieomngaa.Lv
namespace Go.Proofs.Ytmgljgmieomngaa.Lv
open Go Go.RowKit Go.Proofs.YtmgljgmieomngaaW.PrintWords Go.Proofs.YtmgljgmieomngaaW.PrintLast Go.Proofs.YtmgljgmieomngaaW.PrintMore Go.Proofs.Ytmgljgmieomngaa.Q
attribute [local go_sem] run_store_complex run_store_float isSome_setCell
set_option linter.unusedVariables false
set_option linter.unusedSimpArgs false
set_option maxHeartbeats 8000000 in
set_option maxRecDepth 100000 in
/-- 'a<5' -/
theorem unit_a (B : Nat) (w : World) (g : Nat) (v : Value) (h : Rt B w g R1 v []) :
    Calls Try.prog 40 #[.pointer (some ⟨g, 0, none⟩)] w fun e w' => e = .returned (.tuple #[]) ∧ Adds B w w' g v R4 [T1] := by
  have hu61 := Try.underlying61
  have hu59 := Try.underlying59
  have HR := Aside0.mk h
  clear h
  have hf : ∀ w : World, (Instr.field 59 (.agg #[.int .u8 110, .bool false, .int .i64 0, .string (⟨#[97]⟩ : ByteArray), .int .i64 0]) 3).run Try.prog w = .ok (.string (⟨#[97]⟩ : ByteArray)) w := fun _ => by kernel_rfl
  go_enter Try.func40, Try.ntmps40
  go_wp2_with (first
    | (go_at_call 39; refine (is_no _ g 1 110 false 0 (⟨#[97]⟩ : ByteArray) 0 v _ ?hc HR.out.at').mono ?_; (case hc => rfl); rintro e w2 ⟨rfl, hw⟩; replace hw := hw.symm; subst hw)
    | (go_at_call 19; refine (want_yes _ g 1 110 0 (⟨#[97]⟩ : ByteArray) 0 v (R2 v) HR.out.at' ?hN).mono ?_; (case hN => intro W hW; exact next1 W g v _ _ _ _ _ hW); rintro e w2 ⟨rfl, ht⟩; have HT := Aside0.mk ht; clear ht)
    | (go_at_call 64; refine (atom_a B _ g v (Rt.turns (cs' := R2) HR.out HT.out)).mono ?_; rintro e w3 ⟨rfl, ha⟩; have HA := Aside0.mk (Adds.after HT.out.2.1 HT.out.2.2 HR.out.ge ha); clear ha))
  (try simp only [Exit.then, Exit.jump])
  go_end0
  exact ⟨rfl, HA.out⟩
set_option maxHeartbeats 8000000 in
set_option maxRecDepth 100000 in
/-- '?b' -/
theorem unit_b (B : Nat) (w : World) (g : Nat) (v : Value) (xs : List S54) (hx : xs.length ≤ 3) (h : Rt B w g R6 v xs) :
    Calls Try.prog 40 #[.pointer (some ⟨g, 0, none⟩)] w fun e w' => e = .returned (.tuple #[]) ∧ Adds B w w' g v R8 (xs ++ [T2]) := by
  have hu61 := Try.underlying61
  have hu59 := Try.underlying59
  have hu54 := Try.underlying54
  have hu43 := Try.underlying43
  have HR := Aside0.mk h
  clear h
  have hf : ∀ w : World, (Instr.field 59 (.agg #[.int .u8 110, .bool false, .int .i64 8, .string (⟨#[98]⟩ : ByteArray), .int .i64 0]) 3).run Try.prog w = .ok (.string (⟨#[98]⟩ : ByteArray)) w := fun _ => by kernel_rfl
  go_enter Try.func40, Try.ntmps40
  go_wp2_with (first
    | (go_at_call 39; refine (is_no _ g 8 63 false 7 (⟨#[]⟩ : ByteArray) 0 v _ ?hc HR.out.at').mono ?_; (case hc => rfl); rintro e w2 ⟨rfl, hw⟩; replace hw := hw.symm; subst hw)
    | (go_at_call 39; refine (is_yes _ g 8 63 7 (⟨#[]⟩ : ByteArray) 0 v (R7 v) HR.out.at' (next6 _ g v _ _ _ _ _ HR.out.at')).mono ?_; rintro e w1 ⟨rfl, ht⟩; have HT := Aside0.mk ht; clear ht))
  refine fold_wp (fun X => (At X g (R7 v) 61 ∧ KeepBut w X g none) ∧ Below B w X) ⟨⟨HT.out.1, HT.out.2.1⟩, Below.less HT.out.2.2 HR.out.ge⟩ ?_
  rintro X ⟨⟨hg, hk⟩, hB⟩
  have O : Kd.R k54 54 X B (fun k => k ≠ g) v xs := Kd.R_keep HR.out.own hk (fun _ h => h)
  have ge := HR.out.ge
  have lt := hg.lt
  have c7 : X.cell? ⟨g, 7, none⟩ = some v := (blk_cell hg 7).trans rfl
  have hne2 := World.new_ne X ⟨g, 7, none⟩ c7
  go_region_law (first
    | (refine Kd.R_append_step k54 (w0 := w2) (W := w2) B (by rfl) (.tmp 62) (.tmp 67) 23 54 _ 96 (by rfl) Try.underlying23 info54 rfl (by decide) (by decide) v xs T2 (tc T2) (fun k => k ≠ g) (fun _ => False) (by rfl) (by rfl) (tc_M _ _ _ _) (fun _ h => h.elim) (fun k (hk : w2.heap.size ≤ k) e => by omega) O2 (Below.refl _ _) (by show B ≤ w2.heap.size; omega) (by omega) ?_; intro v1 w1 ho hb1 hg1 hat1; obtain ⟨e1, e2⟩ := cell7 HT2.out.1 rfl O2 hg1; obtain ⟨A1, n1, e1v⟩ := Kd.R_slice ho; rw [show (xs ++ [T2]).length = xs.length + 1 from by simp] at e1v; subst e1v; have HO1 := Aside0.mk ho; have HB1 := Aside0.mk hb1; have HG1 := Aside0.mk hg1; have HT1 := Aside0.mk hat1; clear ho hb1 hg1 hat1)
    | (refine goes_ Try.func19 (by kernel_rfl) rfl #[.pointer (some ⟨g, 0, none⟩), .int .u8 110] (by rfl) rfl rfl (by (try simp only [List.map_toArray, List.map_cons, List.map_nil]); first | done | rfl) ?_; refine (want_yes X.drew g 9 110 8 (⟨#[98]⟩ : ByteArray) 0 v (R8 v) (At.drew hg) (fun W hW => next7 W g v _ _ _ _ _ hW)).mono ?_; rintro e w2 ⟨rfl, ht⟩; refine ⟨_, rfl, ?_⟩; have d7 : w2.cell? ⟨g, 7, none⟩ = some v := (blk_cell ht.1 7).trans rfl; have O2 := Kd.R_keep (Kd.R_drew O) ht.2.1 (fun _ h => h); have lt2 := ht.1.lt; have hne3 := World.new_ne w2 ⟨g, 7, none⟩ d7; have HT2 := Aside0.mk ht; clear ht))
  all_goals (try go_wp2)
  all_goals (try simp only [Exit.then, Exit.jump])
  all_goals go_end0
  all_goals exact ⟨rfl, Adds.mk' (fun _ => rfl) (kb_then hk (kb_then (kb_drew (KeepBut.refl _ _ _)) HT2.out.2.1)) (hB.trans (Below.less ((below_drew1 (Below.refl _ _)).trans HT2.out.2.2) ge)) HT2.out.1 O2 ge HO1.out HB1.out HG1.out HT1.out⟩
end Go.Proofs.Ytmgljgmieomngaa.Lv
namespace Go.Proofs.Ytmgljgmieomngaa.Lv
open Go Go.RowKit Go.Proofs.YtmgljgmieomngaaW.PrintWords Go.Proofs.YtmgljgmieomngaaW.PrintLast Go.Proofs.YtmgljgmieomngaaW.PrintMore Go.Proofs.Ytmgljgmieomngaa.Q
attribute [local go_sem] run_store_complex run_store_float isSome_setCell
set_option linter.unusedVariables false
set_option linter.unusedSimpArgs false
set_option maxHeartbeats 8000000 in
set_option maxRecDepth 100000 in
/-- '!?b' -/
theorem unit_n (B : Nat) (w : World) (g : Nat) (v : Value) (h : Rt B w g R5 v [T1]) :
    Calls Try.prog 40 #[.pointer (some ⟨g, 0, none⟩)] w fun e w' => e = .returned (.tuple #[]) ∧ Adds B w w' g v R8 [T1, T2, T3] := by
  have hu61 := Try.underlying61
  have hu59 := Try.underlying59
  have hu54 := Try.underlying54
  have hu43 := Try.underlying43
  have HR := Aside0.mk h
  clear h
  go_enter Try.func40, Try.ntmps40
  go_wp2_with (first
    | (go_at_call 39; refine (is_yes _ g 7 33 6 (⟨#[]⟩ : ByteArray) 0 v (R6 v) HR.out.at' (next5 _ g v _ _ _ _ _ HR.out.at')).mono ?_; rintro e w1 ⟨rfl, ht⟩; have HT := Aside0.mk ht; clear ht)
    | (go_at_call 40; refine (unit_b B _ g v [T1] (by decide) (Rt.turns (cs' := R6) HR.out HT.out)).mono ?_; rintro e w2 ⟨rfl, ha⟩; have HA := Aside0.mk (Adds.after HT.out.2.1 HT.out.2.2 HR.out.ge ha); clear ha; obtain ⟨v2, hr, hk, hv, hb⟩ := HA.out; have HR2 := Aside0.mk hr; have lt2 := hr.at'.lt; have ge := hr.ge; have c7 : w2.cell? ⟨g, 7, none⟩ = some v2 := (blk_cell hr.at' 7).trans rfl; have hne2 := World.new_ne w2 ⟨g, 7, none⟩ c7; have HK2 := Aside0.mk hk; have HV2 := Aside0.mk hv; have HB2 := Aside0.mk hb; clear hr hk hv hb HA)
    | ((with_reducible refine gate_builtin (b := .append) (xs := #[.tmp 16, .tmp 18]) rfl ?_); at_builtin; refine Kd.R_append k54 (w0 := w2) (W := w2) B rfl (.tmp 16) (.tmp 18) 23 54 _ 96 (by rfl) Try.underlying23 info54 rfl (by decide) (by decide) v2 [T1, T2] T3 (tc T3) (fun k => k ≠ g) (fun _ => False) (by rfl) (by rfl) (tc_M _ _ _ _) (fun _ h => h.elim) (fun k (hk : w2.heap.size ≤ k) e => by omega) HR2.out.own (Below.refl _ _) (by omega) (by decide) ?_; intro v1 w3 ho hb1 hg1 hat1; obtain ⟨e1, e2⟩ := cell7 HR2.out.at' rfl HR2.out.own hg1; obtain ⟨A1, n1, rfl⟩ := Kd.R_slice ho; have HO1 := Aside0.mk ho; have HB1 := Aside0.mk hb1; have HG1 := Aside0.mk hg1; have HT1 := Aside0.mk hat1; clear ho hb1 hg1 hat1))
  (try simp only [Exit.then, Exit.jump])
  go_end0
  refine ⟨rfl, Adds.then (cs := R8) HK2.out HV2.out HB2.out (Adds.mk' (fun _ => rfl) (KeepBut.refl _ _ _) (Below.refl _ _) HR2.out.at' HR2.out.own ge HO1.out HB1.out HG1.out HT1.out)⟩
end Go.Proofs.Ytmgljgmieomngaa.Lv
namespace Go.Proofs.Ytmgljgmieomngaa.Lv
open Go Go.RowKit Go.Proofs.YtmgljgmieomngaaW.PrintWords Go.Proofs.YtmgljgmieomngaaW.PrintLast Go.Proofs.YtmgljgmieomngaaW.PrintMore Go.Proofs.Ytmgljgmieomngaa.Q
attribute [local go_sem] run_store_complex run_store_float isSome_setCell
set_option linter.unusedVariables false
set_option linter.unusedSimpArgs false
set_option maxHeartbeats 8000000 in
set_option maxRecDepth 100000 in
/-- 'a<5 & !?b' -/
theorem sum_ (B : Nat) (w : World) (g : Nat) (v : Value) (h : Rt B w g R1 v []) :
    Calls Try.prog 18 #[.pointer (some ⟨g, 0, none⟩)] w fun e w' => e = .returned (.tuple #[]) ∧ Adds B w w' g v R8 [T1, T2, T3, T4] := by
  have hu61 := Try.underlying61
  have hu59 := Try.underlying59
  have hu54 := Try.underlying54
  have hu43 := Try.underlying43
  have HR := Aside0.mk h
  clear h
  go_enter Try.func18, Try.ntmps18
  go_wp2
  refine wp_loop_rounds 2 ?_
  rw [rounds_succ]
  go_wp2
  refine wp_loop_rounds 3 ?_
  rw [rounds_succ]
  go_wp2_with (first
    | (go_at_call 40; refine (unit_a B _ g v HR.out).mono ?_; rintro e w2 ⟨rfl, ha⟩; obtain ⟨v2, hr, hk, hv, hb⟩ := ha; have HR2 := Aside0.mk hr; have HK2 := Aside0.mk hk; have HV2 := Aside0.mk hv; have HB2 := Aside0.mk hb; clear hr hk hv hb))
  (try simp only [Exit.then, Exit.jump])
  rw [rounds_succ]
  go_wp2_with (first
    | (go_at_call 39; refine (is_yes _ g 5 38 4 (⟨#[]⟩ : ByteArray) 0 v2 (R5 v2) HR2.out.at' (next4 _ g v2 _ _ _ _ _ HR2.out.at')).mono ?_; rintro e w3 ⟨rfl, ht⟩; have HT3 := Aside0.mk ht; clear ht)
    | (go_at_call 40; refine (unit_n B _ g v2 (Rt.turns (cs' := R5) HR2.out HT3.out)).mono ?_; rintro e w4 ⟨rfl, ha⟩; have HA := Aside0.mk (Adds.then HK2.out HV2.out HB2.out (Adds.after HT3.out.2.1 HT3.out.2.2 HR2.out.ge ha)); clear ha HK2 HV2 HB2 HT3 HR2; obtain ⟨v4, hr, hk, hv, hb⟩ := HA.out; have HR4 := Aside0.mk hr; have lt4 := hr.at'.lt; have ge := hr.ge; have c7 : w4.cell? ⟨g, 7, none⟩ = some v4 := (blk_cell hr.at' 7).trans rfl; have hne4 := World.new_ne w4 ⟨g, 7, none⟩ c7; have HK4 := Aside0.mk hk; have HV4 := Aside0.mk hv; have HB4 := Aside0.mk hb; clear hr hk hv hb HA)
    | ((with_reducible refine gate_builtin (b := .append) (xs := #[.tmp 28, .tmp 30]) rfl ?_); at_builtin; refine Kd.R_append k54 (w0 := w4) (W := w4) B rfl (.tmp 28) (.tmp 30) 23 54 _ 96 (by rfl) Try.underlying23 info54 rfl (by decide) (by decide) v4 [T1, T2, T3] T4 (tc T4) (fun k => k ≠ g) (fun _ => False) (by rfl) (by rfl) (tc_M _ _ _ _) (fun _ h => h.elim) (fun k (hk : w4.heap.size ≤ k) e => by omega) HR4.out.own (Below.refl _ _) (by omega) (by decide) ?_; intro v1 w5 ho hb1 hg1 hat1; obtain ⟨e1, e2⟩ := cell7 HR4.out.at' rfl HR4.out.own hg1; obtain ⟨A1, n1, rfl⟩ := Kd.R_slice ho; have HA := Aside0.mk (Adds.then (cs := R8) HK4.out HV4.out HB4.out (Adds.mk' (fun _ => rfl) (KeepBut.refl _ _ _) (Below.refl _ _) HR4.out.at' HR4.out.own ge ho hb1 hg1 hat1)); clear ho hb1 hg1 hat1))
  (try simp only [Exit.then, Exit.jump])
  obtain ⟨v6, hr6, -, -, -⟩ := HA.out
  have HR6 := Aside0.mk hr6
  clear hr6
  rw [rounds_succ]
  go_wp2_with (first
    | (go_at_call 39; refine (is_no _ g 9 101 false 9 (⟨#[]⟩ : ByteArray) 0 v6 _ ?hc HR6.out.at').mono ?_; (case hc => rfl); rintro e w7 ⟨rfl, hw⟩; replace hw := hw.symm; subst hw))
  (try simp only [Exit.then, Exit.jump])
  rw [rounds_succ]
  go_wp2_with (first
    | (go_at_call 39; refine (is_no _ g 9 101 false 9 (⟨#[]⟩ : ByteArray) 0 v6 _ ?hc HR6.out.at').mono ?_; (case hc => rfl); rintro e w7 ⟨rfl, hw⟩; replace hw := hw.symm; subst hw))
  (try simp only [Exit.then, Exit.jump])
  go_end0
  exact ⟨rfl, HA.out⟩
end Go.Proofs.Ytmgljgmieomngaa.Lv
namespace Go.Proofs.Ytmgljgmieomngaa.Lv
open Go Go.RowKit Go.Proofs.YtmgljgmieomngaaW.PrintWords Go.Proofs.YtmgljgmieomngaaW.PrintLast Go.Proofs.YtmgljgmieomngaaW.PrintMore Go.Proofs.Ytmgljgmieomngaa.Q
attribute [local go_sem] run_store_complex run_store_float isSome_setCell
set_option linter.unusedVariables false
set_option linter.unusedSimpArgs false
set_option maxHeartbeats 8000000 in
set_option maxRecDepth 100000 in
/-- the deferred function where nothing panics -/
theorem idle (p q r : Addr) (w : World) :
    CallsD Try.prog 16 #[.pointer (some p), .pointer (some q), .pointer (some r)] .returning w fun e u' w' => e = .returned (.tuple #[]) ∧ u' = .returning ∧ w' = w := by
  have hnil : ∀ w : World, (binOp BinOp.eql 20 .nilIface .nilIface).run Try.prog w = .ok (.bool true) w := fun _ => by kernel_rfl
  refine callsD_of_wpS Try.func16 rfl fun c₀ cs hu => ?_
  apply wpS_seq
  apply wpS_region
  simp [wpOpsS, go_sem, recoverD, hu, Try.ntmps16, Exit.thenS]
  refine wpS_of_wp ?_
  go_wp2
  (try simp only [Exit.then, Exit.jump])
  cases c₀
  simp_all [bodyPostS, results, Try.results16, Exit.thenS]
theorem At.new3 (W : World) (o o' : Obj) (cs : Array Value) (t : TypeId) : At (((W.alloc o).alloc o').alloc (.cells cs t (0, 0))) (W.heap.size + 1 + 1) cs t := by
  have h := At.new2 (W.alloc o) o' cs t
  rwa [World.size_alloc] at h
theorem At.new4 (W : World) (o o' o'' : Obj) (cs : Array Value) (t : TypeId) : At ((((W.alloc o).alloc o').alloc o'').alloc (.cells cs t (0, 0))) (W.heap.size + 1 + 1 + 1) cs t := by
  have h := At.new3 (W.alloc o) o' o'' cs t
  rwa [World.size_alloc] at h
set_option maxRecDepth 100000 in
theorem check_ : pred_Check.f 20 [T1, T2, T3, T4] = some 0 := by kernel_rfl
set_option maxHeartbeats 8000000 in
set_option maxRecDepth 100000 in
/-- pred.Parse("a<5 & !?b") -/
theorem parse_ (w : World) :
    Calls Try.prog 8 #[.string (⟨#[97, 60, 53, 32, 38, 32, 33, 63, 98]⟩ : ByteArray)] w fun e w' => ∃ v, e = .returned (.tuple #[v, .int .i64 0, .int .i64 0]) ∧ Kd.R k54 54 w' w.heap.size (fun _ => True) v [T1, T2, T3, T4] ∧ Below w.heap.size w w' := by
  have hmf : ∀ (fn : Fn) (first cap : Array Value) (w : World), (Instr.makeFunc fn first cap).run Try.prog w = .ok (.func fn first cap) w := fun _ _ _ _ => rfl
  have hu61 := Try.underlying61
  have hu59 := Try.underlying59
  have hu54 := Try.underlying54
  have hu43 := Try.underlying43
  have hne1 : w.heap.size ≠ w.heap.size + 1 + 1 + 1 := by omega
  have hne2 : w.heap.size + 1 ≠ w.heap.size + 1 + 1 + 1 := by omega
  have hne3 : w.heap.size + 1 + 1 ≠ w.heap.size + 1 + 1 + 1 := by omega
  go_enter_defers Try.func8, Try.ntmps8
  go_wp2_with (first
    | (go_at_call 17; refine (next0 _ _ (.slice none 0 0) 0 false 0 (⟨#[]⟩ : ByteArray) 0 (At.new4 w _ _ _ _ _)).mono ?_; rintro e w1 ⟨rfl, ht⟩; have HT := Aside0.mk ht; have P1 := Aside0.mk (At.keep (((At.new w _ _).alloc _).alloc _ |>.alloc _) ht.2.1 hne1); have Q1 := Aside0.mk (At.keep ((At.new2 w _ _ _).alloc _ |>.alloc _) ht.2.1 hne2); have S1 := Aside0.mk (At.keep ((At.new3 w _ _ _ _).alloc _) ht.2.1 hne3); have hs1 := Aside0.mk (keep_size ht.2.1); clear ht)
    | (go_at_call 18; refine (sum_ (w.heap.size + 1 + 1 + 1) w1 (w.heap.size + 1 + 1 + 1) (.slice none 0 0) ⟨HT.out.1, Kd.R_nil _ _ _ _ _, Nat.le_refl _⟩).mono ?_; rintro e w2 ⟨rfl, ha⟩; obtain ⟨v2, hr, hk, -, hb⟩ := ha; obtain ⟨A2, n2, rfl⟩ := Kd.R_slice hr.own; have HR2 := Aside0.mk hr; have HK2 := Aside0.mk hk; have HB2 := Aside0.mk hb; clear hr hk hb)
    | (go_at_call 19; refine (want_yes _ _ 9 101 9 (⟨#[]⟩ : ByteArray) 0 _ (R8 _) HR2.out.at' (fun W hW => next8 W _ _ _ _ _ _ _ hW)).mono ?_; rintro e w3 ⟨rfl, ht⟩; have HR3 := Aside0.mk (Rt.turns (cs' := R8) HR2.out ht); have HT3 := Aside0.mk ht; clear ht; have c7 : w3.cell? ⟨w.heap.size + 1 + 1 + 1, 7, none⟩ = some (.slice A2 4 n2) := (blk_cell HR3.out.at' 7).trans rfl; have lt3 := HR3.out.at'.lt)
    | (go_at_call 11; refine (pred_Check.calls 20 _ _ [T1, T2, T3, T4] 0 _ (Kd.R_reads' HR3.out.own).2.2 (Kd.R_reads' HR3.out.own).2.1 check_).mono ?_; rintro e w4 ⟨rfl, hb⟩; have g7 := (hb.cell (p := ⟨w.heap.size + 1 + 1 + 1, 7, none⟩) lt3).trans c7; have P4 := blk_below (At.keep (At.keep P1.out HK2.out hne1) HT3.out.2.1 hne1) hb; have Q4 := blk_below (At.keep (At.keep Q1.out HK2.out hne2) HT3.out.2.1 hne2) hb; have S4 := blk_below (At.keep (At.keep S1.out HK2.out hne3) HT3.out.2.1 hne3) hb; have p0 := (blk_cell P4 0).trans rfl; have fp := blk_frozen P4 0; have q0 := (blk_cell Q4 0).trans rfl; have fq := blk_frozen Q4 0; have s0 := (blk_cell S4 0).trans rfl; have fs := blk_frozen S4 0; have BP4 := Aside0.mk P4; have BQ4 := Aside0.mk Q4; have BS4 := Aside0.mk S4; have B4 := Aside0.mk hb; clear P4 Q4 S4 hb c7))
  refine leaves_cons (f := 16) (args := #[.pointer (some ⟨w.heap.size, 0, none⟩), .pointer (some ⟨w.heap.size + 1, 0, none⟩), .pointer (some ⟨w.heap.size + 1 + 1, 0, none⟩)]) (by simp) (by simp [go_sem]) ?_
  refine (idle ⟨w.heap.size, 0, none⟩ ⟨w.heap.size + 1, 0, none⟩ ⟨w.heap.size + 1 + 1, 0, none⟩ _).mono ?_
  rintro e u' w'' ⟨rfl, rfl, rfl⟩
  simp [Leaves, settle, results, Try.results8, go_sem, p0, q0, s0]
  have hB0 : Below w.heap.size w ((((w.alloc (.cells #[.slice none 0 0] 23)).alloc (.cells #[.int .i64 0] 3)).alloc (.cells #[.int .i64 0] 24)).alloc (.cells (RC 0 0 false 0 (⟨#[]⟩ : ByteArray) 0 (.slice none 0 0)) 61)) :=
    ((((Below.refl _ w).alloc (Nat.le_refl _) _).alloc (by simp) _).alloc (by simp; omega) _).alloc (by simp; omega) _
  have hB4 : Below w.heap.size w w4 := hB0.trans ((Below.less HT.out.2.2 (by omega)).trans ((Below.less HB2.out (by omega)).trans ((Below.less HT3.out.2.2 (by omega)).trans (Below.less B4.out (by omega)))))
  refine ⟨?_, Below.setCell (hp := ?_) (Below.setCell (hp := ?_) (Below.setCell (hp := ?_) hB4 _) _) _⟩
  · have h0 := Kd.R_bound (Kd.R_below HR3.out.own B4.out)
    refine Kd.R_lower (Kd.R_mono (Kd.R_far (Kd.R_far (Kd.R_far h0 (p := ⟨w.heap.size, 0, none⟩) ?_ _) (p := ⟨w.heap.size + 1, 0, none⟩) ?_ _) (p := ⟨w.heap.size + 1 + 1, 0, none⟩) ?_ _) (fun _ _ => trivial)) (by omega : w.heap.size ≤ w.heap.size + 1 + 1 + 1)
    all_goals (intro k hk; have := hk.2.1; show k ≠ _; simp only []; omega)
  all_goals (first | (show w.heap.size ≤ w.heap.size; omega) | (show w.heap.size ≤ w.heap.size + 1; omega) | (show w.heap.size ≤ w.heap.size + 1 + 1; omega))
end Go.Proofs.Ytmgljgmieomngaa.Lv
namespace Go.Proofs.Ytmgljgmieomngaa.Lv
open Go Go.RowKit Go.Proofs.YtmgljgmieomngaaW.PrintWords Go.Proofs.YtmgljgmieomngaaW.PrintLast Go.Proofs.YtmgljgmieomngaaW.PrintMore Go.Proofs.Ytmgljgmieomngaa.Q
attribute [local go_sem] run_store_complex run_store_float isSome_setCell
set_option linter.unusedVariables false
set_option linter.unusedSimpArgs false
/-- a whole number's cells -/
abbrev vc (n : Int) : Array Value := #[.int .i64 1, .int .i64 n, .string (⟨#[]⟩ : ByteArray), .bool false, .complex .f64 0 0]
theorem vcells {W : World} {b : Nat} {n : Int} (h : At W b (vc n) 43) : W.cell? ⟨b, 0, none⟩ = some (.int .i64 1) ∧ W.cell? ⟨b, 1, none⟩ = some (.int .i64 n) ∧ W.cell? ⟨b, 2, none⟩ = some (.string (⟨#[]⟩ : ByteArray)) ∧ W.cell? ⟨b, 3, none⟩ = some (.bool false) ∧ W.cell? ⟨b, 4, none⟩ = some (.complex .f64 0 0) :=
  ⟨(blk_cell h 0).trans rfl, (blk_cell h 1).trans rfl, (blk_cell h 2).trans rfl, (blk_cell h 3).trans rfl, (blk_cell h 4).trans rfl⟩
theorem far {W W' : World} {g : Nat} {cs : Array Value} {t : TypeId} (hb : Below W.heap.size W W') (h : At W g cs t) : At W' g cs t := blk_below h hb
set_option maxRecDepth 100000 in
theorem vcheck4 : value_Check.f 5 1 4 (⟨#[]⟩ : ByteArray) false ⟨0, 0⟩ = some 0 := by kernel_rfl
set_option maxRecDepth 100000 in
theorem vcheck5 : value_Check.f 5 1 5 (⟨#[]⟩ : ByteArray) false ⟨0, 0⟩ = some 0 := by kernel_rfl
theorem vcheck (n : Int) (h : n = 4 ∨ n = 5) : value_Check.f 5 1 n (⟨#[]⟩ : ByteArray) false ⟨0, 0⟩ = some 0 := by
  rcases h with rfl | rfl
  · exact vcheck4
  · exact vcheck5
theorem vcheck_calls (n : Int) (h : n = 4 ∨ n = 5) (w : World) : Calls Try.prog 45 #[.agg #[.int .i64 1, .int .i64 n, .string (⟨#[]⟩ : ByteArray), .bool false, .complex .f64 0 0]] w fun e w' => e = .returned (.int .i64 0) ∧ Below w.heap.size w w' :=
  value_Check.calls 5 1 n (⟨#[]⟩ : ByteArray) false ⟨0, 0⟩ 0 w (vcheck n h)
set_option maxHeartbeats 8000000 in
set_option maxRecDepth 100000 in
theorem both_ (x y : Int) (hx : x = 4 ∨ x = 5) (hy : y = 4 ∨ y = 5) (w : World) :
    Calls Try.prog 76 #[.agg (vc x), .agg (vc y), .bool false] w fun e w' => e = .returned (.int .i64 0) ∧ Below w.heap.size w w' := by
  have hu43 := Try.underlying43
  unfold vc
  go_enter Try.func76, Try.ntmps76
  go_wp2_with fail
  go_at_call 45; with_reducible refine (vcheck_calls x hx _).mono ?_; rintro e w1 ⟨rfl, hb⟩; have hB1 := Aside0.mk hb; have a1 : At w1 w.heap.size (vc x) 43 := far hb ((At.new w _ _).alloc _); have b1 : At w1 (w.heap.size + 1) (vc y) 43 := far hb (At.new2 w _ _ _); obtain ⟨x0, x1, x2, x3, x4⟩ := vcells a1; obtain ⟨y0, y1, y2, y3, y4⟩ := vcells b1; have A1 := Aside0.mk a1; have B1 := Aside0.mk b1; clear a1 b1 hb
  go_wp2_with fail
  go_at_call 45; with_reducible refine (vcheck_calls y hy _).mono ?_; rintro e w2 ⟨rfl, hb⟩; have hB2 := Aside0.mk hb; clear x0 x1 x2 x3 x4 y0 y1 y2 y3 y4; obtain ⟨x0, x1, x2, x3, x4⟩ := vcells (far hb A1.out); obtain ⟨y0, y1, y2, y3, y4⟩ := vcells (far hb B1.out); clear hb
  go_wp2_with fail
  go_ret
  exact ⟨rfl, (((Below.refl _ w).alloc (Nat.le_refl _) _).alloc (by simp) _).trans ((Below.less hB1.out (by simp; omega)).trans (Below.less hB2.out (by have := hB1.out.size; simp at this; omega)))⟩
set_option maxHeartbeats 8000000 in
set_option maxRecDepth 100000 in
theorem less_ (x y : Int) (hx : x = 4 ∨ x = 5) (hy : y = 4 ∨ y = 5) (w : World) :
    Calls Try.prog 59 #[.agg (vc x), .agg (vc y)] w fun e w' => e = .returned (.tuple #[.bool (decide (x < y)), .int .i64 0]) ∧ Below w.heap.size w w' := by
  have hu43 := Try.underlying43
  unfold vc
  go_enter Try.func59, Try.ntmps59
  go_wp2_with fail
  go_at_call 76; with_reducible refine (both_ x y hx hy _).mono ?_; rintro e w1 ⟨rfl, hb⟩; have hB1 := Aside0.mk hb; have a1 : At w1 w.heap.size (vc x) 43 := far hb ((At.new w _ _).alloc _); have b1 : At w1 (w.heap.size + 1) (vc y) 43 := far hb (At.new2 w _ _ _); obtain ⟨x0, x1, x2, x3, x4⟩ := vcells a1; obtain ⟨y0, y1, y2, y3, y4⟩ := vcells b1; clear a1 b1 hb
  go_wp2_with fail
  go_ret2
  exact ⟨rfl, (((Below.refl _ w).alloc (Nat.le_refl _) _).alloc (by simp) _).trans (Below.less hB1.out (by simp; omega))⟩
/-- the event's one attribute -/
def U1 : S45 := ⟨(⟨#[97]⟩ : ByteArray), ⟨1, 4, (⟨#[]⟩ : ByteArray), false, ⟨0, 0⟩⟩⟩
set_option maxRecDepth 100000 in
theorem get_a : event_Get.f [U1] [] (⟨#[97]⟩ : ByteArray) = some (1, 4, (⟨#[]⟩ : ByteArray), false, ⟨0, 0⟩, true) := by kernel_rfl
set_option maxRecDepth 100000 in
theorem get_b : event_Get.f [U1] [] (⟨#[98]⟩ : ByteArray) = some (0, 0, (⟨#[]⟩ : ByteArray), false, ⟨0, 0⟩, false) := by kernel_rfl
theorem get_a_calls (A1 : Option Addr) (c1 c2 : Nat) (w : World) (hr : Kd.C k45 w A1 1 [U1]) (hc : 1 ≤ c1) :
    Calls Try.prog 58 #[.agg #[.slice A1 1 c1, .slice none 0 c2], .string (⟨#[97]⟩ : ByteArray)] w fun e w' => e = .returned (.tuple #[.agg (vc 4), .bool true]) ∧ Below w.heap.size w w' :=
  event_Get.calls A1 c1 [U1] none c2 [] (⟨#[97]⟩ : ByteArray) 1 4 (⟨#[]⟩ : ByteArray) false ⟨0, 0⟩ true w hr hc (Kd.C_nil _ _) (Nat.zero_le _) get_a
theorem get_b_calls (A1 : Option Addr) (c1 c2 : Nat) (w : World) (hr : Kd.C k45 w A1 1 [U1]) (hc : 1 ≤ c1) :
    Calls Try.prog 58 #[.agg #[.slice A1 1 c1, .slice none 0 c2], .string (⟨#[98]⟩ : ByteArray)] w fun e w' => e = .returned (.tuple #[.agg #[.int .i64 0, .int .i64 0, .string (⟨#[]⟩ : ByteArray), .bool false, .complex .f64 0 0], .bool false]) ∧ Below w.heap.size w w' :=
  event_Get.calls A1 c1 [U1] none c2 [] (⟨#[98]⟩ : ByteArray) 0 0 (⟨#[]⟩ : ByteArray) false ⟨0, 0⟩ false w hr hc (Kd.C_nil _ _) (Nat.zero_le _) get_b
theorem tcells {W : World} {b : Nat} {t : S54} (h : At W b (tc t).toArray 54) : W.cell? ⟨b, 0, none⟩ = some (.int .i64 t.f0) ∧ W.cell? ⟨b, 1, none⟩ = some (.string t.f1) ∧ W.cell? ⟨b, 2, none⟩ = some (.int .i64 t.f2) ∧ W.cell? ⟨b, 3, none⟩ = some (.int .i64 t.f3.f0) ∧ W.cell? ⟨b, 4, none⟩ = some (.int .i64 t.f3.f1) ∧ W.cell? ⟨b, 5, none⟩ = some (.string t.f3.f2) ∧ W.cell? ⟨b, 6, none⟩ = some (.bool t.f3.f3) ∧ W.cell? ⟨b, 7, none⟩ = some (.complex .f64 t.f3.f4.re t.f3.f4.im) ∧ W.cell? ⟨b, 8, none⟩ = some (.int .i64 t.f4) :=
  ⟨(blk_cell h 0).trans rfl, (blk_cell h 1).trans rfl, (blk_cell h 2).trans rfl, (blk_cell h 3).trans rfl, (blk_cell h 4).trans rfl, (blk_cell h 5).trans rfl, (blk_cell h 6).trans rfl, (blk_cell h 7).trans rfl, (blk_cell h 8).trans rfl⟩
set_option maxHeartbeats 8000000 in
set_option maxRecDepth 100000 in
theorem tells_a (A1 : Option Addr) (c1 c2 : Nat) (w : World) (hr : Kd.C k45 w A1 1 [U1]) (hc : 1 ≤ c1) :
    Calls Try.prog 34 #[.agg (tc T1).toArray, .agg #[.slice A1 1 c1, .slice none 0 c2]] w fun e w' => e = .returned (.bool true) ∧ Below w.heap.size w w' := by
  have hu43 := Try.underlying43
  have hu48 := Try.underlying48
  have hu54 := Try.underlying54
  have HR := Aside0.mk hr
  clear hr
  unfold tc T1
  go_enter Try.func34, Try.ntmps34
  go_wp2_with fail
  go_at_call 58; with_reducible refine (get_a_calls A1 c1 c2 _ ?hC hc).mono ?_
  case hC => exact Kd.C_alloc (Kd.C_alloc HR.out _) _
  rintro e w1 ⟨rfl, hb⟩; have hB1 := Aside0.mk hb; have a1 : At w1 w.heap.size (tc T1).toArray 54 := far hb ((At.new w _ _).alloc _); obtain ⟨x0, x1, x2, x3, x4, x5, x6, x7, x8⟩ := tcells a1; have AT := Aside0.mk a1; have hs := hb.size; simp only [World.size_alloc] at hs; have hl1 : w.heap.size < w1.heap.size := by omega
  have hn1 : w.heap.size ≠ w1.heap.size := by omega
  have hn1' : w1.heap.size ≠ w.heap.size := by omega
  clear a1 hb
  dsimp only [T1] at x0 x1 x2 x3 x4 x5 x6 x7 x8
  dsimp only [vc]
  go_wp2_with fail
  go_at_call 59; with_reducible refine (less_ 4 5 (.inl rfl) (.inr rfl) _).mono ?_
  rintro e w2 ⟨rfl, hb⟩; have hB2 := Aside0.mk hb; have a1 : At w2 w.heap.size (tc T1).toArray 54 := far hb (AT.out.alloc _); have b1 : At w2 w1.heap.size (vc 4) 43 := far hb (At.new w1 _ _); clear x0 x1 x2 x3 x4 x5 x6 x7 x8; obtain ⟨x0, x1, x2, x3, x4, x5, x6, x7, x8⟩ := tcells a1; obtain ⟨y0, y1, y2, y3, y4⟩ := vcells b1; have AT2 := Aside0.mk a1; have BT2 := Aside0.mk b1; clear a1 b1 hb
  dsimp only [T1] at x0 x1 x2 x3 x4 x5 x6 x7 x8
  go_wp2_with fail
  go_at_call 59; with_reducible refine (less_ 5 4 (.inr rfl) (.inl rfl) _).mono ?_
  rintro e w3 ⟨rfl, hb⟩; have hB3 := Aside0.mk hb; have a1 : At w3 w.heap.size (tc T1).toArray 54 := far hb AT2.out; have b1 : At w3 w1.heap.size (vc 4) 43 := far hb BT2.out; clear x0 x1 x2 x3 x4 x5 x6 x7 x8 y0 y1 y2 y3 y4; obtain ⟨x0, x1, x2, x3, x4, x5, x6, x7, x8⟩ := tcells a1; obtain ⟨y0, y1, y2, y3, y4⟩ := vcells b1; clear a1 b1 hb
  dsimp only [T1] at x0 x1 x2 x3 x4 x5 x6 x7 x8
  go_wp2_with fail
  go_ret
  refine ⟨rfl, ?_⟩
  have h1 := hB1.out.size
  have h2 := hB2.out.size
  simp only [World.size_alloc] at h1 h2
  exact (((Below.refl _ w).alloc (Nat.le_refl _) _).alloc (by simp) _).trans ((Below.less hB1.out (by simp; omega)).trans (((Below.refl _ w1).alloc (by omega) _).trans ((Below.less hB2.out (by simp; omega)).trans (Below.less hB3.out (by omega)))))
set_option maxHeartbeats 8000000 in
set_option maxRecDepth 100000 in
theorem tells_b (A1 : Option Addr) (c1 c2 : Nat) (w : World) (hr : Kd.C k45 w A1 1 [U1]) (hc : 1 ≤ c1) :
    Calls Try.prog 34 #[.agg (tc T2).toArray, .agg #[.slice A1 1 c1, .slice none 0 c2]] w fun e w' => e = .returned (.bool false) ∧ Below w.heap.size w w' := by
  have hu43 := Try.underlying43
  have hu48 := Try.underlying48
  have hu54 := Try.underlying54
  have HR := Aside0.mk hr
  clear hr
  unfold tc T2 vz
  go_enter Try.func34, Try.ntmps34
  go_wp2_with fail
  go_at_call 58; with_reducible refine (get_b_calls A1 c1 c2 _ ?hC hc).mono ?_
  case hC => exact Kd.C_alloc (Kd.C_alloc HR.out _) _
  rintro e w1 ⟨rfl, hb⟩; have hB1 := Aside0.mk hb; clear hb
  go_wp2_with fail
  go_ret
  refine ⟨rfl, ?_⟩
  have h1 := hB1.out.size
  simp only [World.size_alloc] at h1
  exact (((Below.refl _ w).alloc (Nat.le_refl _) _).alloc (by simp) _).trans ((Below.less hB1.out (by simp; omega)).trans ((Below.refl _ w1).alloc (by omega) _))
end Go.Proofs.Ytmgljgmieomngaa.Lv
namespace Go.Proofs.Ytmgljgmieomngaa.Lv
open Go Go.RowKit Go.Proofs.YtmgljgmieomngaaW.PrintWords Go.Proofs.YtmgljgmieomngaaW.PrintLast Go.Proofs.YtmgljgmieomngaaW.PrintMore Go.Proofs.Ytmgljgmieomngaa.Q
attribute [local go_sem] run_store_complex run_store_float isSome_setCell
set_option linter.unusedVariables false
set_option linter.unusedSimpArgs false
set_option maxRecDepth 100000 in
theorem echeck_ : event_Check.f 20 [U1] [] = some 0 := by kernel_rfl
theorem echeck_calls (A1 : Option Addr) (c1 c2 : Nat) (w : World) (hr : Kd.C k45 w A1 1 [U1]) (hc : 1 ≤ c1) :
    Calls Try.prog 33 #[.agg #[.slice A1 1 c1, .slice none 0 c2]] w fun e w' => e = .returned (.int .i64 0) ∧ Below w.heap.size w w' :=
  event_Check.calls 20 A1 c1 [U1] none c2 [] 0 w hr hc (Kd.C_nil _ _) (Nat.zero_le _) echeck_
theorem pcheck_calls (A : Option Addr) (c : Nat) (w : World) (hr : Kd.C k54 w A 4 [T1, T2, T3, T4]) (hc : 4 ≤ c) :
    Calls Try.prog 11 #[.slice A 4 c] w fun e w' => e = .returned (.int .i64 0) ∧ Below w.heap.size w w' :=
  pred_Check.calls 20 A c [T1, T2, T3, T4] 0 w hr hc check_
theorem tat0 {W : World} {ad : Addr} (h : Kd.C k54 W (some ad) 4 [T1, T2, T3, T4]) : W.cell? ad = some (.int .i64 3) ∧ W.cell? ⟨ad.block, ad.off + 1, none⟩ = some (.string (⟨#[97]⟩ : ByteArray)) ∧ W.cell? ⟨ad.block, ad.off + 2, none⟩ = some (.int .i64 5) ∧ W.cell? ⟨ad.block, ad.off + 3, none⟩ = some (.int .i64 1) ∧ W.cell? ⟨ad.block, ad.off + 4, none⟩ = some (.int .i64 5) ∧ W.cell? ⟨ad.block, ad.off + 5, none⟩ = some (.string (⟨#[]⟩ : ByteArray)) ∧ W.cell? ⟨ad.block, ad.off + 6, none⟩ = some (.bool false) ∧ W.cell? ⟨ad.block, ad.off + 7, none⟩ = some (.complex .f64 0 0) ∧ W.cell? ⟨ad.block, ad.off + 8, none⟩ = some (.int .i64 0) := by
  obtain ⟨ad', e', h⟩ := at_T54 h 0 (by decide) (by decide)
  cases e'
  exact h
theorem tat1 {W : World} {ad : Addr} (h : Kd.C k54 W (some ad) 4 [T1, T2, T3, T4]) : W.cell? ⟨ad.block, ad.off + 9, none⟩ = some (.int .i64 3) ∧ W.cell? ⟨ad.block, ad.off + 9 + 1, none⟩ = some (.string (⟨#[98]⟩ : ByteArray)) ∧ W.cell? ⟨ad.block, ad.off + 9 + 2, none⟩ = some (.int .i64 1) ∧ W.cell? ⟨ad.block, ad.off + 9 + 3, none⟩ = some (.int .i64 0) ∧ W.cell? ⟨ad.block, ad.off + 9 + 4, none⟩ = some (.int .i64 0) ∧ W.cell? ⟨ad.block, ad.off + 9 + 5, none⟩ = some (.string (⟨#[]⟩ : ByteArray)) ∧ W.cell? ⟨ad.block, ad.off + 9 + 6, none⟩ = some (.bool false) ∧ W.cell? ⟨ad.block, ad.off + 9 + 7, none⟩ = some (.complex .f64 0 0) ∧ W.cell? ⟨ad.block, ad.off + 9 + 8, none⟩ = some (.int .i64 0) := by
  obtain ⟨ad', e', h⟩ := at_T54 h 1 (by decide) (by decide)
  cases e'
  exact h
theorem tat2 {W : World} {ad : Addr} (h : Kd.C k54 W (some ad) 4 [T1, T2, T3, T4]) : W.cell? ⟨ad.block, ad.off + 18, none⟩ = some (.int .i64 4) ∧ W.cell? ⟨ad.block, ad.off + 18 + 1, none⟩ = some (.string (⟨#[]⟩ : ByteArray)) ∧ W.cell? ⟨ad.block, ad.off + 18 + 2, none⟩ = some (.int .i64 0) ∧ W.cell? ⟨ad.block, ad.off + 18 + 3, none⟩ = some (.int .i64 0) ∧ W.cell? ⟨ad.block, ad.off + 18 + 4, none⟩ = some (.int .i64 0) ∧ W.cell? ⟨ad.block, ad.off + 18 + 5, none⟩ = some (.string (⟨#[]⟩ : ByteArray)) ∧ W.cell? ⟨ad.block, ad.off + 18 + 6, none⟩ = some (.bool false) ∧ W.cell? ⟨ad.block, ad.off + 18 + 7, none⟩ = some (.complex .f64 0 0) ∧ W.cell? ⟨ad.block, ad.off + 18 + 8, none⟩ = some (.int .i64 0) := by
  obtain ⟨ad', e', h⟩ := at_T54 h 2 (by decide) (by decide)
  cases e'
  exact h
theorem tat3 {W : World} {ad : Addr} (h : Kd.C k54 W (some ad) 4 [T1, T2, T3, T4]) : W.cell? ⟨ad.block, ad.off + 27, none⟩ = some (.int .i64 5) ∧ W.cell? ⟨ad.block, ad.off + 27 + 1, none⟩ = some (.string (⟨#[]⟩ : ByteArray)) ∧ W.cell? ⟨ad.block, ad.off + 27 + 2, none⟩ = some (.int .i64 0) ∧ W.cell? ⟨ad.block, ad.off + 27 + 3, none⟩ = some (.int .i64 0) ∧ W.cell? ⟨ad.block, ad.off + 27 + 4, none⟩ = some (.int .i64 0) ∧ W.cell? ⟨ad.block, ad.off + 27 + 5, none⟩ = some (.string (⟨#[]⟩ : ByteArray)) ∧ W.cell? ⟨ad.block, ad.off + 27 + 6, none⟩ = some (.bool false) ∧ W.cell? ⟨ad.block, ad.off + 27 + 7, none⟩ = some (.complex .f64 0 0) ∧ W.cell? ⟨ad.block, ad.off + 27 + 8, none⟩ = some (.int .i64 0) := by
  obtain ⟨ad', e', h⟩ := at_T54 h 3 (by decide) (by decide)
  cases e'
  exact h
theorem tells_a2 (A1 : Option Addr) (c1 c2 : Nat) (w : World) (hr : Kd.C k45 w A1 1 [U1]) (hc : 1 ≤ c1) :
    Calls Try.prog 34 #[.agg #[.int .i64 3, .string (⟨#[97]⟩ : ByteArray), .int .i64 5, .int .i64 1, .int .i64 5, .string (⟨#[]⟩ : ByteArray), .bool false, .complex .f64 0 0, .int .i64 0], .agg #[.slice A1 1 c1, .slice none 0 c2]] w fun e w' => e = .returned (.bool true) ∧ Below w.heap.size w w' := tells_a A1 c1 c2 w hr hc
theorem tells_b2 (A1 : Option Addr) (c1 c2 : Nat) (w : World) (hr : Kd.C k45 w A1 1 [U1]) (hc : 1 ≤ c1) :
    Calls Try.prog 34 #[.agg #[.int .i64 3, .string (⟨#[98]⟩ : ByteArray), .int .i64 1, .int .i64 0, .int .i64 0, .string (⟨#[]⟩ : ByteArray), .bool false, .complex .f64 0 0, .int .i64 0], .agg #[.slice A1 1 c1, .slice none 0 c2]] w fun e w' => e = .returned (.bool false) ∧ Below w.heap.size w w' := tells_b A1 c1 c2 w hr hc
theorem fold_rounds {P : Program} {c : Code} {Q : Exit → Act → World → Prop} {n : Nat} {a : Act} {W : World} (F : World → Prop) (h : F W) (k : ∀ X, F X → Code.rounds P c Q n a X) : Code.rounds P c Q n a W := k W h
set_option maxHeartbeats 8000000 in
set_option maxRecDepth 100000 in
theorem eval_ (A : Option Addr) (c : Nat) (A1 : Option Addr) (c1 c2 : Nat) (w : World) (hr : Kd.C k54 w A 4 [T1, T2, T3, T4]) (hc : 4 ≤ c) (hr1 : Kd.C k45 w A1 1 [U1]) (hc1 : 1 ≤ c1) :
    Calls Try.prog 15 #[.slice A 4 c, .agg #[.slice A1 1 c1, .slice none 0 c2]] w fun e w' => e = .returned (.tuple #[.bool true, .int .i64 0]) ∧ Below w.heap.size w w' := by
  have hu43 := Try.underlying43
  have hu48 := Try.underlying48
  have hu54 := Try.underlying54
  obtain ⟨ad, rfl, -⟩ := at_T54 hr 0 (by decide) (by decide)
  have HR := Aside0.mk hr
  have HR1 := Aside0.mk hr1
  clear hr hr1
  go_enter Try.func15, Try.ntmps15
  go_wp2_with fail
  go_at_call 11; with_reducible refine (pcheck_calls (some ad) c _ ?hC hc).mono ?_
  case hC => exact Kd.C_alloc HR.out _
  rintro e w1 ⟨rfl, hb⟩
  have HB := Aside0.mk (((Below.refl _ w).alloc (Nat.le_refl _) _).trans (Below.less hb (by simp)))
  have HE := Aside0.mk (show At w1 w.heap.size #[.slice A1 1 c1, .slice none 0 c2] 48 from far hb (At.new w _ _))
  have e0 : w1.cell? ⟨w.heap.size, 0, none⟩ = some (.slice A1 1 c1) := (blk_cell HE.out 0).trans rfl
  have e1 : w1.cell? ⟨w.heap.size, 1, none⟩ = some (.slice none 0 c2) := (blk_cell HE.out 1).trans rfl
  clear hb
  go_wp2_with fail
  go_at_call 33; with_reducible refine (echeck_calls A1 c1 c2 _ ?hC hc1).mono ?_
  case hC => exact Kd.C_below HR1.out HB.out
  rintro e w2 ⟨rfl, hb⟩
  have HB2 := Aside0.mk (HB.out.trans (Below.less hb HB.out.size))
  have HE2 := Aside0.mk (far hb HE.out)
  clear hb e0 e1 HE HB
  go_wp2_with fail
  refine wp_loop_rounds 5 ?_
  rw [rounds_succ]
  obtain ⟨t0, t1, t2, t3, t4, t5, t6, t7, t8⟩ := tat0 (Kd.C_below HR.out HB2.out)
  have l2 := HE2.out.lt
  have e0 : w2.cell? ⟨w.heap.size, 0, none⟩ = some (.slice A1 1 c1) := (blk_cell HE2.out 0).trans rfl
  have e1 : w2.cell? ⟨w.heap.size, 1, none⟩ = some (.slice none 0 c2) := (blk_cell HE2.out 1).trans rfl
  go_wp2_with fail
  go_at_call 34; with_reducible refine (tells_a2 A1 c1 c2 _ ?hC hc1).mono ?_
  case hC => exact Kd.C_alloc (Kd.C_below HR1.out HB2.out) _
  rintro e w3 ⟨rfl, hb⟩
  have HB3 := Aside0.mk (HB2.out.trans (((Below.refl _ w2).alloc HB2.out.size _).trans (Below.less hb (by have := HB2.out.size; simp; omega))))
  have HE3 := Aside0.mk (far hb (HE2.out.alloc _))
  clear hb t0 t1 t2 t3 t4 t5 t6 t7 t8 e0 e1 l2 HE2 HB2
  go_wp2_with ((with_reducible refine gate_builtin (b := .append) (xs := #[.tmp 44, .tmp 48]) rfl ?_); at_builtin; refine Kd.R_append Kd.bool (w0 := w3) (W := w3) w.heap.size rfl (.tmp 44) (.tmp 48) 80 4 (.bool false) 1 rfl Try.underlying80 info4 rfl (by decide) (by decide) (.slice none 0 0) [] true [.bool true] (fun _ => True) (fun _ => False) rfl rfl rfl (fun _ hk => hk.elim) (fun _ _ => trivial) (Kd.R_nil _ _ _ _ _) (Below.refl _ _) HB3.out.size (by decide) ?_; intro v4 w4 ho hb hg hat; obtain ⟨q4, n4, rfl, hq4⟩ := Kd.R_form ho (by decide); have HO4 := Aside0.mk ho; have HB4 := Aside0.mk (HB3.out.trans hb); have HE4 := Aside0.mk (At.grown HE3.out hg (by simp [Value.ownBlock])); clear ho hb hg hat hq4 HB3 HE3)
  (try simp only [Exit.then, Exit.jump])
  rw [rounds_succ]
  obtain ⟨t0, t1, t2, t3, t4, t5, t6, t7, t8⟩ := tat1 (Kd.C_below HR.out HB4.out)
  have l4 := HE4.out.lt
  have e0 : w4.cell? ⟨w.heap.size, 0, none⟩ = some (.slice A1 1 c1) := (blk_cell HE4.out 0).trans rfl
  have e1 : w4.cell? ⟨w.heap.size, 1, none⟩ = some (.slice none 0 c2) := (blk_cell HE4.out 1).trans rfl
  go_wp2_with fail
  go_at_call 34; with_reducible refine (tells_b2 A1 c1 c2 _ ?hC hc1).mono ?_
  case hC => exact Kd.C_alloc (Kd.C_below HR1.out HB4.out) _
  rintro e w5 ⟨rfl, hb⟩
  have HB5 := Aside0.mk (HB4.out.trans (((Below.refl _ w4).alloc HB4.out.size _).trans (Below.less hb (by have := HB4.out.size; simp; omega))))
  have HO5 := Aside0.mk (Kd.R_below (Kd.R_alloc HO4.out _) hb)
  clear hb t0 t1 t2 t3 t4 t5 t6 t7 t8 e0 e1 l4 HE4 HB4 HO4
  go_wp2_with ((with_reducible refine gate_builtin (b := .append) (xs := #[.tmp 44, .tmp 48]) rfl ?_); at_builtin; refine Kd.R_append Kd.bool (w0 := w5) (W := w5) w.heap.size rfl (.tmp 44) (.tmp 48) 80 4 (.bool false) 1 rfl Try.underlying80 info4 rfl (by decide) (by decide) (.slice (some ⟨q4, 0, none⟩) 1 n4) [true] false [.bool false] (fun _ => True) (fun _ => False) rfl rfl rfl (fun _ hk => hk.elim) (fun _ _ => trivial) HO5.out (Below.refl _ _) HB5.out.size (by decide) ?_; intro v6 w6 ho hb hg hat; obtain ⟨q6, n6, rfl, hq6, hq6', -⟩ := Kd.R_form ho (by decide); have hn6 := (Kd.R_reads' ho).2.1; have HO6 := Aside0.mk ho; have HB6 := Aside0.mk (HB5.out.trans hb); clear ho hb hg hat HB5 HO5)
  (try simp only [Exit.then, Exit.jump])
  rw [rounds_succ]
  obtain ⟨t0, t1, t2, t3, t4, t5, t6, t7, t8⟩ := tat2 (Kd.C_below HR.out HB6.out)
  obtain ⟨b1, f1⟩ := Kd.R_cell false HO6.out 1 (by decide) (by decide)
  obtain ⟨b0, f0⟩ := Kd.R_cell false HO6.out 0 (by decide) (by decide)
  replace b1 : w6.cell? ⟨q6, 1, none⟩ = some (.bool false) := b1
  replace f1 : w6.frozen? ⟨q6, 1, none⟩ = false := f1
  replace b0 : w6.cell? ⟨q6, 0, none⟩ = some (.bool true) := b0
  replace f0 : w6.frozen? ⟨q6, 0, none⟩ = false := f0
  have hnq : q6 ≠ w6.heap.size := by omega
  have hnq' : w6.heap.size ≠ q6 := by omega
  go_wp2_with fail
  (try simp only [Exit.then, Exit.jump])
  have hs6 : ∀ b, Below w.heap.size w (w6.setCell ⟨q6, 1, none⟩ (.bool b)) := fun b => HB6.out.setCell (p := ⟨q6, 1, none⟩) hq6 _
  refine fold_rounds (fun X => Below w.heap.size w X ∧ Kd.R Kd.bool 4 X w.heap.size (fun _ => True) (.slice (some ⟨q6, 0, none⟩) 2 n6) [true, true]) ⟨(hs6 true).alloc (hs6 true).size _, Kd.R_alloc (Kd.R_put HO6.out 1 true).1 _⟩ ?_
  rintro w7 ⟨hb7, ho7⟩
  clear b0 f0 b1 f1 t0 t1 t2 t3 t4 t5 t6 t7 t8 hnq hnq' HO6
  have lt7 := Kd.R_lt ho7 q6 rfl
  have hnq : q6 ≠ w7.heap.size := by omega
  have hnq' : w7.heap.size ≠ q6 := by omega
  obtain ⟨t0, t1, t2, t3, t4, t5, t6, t7, t8⟩ := tat3 (Kd.C_below HR.out hb7)
  obtain ⟨b1, f1⟩ := Kd.R_cell false ho7 1 (by decide) (by decide)
  obtain ⟨b0, f0⟩ := Kd.R_cell false ho7 0 (by decide) (by decide)
  replace b1 : w7.cell? ⟨q6, 1, none⟩ = some (.bool true) := b1
  replace f1 : w7.frozen? ⟨q6, 1, none⟩ = false := f1
  replace b0 : w7.cell? ⟨q6, 0, none⟩ = some (.bool true) := b0
  replace f0 : w7.frozen? ⟨q6, 0, none⟩ = false := f0
  have HB7 := Aside0.mk hb7
  clear hb7 ho7
  have hn61 : (1 : Int) ≤ (n6 : Int) := by have : 2 ≤ n6 := hn6; omega
  have hn62 : 1 ≤ n6 := by omega
  have hn60 : n6 ≠ 0 := by omega
  rw [rounds_succ]
  go_wp2_with fail
  (try simp only [Exit.then, Exit.jump])
  rw [rounds_succ]
  go_wp2_with fail
  (try simp only [Exit.then, Exit.jump])
  go_wp2_with fail
  go_ret2
  exact ⟨rfl, (HB7.out.setCell (p := ⟨q6, 0, none⟩) hq6 _).alloc (HB7.out.setCell (p := ⟨q6, 0, none⟩) hq6 (.bool true)).size _⟩
end Go.Proofs.Ytmgljgmieomngaa.Lv
namespace Go.Proofs.Ytmgljgmieomngaa.Lv
open Go Go.RowKit Go.Proofs.YtmgljgmieomngaaW.PrintWords Go.Proofs.YtmgljgmieomngaaW.PrintLast Go.Proofs.YtmgljgmieomngaaW.PrintMore Go.Proofs.Ytmgljgmieomngaa.Q
attribute [local go_sem] run_store_complex run_store_float isSome_setCell
set_option linter.unusedVariables false
set_option linter.unusedSimpArgs false
theorem row_U1 {W : World} {b : Nat} (h : At W b #[.string (⟨#[97]⟩ : ByteArray), .int .i64 1, .int .i64 4, .string (⟨#[]⟩ : ByteArray), .bool false, .complex .f64 0 0] 45) : Kd.C k45 W (some ⟨b, 0, none⟩) 1 [U1] := by
  refine ⟨rfl, by decide, fun _ => ⟨⟨b, 0, none⟩, rfl, fun j p hj => ?_⟩⟩
  cases j with
  | zero =>
    cases hj
    refine ⟨_, rfl, k45_mk W U1, fun i u hu => ?_⟩
    have e : W.cell? ⟨b, i, none⟩ = some u := (blk_cell h i).trans (by simpa [U1] using hu)
    rw [← e]
    simp only [Addr.add, Nat.zero_mul, Nat.zero_add]
    split
    · next h0 => subst h0; rfl
    · rfl
  | succ j => simp at hj
set_option maxHeartbeats 8000000 in
set_option maxRecDepth 100000 in
theorem live_ (w : World) : Calls Try.prog 7 #[] w fun e w' => e = .returned (.bool true) ∧ Below w.heap.size w w' := by
  have hu43 := Try.underlying43
  have hu48 := Try.underlying48
  have hu54 := Try.underlying54
  have hu45 := Try.underlying45
  go_enter Try.func7, Try.ntmps7
  go_wp2_with fail
  go_at_call 8; with_reducible refine (parse_ _).mono ?_
  rintro e w1 ⟨v, rfl, ho, hb⟩
  obtain ⟨q, n1, rfl, hq, hq', -⟩ := Kd.R_form ho (by decide)
  have HC : Aside0 (Kd.C k54 w1 (some ⟨q, 0, none⟩) 4 [T1, T2, T3, T4]) := Aside0.mk (Kd.R_reads' ho).2.2
  have hn : 4 ≤ n1 := (Kd.R_reads' ho).2.1
  have HB := Aside0.mk hb
  clear ho hb
  go_wp2_with fail
  go_at_call 15; with_reducible refine (eval_ (some ⟨q, 0, none⟩) n1 (some ⟨w1.heap.size, 0, none⟩) 1 0 _ ?h1 hn ?h2 (by decide)).mono ?_
  case h1 => exact Kd.C_alloc (Kd.C_alloc HC.out _) _
  case h2 => exact Kd.C_alloc (row_U1 (At.new w1 _ _)) _
  rintro e w2 ⟨rfl, hb⟩
  have hb2 : Below w1.heap.size w1 w2 := (((Below.refl _ w1).alloc (Nat.le_refl _) _).alloc (by simp) _).trans (Below.less hb (by simp; omega))
  have HB2 := Aside0.mk hb2
  obtain ⟨t0, t1, t2, t3, t4, t5, t6, t7, t8⟩ := tat0 (Kd.C_below HC.out hb2)
  obtain ⟨s0, s1, s2, s3, s4, s5, s6, s7, s8⟩ := tat2 (Kd.C_below HC.out hb2)
  dsimp only at t0 t1 t2 t3 t4 t5 t6 t7 t8 s0 s1 s2 s3 s4 s5 s6 s7 s8
  simp only [Nat.zero_add] at t1 t2 t3 t4 t5 t6 t7 t8 s0
  clear hb hb2
  go_wp2_with fail
  go_ret
  exact ⟨rfl, HB.out.trans (Below.less HB2.out HB.out.size)⟩
end Go.Proofs.Ytmgljgmieomngaa.Lv
