/- Functions of the program as Lean functions, each with its walk: that the Go code comes to just these answers, whatever the memory. Written by a program of this claim (wip/tools). -/
import Derived.Test.YthcfjkbegadpjaaQx0
import Derived.Test.YthcfjkbegadpjaaQx40
namespace Go.Proofs.Ythcfjkbegadpjaa.Q
open Go.RowKit Go.Proofs.YthcfjkbegadpjaaW.PrintWords Go.Proofs.YthcfjkbegadpjaaW.PrintLast Go.Proofs.YthcfjkbegadpjaaW.PrintMore
attribute [local go_sem] run_ftoi isSome_setCell bytesLess_total run_store_complex run_store_float max2_int min2_int max_two min_two max_three min_three max_four min_four   -- for this text's walks alone
set_option linter.unusedVariables false
set_option linter.unusedSimpArgs false

/-! ### grapevineref03_Plain: function 39 -/
mutual
def grapevineref03_Plain.j0 : Nat → Int → Int → ByteArray → Bool → Cx → Int → Int → ByteArray → Bool → Cx → Option (Int × Int × ByteArray × Bool × Cx)
 | 0, _, _, _, _, _, _, _, _, _, _ => none
 | k + 1, x399000, x399001, x399002, x399003, x399004, x401000, x401001, x401002, x401003, x401004 => if x399000 = 2 then (grapevineref03_Plain.j1 k x399000 x399001 x399002 x399003 x399004 x401000 x401001 x399002 x401003 x401004) else (grapevineref03_Plain.j1 k x399000 x399001 x399002 x399003 x399004 x401000 x401001 x401002 x401003 x401004)
def grapevineref03_Plain.j1 : Nat → Int → Int → ByteArray → Bool → Cx → Int → Int → ByteArray → Bool → Cx → Option (Int × Int × ByteArray × Bool × Cx)
 | 0, _, _, _, _, _, _, _, _, _, _ => none
 | k + 1, x399000, x399001, x399002, x399003, x399004, x401000, x401001, x401002, x401003, x401004 => if x399000 = 3 then (if x399000 = 4 then ((grapevineref03_Parts.f x399000 x399001 x399002 x399003 x399004).bind fun bt401 => (some (x401000, x401001, x401002, x399003, (⟨floatOfInt .f64 bt401.1, floatOfInt .f64 bt401.2.1⟩ : Cx)))) else (some (x401000, x401001, x401002, x399003, x401004))) else (if x399000 = 4 then ((grapevineref03_Parts.f x399000 x399001 x399002 x399003 x399004).bind fun bt404 => (some (x401000, x401001, x401002, x401003, (⟨floatOfInt .f64 bt404.1, floatOfInt .f64 bt404.2.1⟩ : Cx)))) else (some (x401000, x401001, x401002, x401003, x401004)))
end
def grapevineref03_Plain.f (k : Nat) (a0_0 : Int) (a0_1 : Int) (a0_2 : ByteArray) (a0_3 : Bool) (a0_4 : Cx) : Option (Int × Int × ByteArray × Bool × Cx) := if a0_0 = 1 then (grapevineref03_Plain.j0 k a0_0 a0_1 a0_2 a0_3 a0_4 a0_0 a0_1 (⟨#[]⟩ : ByteArray) false (⟨0, 0⟩ : Cx)) else (grapevineref03_Plain.j0 k a0_0 a0_1 a0_2 a0_3 a0_4 a0_0 0 (⟨#[]⟩ : ByteArray) false (⟨0, 0⟩ : Cx))
theorem grapevineref03_Plain.mono_l : ∀ k, (∀ y0 y1 y2 y3 y4 y5 y6 y7 y8 y9, LeO (grapevineref03_Plain.j0 k y0 y1 y2 y3 y4 y5 y6 y7 y8 y9) (grapevineref03_Plain.j0 (k + 1) y0 y1 y2 y3 y4 y5 y6 y7 y8 y9)) ∧ (∀ y0 y1 y2 y3 y4 y5 y6 y7 y8 y9, LeO (grapevineref03_Plain.j1 k y0 y1 y2 y3 y4 y5 y6 y7 y8 y9) (grapevineref03_Plain.j1 (k + 1) y0 y1 y2 y3 y4 y5 y6 y7 y8 y9))
 | 0 => ⟨fun _ _ _ _ _ _ _ _ _ _ r h => by simp [grapevineref03_Plain.j0] at h, fun _ _ _ _ _ _ _ _ _ _ r h => by simp [grapevineref03_Plain.j1] at h⟩
 | k + 1 => by
  obtain ⟨ih0, ih1⟩ := grapevineref03_Plain.mono_l k
  refine ⟨?_, ?_⟩
  ·intro y0 y1 y2 y3 y4 y5 y6 y7 y8 y9
   unfold grapevineref03_Plain.j0
   repeat' first
   | (with_reducible exact ih0 _ _ _ _ _ _ _ _ _ _)
   | (with_reducible exact ih1 _ _ _ _ _ _ _ _ _ _)
   | (with_reducible exact LeO.refl _)
   | (with_reducible exact LeO.none _)
   | (with_reducible refine LeO.ite ?_ ?_)
   | (with_reducible refine LeO.bind ?_ (fun _ => ?_))
   | exact ih0 _ _ _ _ _ _ _ _ _ _
   | exact ih1 _ _ _ _ _ _ _ _ _ _
   | exact LeO.none _
   | refine LeO.ite ?_ ?_
   | refine LeO.bind ?_ (fun _ => ?_)
  ·intro y0 y1 y2 y3 y4 y5 y6 y7 y8 y9
   unfold grapevineref03_Plain.j1
   repeat' first
   | (with_reducible exact ih0 _ _ _ _ _ _ _ _ _ _)
   | (with_reducible exact ih1 _ _ _ _ _ _ _ _ _ _)
   | (with_reducible exact LeO.refl _)
   | (with_reducible exact LeO.none _)
   | (with_reducible refine LeO.ite ?_ ?_)
   | (with_reducible refine LeO.bind ?_ (fun _ => ?_))
   | exact ih0 _ _ _ _ _ _ _ _ _ _
   | exact ih1 _ _ _ _ _ _ _ _ _ _
   | exact LeO.none _
   | refine LeO.ite ?_ ?_
   | refine LeO.bind ?_ (fun _ => ?_)
theorem grapevineref03_Plain.mono : ∀ a0 a1 a2 a3 a4 k, LeO (grapevineref03_Plain.f k a0 a1 a2 a3 a4) (grapevineref03_Plain.f (k + 1) a0 a1 a2 a3 a4) := by
 intro a0 a1 a2 a3 a4 k
 obtain ⟨ih0, ih1⟩ := grapevineref03_Plain.mono_l k
 unfold grapevineref03_Plain.f
 repeat' first
   | (with_reducible exact ih0 _ _ _ _ _ _ _ _ _ _)
   | (with_reducible exact ih1 _ _ _ _ _ _ _ _ _ _)
   | (with_reducible exact LeO.refl _)
   | (with_reducible exact LeO.none _)
   | (with_reducible refine LeO.ite ?_ ?_)
   | (with_reducible refine LeO.bind ?_ (fun _ => ?_))
   | exact ih0 _ _ _ _ _ _ _ _ _ _
   | exact ih1 _ _ _ _ _ _ _ _ _ _
   | exact LeO.none _
   | refine LeO.ite ?_ ?_
   | refine LeO.bind ?_ (fun _ => ?_)
set_option maxHeartbeats 8000000 in
set_option maxRecDepth 100000 in
theorem grapevineref03_Plain.calls (k : Nat) (a0_0 : Int) (a0_1 : Int) (a0_2 : ByteArray) (a0_3 : Bool) (a0_4 : Cx) (r1 : Int) (r2 : Int) (r3 : ByteArray) (r4 : Bool) (r5 : Cx) (w : World) (h : grapevineref03_Plain.f k a0_0 a0_1 a0_2 a0_3 a0_4 = some (r1, r2, r3, r4, r5)) :
  Calls Try.prog 39 #[.agg #[.int .i64 a0_0, .int .i64 a0_1, .string a0_2, .bool a0_3, .complex .f64 a0_4.re a0_4.im]] w fun e w' => e = .returned (.agg #[.int .i64 r1, .int .i64 r2, .string r3, .bool r4, .complex .f64 r5.re r5.im]) ∧ Below w.heap.size w w' := by
 have hu44 := Try.underlying44
 have HB := Aside0.mk (Below.refl w.heap.size w)
 have H : (if a0_0 = 1 then (grapevineref03_Plain.j0 k a0_0 a0_1 a0_2 a0_3 a0_4 a0_0 a0_1 (⟨#[]⟩ : ByteArray) false (⟨0, 0⟩ : Cx)) else (grapevineref03_Plain.j0 k a0_0 a0_1 a0_2 a0_3 a0_4 a0_0 0 (⟨#[]⟩ : ByteArray) false (⟨0, 0⟩ : Cx))) = some (r1, r2, r3, r4, r5) := h
 clear h
 have HC2 := Aside0.mk H
 clear H
 go_enter Try.func39, Try.ntmps39
 go_upto_if 12 with (first | ((with_reducible refine gate_dst (N := 1) rfl ?_); refine box_event ?hg (N := 1) ?hd (cs := #[.int .i64 a0_0, .int .i64 a0_1, .string a0_2, .bool a0_3, .complex .f64 a0_4.re a0_4.im]) (t := 44) ?hr ?_; (case hd => rfl); (case hg => rfl); (case hr => first | (go_simp; done) | (go_simp; rfl)); intro gb398 hg w3 hbox hb; have n0_ := Aside0.mk (below_step (by repeat (first | (with_reducible first | exact HB.out | apply below_alloc | apply pw_below_drewN | apply below_drew1) | exact HB.out)) hb); have n1_ := Aside0.mk (hbox); have n2_ := Aside0.mk ((by rw [hg]; exact (below_size (by repeat (first | (with_reducible first | exact HB.out | apply below_alloc | apply pw_below_drewN | apply below_drew1) | exact HB.out))) : w.heap.size ≤ gb398)); have n3_ := Aside0.mk ((by rw [hg]; exact (below_size (by repeat (first | (with_reducible first | exact HB.out | apply below_alloc | apply pw_below_drewN | apply below_drew1) | exact HB.out))) : w.heap.size ≤ gb398)); clear HB; have HB := n0_; have BK398 := n1_; have GW398 := n2_; have GE398 := n3_; clear n0_ n1_ n2_ n3_; clear hb hbox hg) | ((with_reducible refine gate_dst (N := 2) rfl ?_); refine box_event ?hg (N := 2) ?hd (cs := #[.int .i64 0, .int .i64 0, .string (⟨#[]⟩ : ByteArray), .bool false, .complex .f64 0 0]) (t := 44) ?hr ?_; (case hd => rfl); (case hg => rfl); (case hr => first | (go_simp; done) | (go_simp; rfl)); intro gb399 hg w4 hbox hb; have n0_ := Aside0.mk (blk_below (g := gb398) (o := .cells #[.int .i64 a0_0, .int .i64 a0_1, .string a0_2, .bool a0_3, .complex .f64 a0_4.re a0_4.im] 44 (0, 0)) (by (with_reducible repeat (first | refine blk_drewN ?_ _ | refine blk_drew ?_ | refine blk_alloc ?_ _)); exact BK398.out) hb); have n1_ := Aside0.mk (below_step (by repeat (first | (with_reducible first | exact HB.out | apply below_alloc | apply pw_below_drewN | apply below_drew1 | refine below_set ?_ GE398.out) | exact HB.out)) hb); have n2_ := Aside0.mk (hbox); have n3_ := Aside0.mk ((by rw [hg]; exact (below_size (by repeat (first | (with_reducible first | exact HB.out | apply below_alloc | apply pw_below_drewN | apply below_drew1 | refine below_set ?_ GE398.out) | exact HB.out))) : w.heap.size ≤ gb399)); have n4_ := Aside0.mk ((by rw [hg]; exact (below_size (by repeat (first | (with_reducible first | exact HB.out | apply below_alloc | apply pw_below_drewN | apply below_drew1 | refine below_set ?_ GE398.out) | exact HB.out))) : w.heap.size ≤ gb399)); have n5_ := Aside0.mk ((by rw [hg]; exact Nat.ne_of_lt (blk_lt (g := gb398) (o := .cells #[.int .i64 a0_0, .int .i64 a0_1, .string a0_2, .bool a0_3, .complex .f64 a0_4.re a0_4.im] 44 (0, 0)) (by (with_reducible repeat (first | refine blk_drewN ?_ _ | refine blk_drew ?_ | refine blk_alloc ?_ _)); exact BK398.out)) : gb398 ≠ gb399)); have n6_ := Aside0.mk ((by rw [hg]; exact Nat.ne_of_gt (blk_lt (g := gb398) (o := .cells #[.int .i64 a0_0, .int .i64 a0_1, .string a0_2, .bool a0_3, .complex .f64 a0_4.re a0_4.im] 44 (0, 0)) (by (with_reducible repeat (first | refine blk_drewN ?_ _ | refine blk_drew ?_ | refine blk_alloc ?_ _)); exact BK398.out)) : gb399 ≠ gb398)); clear BK398; clear HB; have BK398 := n0_; have HB := n1_; have BK399 := n2_; have GW399 := n3_; have GE399 := n4_; have NB398_399 := n5_; have NB399_398 := n6_; clear n0_ n1_ n2_ n3_ n4_ n5_ n6_; clear hb hbox hg; have hnb5 := NB398_399.out; have hnc5 := NB399_398.out; have hcz6_0 : w4.cell? ⟨gb398, 0, none⟩ = some (.int .i64 a0_0) := (blk_cell BK398.out 0).trans rfl; have hcz6_1 : w4.cell? ⟨gb398, 1, none⟩ = some (.int .i64 a0_1) := (blk_cell BK398.out 1).trans rfl; have hcz6_2 : w4.cell? ⟨gb398, 2, none⟩ = some (.string a0_2) := (blk_cell BK398.out 2).trans rfl; have hcz6_3 : w4.cell? ⟨gb398, 3, none⟩ = some (.bool a0_3) := (blk_cell BK398.out 3).trans rfl; have hcz6_4 : w4.cell? ⟨gb398, 4, none⟩ = some (.complex .f64 a0_4.re a0_4.im) := (blk_cell BK398.out 4).trans rfl; have hfz6_0 := blk_frozen BK398.out 0; have hfz6_1 := blk_frozen BK398.out 1; have hfz6_2 := blk_frozen BK398.out 2; have hfz6_3 := blk_frozen BK398.out 3; have hfz6_4 := blk_frozen BK398.out 4) | ((with_reducible refine gate_dst (N := 3) rfl ?_); refine box_event ?hg (N := 3) ?hd (cs := #[.int .i64 0, .int .i64 0, .string (⟨#[]⟩ : ByteArray), .bool false, .complex .f64 0 0]) (t := 44) ?hr ?_; (case hd => rfl); (case hg => rfl); (case hr => first | (go_simp; done) | (go_simp; rfl)); intro gb400 hg w7 hbox hb; have n0_ := Aside0.mk (blk_below (g := gb398) (o := .cells #[.int .i64 a0_0, .int .i64 a0_1, .string a0_2, .bool a0_3, .complex .f64 a0_4.re a0_4.im] 44 (0, 0)) (by (with_reducible repeat (first | refine blk_drewN ?_ _ | refine blk_drew ?_ | refine blk_alloc ?_ _)); exact BK398.out) hb); have n1_ := Aside0.mk (blk_below (g := gb399) (o := .cells #[.int .i64 0, .int .i64 0, .string (⟨#[]⟩ : ByteArray), .bool false, .complex .f64 0 0] 44 (0, 0)) (by (with_reducible repeat (first | refine blk_drewN ?_ _ | refine blk_drew ?_ | refine blk_alloc ?_ _)); exact BK399.out) hb); have n2_ := Aside0.mk (below_step (by repeat (first | (with_reducible first | exact HB.out | apply below_alloc | apply pw_below_drewN | apply below_drew1 | refine below_set ?_ GE398.out | refine below_set ?_ GE399.out) | exact HB.out)) hb); have n3_ := Aside0.mk (hbox); have n4_ := Aside0.mk ((by rw [hg]; exact (below_size (by repeat (first | (with_reducible first | exact HB.out | apply below_alloc | apply pw_below_drewN | apply below_drew1 | refine below_set ?_ GE398.out | refine below_set ?_ GE399.out) | exact HB.out))) : w.heap.size ≤ gb400)); have n5_ := Aside0.mk ((by rw [hg]; exact (below_size (by repeat (first | (with_reducible first | exact HB.out | apply below_alloc | apply pw_below_drewN | apply below_drew1 | refine below_set ?_ GE398.out | refine below_set ?_ GE399.out) | exact HB.out))) : w.heap.size ≤ gb400)); have n6_ := Aside0.mk ((by rw [hg]; exact Nat.ne_of_lt (blk_lt (g := gb398) (o := .cells #[.int .i64 a0_0, .int .i64 a0_1, .string a0_2, .bool a0_3, .complex .f64 a0_4.re a0_4.im] 44 (0, 0)) (by (with_reducible repeat (first | refine blk_drewN ?_ _ | refine blk_drew ?_ | refine blk_alloc ?_ _)); exact BK398.out)) : gb398 ≠ gb400)); have n7_ := Aside0.mk ((by rw [hg]; exact Nat.ne_of_gt (blk_lt (g := gb398) (o := .cells #[.int .i64 a0_0, .int .i64 a0_1, .string a0_2, .bool a0_3, .complex .f64 a0_4.re a0_4.im] 44 (0, 0)) (by (with_reducible repeat (first | refine blk_drewN ?_ _ | refine blk_drew ?_ | refine blk_alloc ?_ _)); exact BK398.out)) : gb400 ≠ gb398)); have n8_ := Aside0.mk ((by rw [hg]; exact Nat.ne_of_lt (blk_lt (g := gb399) (o := .cells #[.int .i64 0, .int .i64 0, .string (⟨#[]⟩ : ByteArray), .bool false, .complex .f64 0 0] 44 (0, 0)) (by (with_reducible repeat (first | refine blk_drewN ?_ _ | refine blk_drew ?_ | refine blk_alloc ?_ _)); exact BK399.out)) : gb399 ≠ gb400)); have n9_ := Aside0.mk ((by rw [hg]; exact Nat.ne_of_gt (blk_lt (g := gb399) (o := .cells #[.int .i64 0, .int .i64 0, .string (⟨#[]⟩ : ByteArray), .bool false, .complex .f64 0 0] 44 (0, 0)) (by (with_reducible repeat (first | refine blk_drewN ?_ _ | refine blk_drew ?_ | refine blk_alloc ?_ _)); exact BK399.out)) : gb400 ≠ gb399)); clear BK398; clear BK399; clear HB; have BK398 := n0_; have BK399 := n1_; have HB := n2_; have BK400 := n3_; have GW400 := n4_; have GE400 := n5_; have NB398_400 := n6_; have NB400_398 := n7_; have NB399_400 := n8_; have NB400_399 := n9_; clear n0_ n1_ n2_ n3_ n4_ n5_ n6_ n7_ n8_ n9_; clear hb hbox hg; have hnb8 := NB400_398.out; have hnc8 := NB398_400.out; have hnb9 := NB400_399.out; have hnc9 := NB399_400.out; have hcz10_0 : w7.cell? ⟨gb400, 0, none⟩ = some (.int .i64 0) := (blk_cell BK400.out 0).trans rfl; have hcz10_1 : w7.cell? ⟨gb400, 1, none⟩ = some (.int .i64 0) := (blk_cell BK400.out 1).trans rfl; have hcz10_2 : w7.cell? ⟨gb400, 2, none⟩ = some (.string (⟨#[]⟩ : ByteArray)) := (blk_cell BK400.out 2).trans rfl; have hcz10_3 : w7.cell? ⟨gb400, 3, none⟩ = some (.bool false) := (blk_cell BK400.out 3).trans rfl; have hcz10_4 : w7.cell? ⟨gb400, 4, none⟩ = some (.complex .f64 0 0) := (blk_cell BK400.out 4).trans rfl; have hfz10_0 := blk_frozen BK400.out 0; have hfz10_1 := blk_frozen BK400.out 1; have hfz10_2 := blk_frozen BK400.out 2; have hfz10_3 := blk_frozen BK400.out 3; have hfz10_4 := blk_frozen BK400.out 4; have hcz11_0 : w7.cell? ⟨gb398, 0, none⟩ = some (.int .i64 a0_0) := (blk_cell BK398.out 0).trans rfl; have hcz11_1 : w7.cell? ⟨gb398, 1, none⟩ = some (.int .i64 a0_1) := (blk_cell BK398.out 1).trans rfl; have hcz11_2 : w7.cell? ⟨gb398, 2, none⟩ = some (.string a0_2) := (blk_cell BK398.out 2).trans rfl; have hcz11_3 : w7.cell? ⟨gb398, 3, none⟩ = some (.bool a0_3) := (blk_cell BK398.out 3).trans rfl; have hcz11_4 : w7.cell? ⟨gb398, 4, none⟩ = some (.complex .f64 a0_4.re a0_4.im) := (blk_cell BK398.out 4).trans rfl; have hfz11_0 := blk_frozen BK398.out 0; have hfz11_1 := blk_frozen BK398.out 1; have hfz11_2 := blk_frozen BK398.out 2; have hfz11_3 := blk_frozen BK398.out 3; have hfz11_4 := blk_frozen BK398.out 4))
 (try simp only [Act.put, List.setIfInBounds_toArray, List.set_cons_zero, List.set_cons_succ])
 go_cut [] (fun wc => ∃ (kq : Nat) (x401001_1 : Int), Aside0 (grapevineref03_Plain.j0 kq a0_0 a0_1 a0_2 a0_3 a0_4 a0_0 x401001_1 (⟨#[]⟩ : ByteArray) false (⟨0, 0⟩ : Cx) = some (r1, r2, r3, r4, r5)) ∧ Aside0 (kq ≤ k) ∧ Aside0 (wc.heap[gb398]? = some (.cells #[.int .i64 a0_0, .int .i64 a0_1, .string a0_2, .bool a0_3, .complex .f64 a0_4.re a0_4.im] 44 (0, 0))) ∧ Aside0 (wc.heap[gb399]? = some (.cells #[.int .i64 0, .int .i64 0, .string (⟨#[]⟩ : ByteArray), .bool false, .complex .f64 0 0] 44 (0, 0))) ∧ Aside0 (wc.heap[gb400]? = some (.cells #[.int .i64 a0_0, .int .i64 x401001_1, .string (⟨#[]⟩ : ByteArray), .bool false, .complex .f64 0 0] 44 (0, 0))) ∧ Aside0 (Below w.heap.size w wc))
 case first =>
  have H := HC2.out
  clear HC2
  by_cases c12 : a0_0 = 1
  ·rw [if_pos c12] at H
   have c12b0 : (a0_0 == 1) = true := beq_iff_eq.mpr c12
   have c12b1 : (a0_0 != 1) = false := bne_eq_false_iff_eq.mpr c12
   clear c12
   (first | rw [c12b0] | (simp only [i64_w, i32_w]; rw [c12b0]) | skip)
   have H' := Aside0.mk H
   clear H
   have hnb13 := NB398_399.out
   have hnc13 := NB399_398.out
   have hnb14 := NB398_400.out
   have hnc14 := NB400_398.out
   have hcz15_0 : w7.cell? ⟨gb398, 0, none⟩ = some (.int .i64 a0_0) := (blk_cell BK398.out 0).trans rfl
   have hcz15_1 : w7.cell? ⟨gb398, 1, none⟩ = some (.int .i64 a0_1) := (blk_cell BK398.out 1).trans rfl
   have hcz15_2 : w7.cell? ⟨gb398, 2, none⟩ = some (.string a0_2) := (blk_cell BK398.out 2).trans rfl
   have hcz15_3 : w7.cell? ⟨gb398, 3, none⟩ = some (.bool a0_3) := (blk_cell BK398.out 3).trans rfl
   have hcz15_4 : w7.cell? ⟨gb398, 4, none⟩ = some (.complex .f64 a0_4.re a0_4.im) := (blk_cell BK398.out 4).trans rfl
   have hfz15_0 := blk_frozen BK398.out 0
   have hfz15_1 := blk_frozen BK398.out 1
   have hfz15_2 := blk_frozen BK398.out 2
   have hfz15_3 := blk_frozen BK398.out 3
   have hfz15_4 := blk_frozen BK398.out 4
   have hnb16 := NB400_399.out
   have hnc16 := NB399_400.out
   have hcz17_0 : w7.cell? ⟨gb400, 0, none⟩ = some (.int .i64 0) := (blk_cell BK400.out 0).trans rfl
   have hcz17_1 : w7.cell? ⟨gb400, 1, none⟩ = some (.int .i64 0) := (blk_cell BK400.out 1).trans rfl
   have hcz17_2 : w7.cell? ⟨gb400, 2, none⟩ = some (.string (⟨#[]⟩ : ByteArray)) := (blk_cell BK400.out 2).trans rfl
   have hcz17_3 : w7.cell? ⟨gb400, 3, none⟩ = some (.bool false) := (blk_cell BK400.out 3).trans rfl
   have hcz17_4 : w7.cell? ⟨gb400, 4, none⟩ = some (.complex .f64 0 0) := (blk_cell BK400.out 4).trans rfl
   have hfz17_0 := blk_frozen BK400.out 0
   have hfz17_1 := blk_frozen BK400.out 1
   have hfz17_2 := blk_frozen BK400.out 2
   have hfz17_3 := blk_frozen BK400.out 3
   have hfz17_4 := blk_frozen BK400.out 4
   go_wp2
   go_meet
   case rel => exact ⟨_, (a0_1), H', ⟨by first | omega | exact Nat.le_refl _⟩, ⟨by (with_reducible repeat (first | refine blk_drewN ?_ _ | refine blk_drew ?_ | refine blk_alloc ?_ _)); refine blk_far ?_ NB398_400.out _; (with_reducible repeat (first | refine blk_drewN ?_ _ | refine blk_drew ?_ | refine blk_alloc ?_ _)); refine blk_far ?_ NB398_400.out _; (with_reducible repeat (first | refine blk_drewN ?_ _ | refine blk_drew ?_ | refine blk_alloc ?_ _)); refine blk_far ?_ NB398_400.out _; (with_reducible repeat (first | refine blk_drewN ?_ _ | refine blk_drew ?_ | refine blk_alloc ?_ _)); refine blk_far ?_ NB398_400.out _; (with_reducible repeat (first | refine blk_drewN ?_ _ | refine blk_drew ?_ | refine blk_alloc ?_ _)); refine blk_far ?_ NB398_400.out _; (with_reducible repeat (first | refine blk_drewN ?_ _ | refine blk_drew ?_ | refine blk_alloc ?_ _)); refine blk_far ?_ NB398_400.out _; (with_reducible repeat (first | refine blk_drewN ?_ _ | refine blk_drew ?_ | refine blk_alloc ?_ _)); exact BK398.out⟩, ⟨by (with_reducible repeat (first | refine blk_drewN ?_ _ | refine blk_drew ?_ | refine blk_alloc ?_ _)); refine blk_far ?_ NB399_400.out _; (with_reducible repeat (first | refine blk_drewN ?_ _ | refine blk_drew ?_ | refine blk_alloc ?_ _)); refine blk_far ?_ NB399_400.out _; (with_reducible repeat (first | refine blk_drewN ?_ _ | refine blk_drew ?_ | refine blk_alloc ?_ _)); refine blk_far ?_ NB399_400.out _; (with_reducible repeat (first | refine blk_drewN ?_ _ | refine blk_drew ?_ | refine blk_alloc ?_ _)); refine blk_far ?_ NB399_400.out _; (with_reducible repeat (first | refine blk_drewN ?_ _ | refine blk_drew ?_ | refine blk_alloc ?_ _)); refine blk_far ?_ NB399_400.out _; (with_reducible repeat (first | refine blk_drewN ?_ _ | refine blk_drew ?_ | refine blk_alloc ?_ _)); refine blk_far ?_ NB399_400.out _; (with_reducible repeat (first | refine blk_drewN ?_ _ | refine blk_drew ?_ | refine blk_alloc ?_ _)); exact BK399.out⟩, ⟨by (with_reducible repeat (first | refine blk_drewN ?_ _ | refine blk_drew ?_ | refine blk_alloc ?_ _)); refine blk_put (cs := #[.int .i64 a0_0, .int .i64 0, .string (⟨#[]⟩ : ByteArray), .bool false, .complex .f64 0 0]) ?_ 1 _ rfl; (with_reducible repeat (first | refine blk_drewN ?_ _ | refine blk_drew ?_ | refine blk_alloc ?_ _)); refine blk_put (cs := #[.int .i64 a0_0, .int .i64 0, .string (⟨#[]⟩ : ByteArray), .bool false, .complex .f64 0 0]) ?_ 4 _ rfl; (with_reducible repeat (first | refine blk_drewN ?_ _ | refine blk_drew ?_ | refine blk_alloc ?_ _)); refine blk_put (cs := #[.int .i64 a0_0, .int .i64 0, .string (⟨#[]⟩ : ByteArray), .bool false, .complex .f64 0 0]) ?_ 3 _ rfl; (with_reducible repeat (first | refine blk_drewN ?_ _ | refine blk_drew ?_ | refine blk_alloc ?_ _)); refine blk_put (cs := #[.int .i64 a0_0, .int .i64 0, .string (⟨#[]⟩ : ByteArray), .bool false, .complex .f64 0 0]) ?_ 2 _ rfl; (with_reducible repeat (first | refine blk_drewN ?_ _ | refine blk_drew ?_ | refine blk_alloc ?_ _)); refine blk_put (cs := #[.int .i64 a0_0, .int .i64 0, .string (⟨#[]⟩ : ByteArray), .bool false, .complex .f64 0 0]) ?_ 1 _ rfl; (with_reducible repeat (first | refine blk_drewN ?_ _ | refine blk_drew ?_ | refine blk_alloc ?_ _)); refine blk_put (cs := #[.int .i64 0, .int .i64 0, .string (⟨#[]⟩ : ByteArray), .bool false, .complex .f64 0 0]) ?_ 0 _ rfl; (with_reducible repeat (first | refine blk_drewN ?_ _ | refine blk_drew ?_ | refine blk_alloc ?_ _)); exact BK400.out⟩, ⟨by repeat (first | (with_reducible first | exact HB.out | apply below_alloc | apply pw_below_drewN | apply below_drew1 | refine below_set ?_ GE398.out | refine below_set ?_ GE399.out | refine below_set ?_ GE400.out) | exact HB.out)⟩⟩
  ·rw [if_neg c12] at H
   have c12b0 : (a0_0 == 1) = false := beq_eq_false_iff_ne.mpr c12
   have c12b1 : (a0_0 != 1) = true := bne_iff_ne.mpr c12
   (first | rw [c12b0] | (simp only [i64_w, i32_w]; rw [c12b0]) | skip)
   have H' := Aside0.mk H
   clear H
   go_wp2
   go_meet
   case rel => exact ⟨_, (0), H', ⟨by first | omega | exact Nat.le_refl _⟩, ⟨by (with_reducible repeat (first | refine blk_drewN ?_ _ | refine blk_drew ?_ | refine blk_alloc ?_ _)); refine blk_far ?_ NB398_400.out _; (with_reducible repeat (first | refine blk_drewN ?_ _ | refine blk_drew ?_ | refine blk_alloc ?_ _)); refine blk_far ?_ NB398_400.out _; (with_reducible repeat (first | refine blk_drewN ?_ _ | refine blk_drew ?_ | refine blk_alloc ?_ _)); refine blk_far ?_ NB398_400.out _; (with_reducible repeat (first | refine blk_drewN ?_ _ | refine blk_drew ?_ | refine blk_alloc ?_ _)); refine blk_far ?_ NB398_400.out _; (with_reducible repeat (first | refine blk_drewN ?_ _ | refine blk_drew ?_ | refine blk_alloc ?_ _)); refine blk_far ?_ NB398_400.out _; (with_reducible repeat (first | refine blk_drewN ?_ _ | refine blk_drew ?_ | refine blk_alloc ?_ _)); exact BK398.out⟩, ⟨by (with_reducible repeat (first | refine blk_drewN ?_ _ | refine blk_drew ?_ | refine blk_alloc ?_ _)); refine blk_far ?_ NB399_400.out _; (with_reducible repeat (first | refine blk_drewN ?_ _ | refine blk_drew ?_ | refine blk_alloc ?_ _)); refine blk_far ?_ NB399_400.out _; (with_reducible repeat (first | refine blk_drewN ?_ _ | refine blk_drew ?_ | refine blk_alloc ?_ _)); refine blk_far ?_ NB399_400.out _; (with_reducible repeat (first | refine blk_drewN ?_ _ | refine blk_drew ?_ | refine blk_alloc ?_ _)); refine blk_far ?_ NB399_400.out _; (with_reducible repeat (first | refine blk_drewN ?_ _ | refine blk_drew ?_ | refine blk_alloc ?_ _)); refine blk_far ?_ NB399_400.out _; (with_reducible repeat (first | refine blk_drewN ?_ _ | refine blk_drew ?_ | refine blk_alloc ?_ _)); exact BK399.out⟩, ⟨by (with_reducible repeat (first | refine blk_drewN ?_ _ | refine blk_drew ?_ | refine blk_alloc ?_ _)); refine blk_put (cs := #[.int .i64 a0_0, .int .i64 0, .string (⟨#[]⟩ : ByteArray), .bool false, .complex .f64 0 0]) ?_ 4 _ rfl; (with_reducible repeat (first | refine blk_drewN ?_ _ | refine blk_drew ?_ | refine blk_alloc ?_ _)); refine blk_put (cs := #[.int .i64 a0_0, .int .i64 0, .string (⟨#[]⟩ : ByteArray), .bool false, .complex .f64 0 0]) ?_ 3 _ rfl; (with_reducible repeat (first | refine blk_drewN ?_ _ | refine blk_drew ?_ | refine blk_alloc ?_ _)); refine blk_put (cs := #[.int .i64 a0_0, .int .i64 0, .string (⟨#[]⟩ : ByteArray), .bool false, .complex .f64 0 0]) ?_ 2 _ rfl; (with_reducible repeat (first | refine blk_drewN ?_ _ | refine blk_drew ?_ | refine blk_alloc ?_ _)); refine blk_put (cs := #[.int .i64 a0_0, .int .i64 0, .string (⟨#[]⟩ : ByteArray), .bool false, .complex .f64 0 0]) ?_ 1 _ rfl; (with_reducible repeat (first | refine blk_drewN ?_ _ | refine blk_drew ?_ | refine blk_alloc ?_ _)); refine blk_put (cs := #[.int .i64 0, .int .i64 0, .string (⟨#[]⟩ : ByteArray), .bool false, .complex .f64 0 0]) ?_ 0 _ rfl; (with_reducible repeat (first | refine blk_drewN ?_ _ | refine blk_drew ?_ | refine blk_alloc ?_ _)); exact BK400.out⟩, ⟨by repeat (first | (with_reducible first | exact HB.out | apply below_alloc | apply pw_below_drewN | apply below_drew1 | refine below_set ?_ GE398.out | refine below_set ?_ GE399.out | refine below_set ?_ GE400.out) | exact HB.out)⟩⟩
 case rest =>
  clear HC2
  try clear hcz10_0
  try clear hcz10_1
  try clear hcz10_2
  try clear hcz10_3
  try clear hcz10_4
  try clear hcz11_0
  try clear hcz11_1
  try clear hcz11_2
  try clear hcz11_3
  try clear hcz11_4
  try clear hcz6_0
  try clear hcz6_1
  try clear hcz6_2
  try clear hcz6_3
  try clear hcz6_4
  try clear hfz10_0
  try clear hfz10_1
  try clear hfz10_2
  try clear hfz10_3
  try clear hfz10_4
  try clear hfz11_0
  try clear hfz11_1
  try clear hfz11_2
  try clear hfz11_3
  try clear hfz11_4
  try clear hfz6_0
  try clear hfz6_1
  try clear hfz6_2
  try clear hfz6_3
  try clear hfz6_4
  obtain ⟨kq, x401001_1, HA, HJ1, BK398, BK399, BK400, HB⟩ := hcut
  cases kq with
  | zero => exact absurd HA.out (by simp [grapevineref03_Plain.j0])
  | succ kj1 =>
   have H := HA.out
   clear HA
   simp only [grapevineref03_Plain.j0] at H
   have HC18 := Aside0.mk H
   clear H
   have hnb19 := NB398_399.out
   have hnc19 := NB399_398.out
   have hnb20 := NB398_400.out
   have hnc20 := NB400_398.out
   have hcz21_0 : wc.cell? ⟨gb398, 0, none⟩ = some (.int .i64 a0_0) := (blk_cell BK398.out 0).trans rfl
   have hcz21_1 : wc.cell? ⟨gb398, 1, none⟩ = some (.int .i64 a0_1) := (blk_cell BK398.out 1).trans rfl
   have hcz21_2 : wc.cell? ⟨gb398, 2, none⟩ = some (.string a0_2) := (blk_cell BK398.out 2).trans rfl
   have hcz21_3 : wc.cell? ⟨gb398, 3, none⟩ = some (.bool a0_3) := (blk_cell BK398.out 3).trans rfl
   have hcz21_4 : wc.cell? ⟨gb398, 4, none⟩ = some (.complex .f64 a0_4.re a0_4.im) := (blk_cell BK398.out 4).trans rfl
   have hfz21_0 := blk_frozen BK398.out 0
   have hfz21_1 := blk_frozen BK398.out 1
   have hfz21_2 := blk_frozen BK398.out 2
   have hfz21_3 := blk_frozen BK398.out 3
   have hfz21_4 := blk_frozen BK398.out 4
   go_upto_if 18 with (fail)
   go_cut [] (fun wc => ∃ (kq : Nat) (x401002_17 : ByteArray), Aside0 (grapevineref03_Plain.j1 kq a0_0 a0_1 a0_2 a0_3 a0_4 a0_0 x401001_1 x401002_17 false (⟨0, 0⟩ : Cx) = some (r1, r2, r3, r4, r5)) ∧ Aside0 (kq ≤ kj1) ∧ Aside0 (wc.heap[gb398]? = some (.cells #[.int .i64 a0_0, .int .i64 a0_1, .string a0_2, .bool a0_3, .complex .f64 a0_4.re a0_4.im] 44 (0, 0))) ∧ Aside0 (wc.heap[gb399]? = some (.cells #[.int .i64 0, .int .i64 0, .string (⟨#[]⟩ : ByteArray), .bool false, .complex .f64 0 0] 44 (0, 0))) ∧ Aside0 (wc.heap[gb400]? = some (.cells #[.int .i64 a0_0, .int .i64 x401001_1, .string x401002_17, .bool false, .complex .f64 0 0] 44 (0, 0))) ∧ Aside0 (Below w.heap.size w wc))
   case first =>
    have H := HC18.out
    clear HC18
    by_cases c22 : a0_0 = 2
    ·rw [if_pos c22] at H
     have c22b0 : (a0_0 == 2) = true := beq_iff_eq.mpr c22
     have c22b1 : (a0_0 != 2) = false := bne_eq_false_iff_eq.mpr c22
     clear c22
     (first | rw [c22b0] | (simp only [i64_w, i32_w]; rw [c22b0]) | skip)
     have H' := Aside0.mk H
     clear H
     have hnb23 := NB398_399.out
     have hnc23 := NB399_398.out
     have hnb24 := NB398_400.out
     have hnc24 := NB400_398.out
     have hcz25_0 : wc.cell? ⟨gb398, 0, none⟩ = some (.int .i64 a0_0) := (blk_cell BK398.out 0).trans rfl
     have hcz25_1 : wc.cell? ⟨gb398, 1, none⟩ = some (.int .i64 a0_1) := (blk_cell BK398.out 1).trans rfl
     have hcz25_2 : wc.cell? ⟨gb398, 2, none⟩ = some (.string a0_2) := (blk_cell BK398.out 2).trans rfl
     have hcz25_3 : wc.cell? ⟨gb398, 3, none⟩ = some (.bool a0_3) := (blk_cell BK398.out 3).trans rfl
     have hcz25_4 : wc.cell? ⟨gb398, 4, none⟩ = some (.complex .f64 a0_4.re a0_4.im) := (blk_cell BK398.out 4).trans rfl
     have hfz25_0 := blk_frozen BK398.out 0
     have hfz25_1 := blk_frozen BK398.out 1
     have hfz25_2 := blk_frozen BK398.out 2
     have hfz25_3 := blk_frozen BK398.out 3
     have hfz25_4 := blk_frozen BK398.out 4
     have hnb26 := NB400_399.out
     have hnc26 := NB399_400.out
     have hcz27_0 : wc.cell? ⟨gb400, 0, none⟩ = some (.int .i64 a0_0) := (blk_cell BK400.out 0).trans rfl
     have hcz27_1 : wc.cell? ⟨gb400, 1, none⟩ = some (.int .i64 x401001_1) := (blk_cell BK400.out 1).trans rfl
     have hcz27_2 : wc.cell? ⟨gb400, 2, none⟩ = some (.string (⟨#[]⟩ : ByteArray)) := (blk_cell BK400.out 2).trans rfl
     have hcz27_3 : wc.cell? ⟨gb400, 3, none⟩ = some (.bool false) := (blk_cell BK400.out 3).trans rfl
     have hcz27_4 : wc.cell? ⟨gb400, 4, none⟩ = some (.complex .f64 0 0) := (blk_cell BK400.out 4).trans rfl
     have hfz27_0 := blk_frozen BK400.out 0
     have hfz27_1 := blk_frozen BK400.out 1
     have hfz27_2 := blk_frozen BK400.out 2
     have hfz27_3 := blk_frozen BK400.out 3
     have hfz27_4 := blk_frozen BK400.out 4
     go_wp2
     go_meet
     case rel => exact ⟨_, (a0_2), H', ⟨by have := HJ1.out; first | omega | exact Nat.le_refl _⟩, ⟨by (with_reducible repeat (first | refine blk_drewN ?_ _ | refine blk_drew ?_ | refine blk_alloc ?_ _)); refine blk_far ?_ NB398_400.out _; (with_reducible repeat (first | refine blk_drewN ?_ _ | refine blk_drew ?_ | refine blk_alloc ?_ _)); exact BK398.out⟩, ⟨by (with_reducible repeat (first | refine blk_drewN ?_ _ | refine blk_drew ?_ | refine blk_alloc ?_ _)); refine blk_far ?_ NB399_400.out _; (with_reducible repeat (first | refine blk_drewN ?_ _ | refine blk_drew ?_ | refine blk_alloc ?_ _)); exact BK399.out⟩, ⟨by (with_reducible repeat (first | refine blk_drewN ?_ _ | refine blk_drew ?_ | refine blk_alloc ?_ _)); refine blk_put (cs := #[.int .i64 a0_0, .int .i64 x401001_1, .string (⟨#[]⟩ : ByteArray), .bool false, .complex .f64 0 0]) ?_ 2 _ rfl; (with_reducible repeat (first | refine blk_drewN ?_ _ | refine blk_drew ?_ | refine blk_alloc ?_ _)); exact BK400.out⟩, ⟨by repeat (first | (with_reducible first | exact HB.out | apply below_alloc | apply pw_below_drewN | apply below_drew1 | refine below_set ?_ GE398.out | refine below_set ?_ GE399.out | refine below_set ?_ GE400.out) | exact HB.out)⟩⟩
    ·rw [if_neg c22] at H
     have c22b0 : (a0_0 == 2) = false := beq_eq_false_iff_ne.mpr c22
     have c22b1 : (a0_0 != 2) = true := bne_iff_ne.mpr c22
     (first | rw [c22b0] | (simp only [i64_w, i32_w]; rw [c22b0]) | skip)
     have H' := Aside0.mk H
     clear H
     go_wp2
     go_meet
     case rel => exact ⟨_, ((⟨#[]⟩ : ByteArray)), H', ⟨by have := HJ1.out; first | omega | exact Nat.le_refl _⟩, ⟨by (with_reducible repeat (first | refine blk_drewN ?_ _ | refine blk_drew ?_ | refine blk_alloc ?_ _)); exact BK398.out⟩, ⟨by (with_reducible repeat (first | refine blk_drewN ?_ _ | refine blk_drew ?_ | refine blk_alloc ?_ _)); exact BK399.out⟩, ⟨by (with_reducible repeat (first | refine blk_drewN ?_ _ | refine blk_drew ?_ | refine blk_alloc ?_ _)); exact BK400.out⟩, ⟨by repeat (first | (with_reducible first | exact HB.out | apply below_alloc | apply pw_below_drewN | apply below_drew1 | refine below_set ?_ GE398.out | refine below_set ?_ GE399.out | refine below_set ?_ GE400.out) | exact HB.out)⟩⟩
   case rest =>
    clear HC18
    try clear hcz21_0
    try clear hcz21_1
    try clear hcz21_2
    try clear hcz21_3
    try clear hcz21_4
    try clear hfz21_0
    try clear hfz21_1
    try clear hfz21_2
    try clear hfz21_3
    try clear hfz21_4
    obtain ⟨kq, x401002_17, HA, HJ17, BK398, BK399, BK400, HB⟩ := hcut
    cases kq with
    | zero => exact absurd HA.out (by simp [grapevineref03_Plain.j1])
    | succ kj17 =>
     have H := HA.out
     clear HA
     simp only [grapevineref03_Plain.j1] at H
     by_cases c28 : a0_0 = 3
     ·rw [if_pos c28] at H
      have c28b0 : (a0_0 == 3) = true := beq_iff_eq.mpr c28
      have c28b1 : (a0_0 != 3) = false := bne_eq_false_iff_eq.mpr c28
      clear c28
      by_cases c29 : a0_0 = 4
      ·rw [if_pos c29] at H
       have c29b0 : (a0_0 == 4) = true := beq_iff_eq.mpr c29
       have c29b1 : (a0_0 != 4) = false := bne_eq_false_iff_eq.mpr c29
       clear c29
       replace H := Option.bind_eq_some_iff.mp H
       obtain ⟨⟨t401, t402, t403⟩, A300, H⟩ := H
       replace H : (some (a0_0, x401001_1, x401002_17, a0_3, (⟨floatOfInt .f64 t401, floatOfInt .f64 t402⟩ : Cx))) = some (r1, r2, r3, r4, r5) := H
       have A30 := Aside0.mk A300
       clear A300
       simp only [Option.some.injEq, Prod.mk.injEq] at H
       obtain ⟨rfl, rfl, rfl, rfl, rfl⟩ := H
       have hnb31 := NB398_399.out
       have hnc31 := NB399_398.out
       have hnb32 := NB398_400.out
       have hnc32 := NB400_398.out
       have hcz33_0 : wc.cell? ⟨gb398, 0, none⟩ = some (.int .i64 a0_0) := (blk_cell BK398.out 0).trans rfl
       have hcz33_1 : wc.cell? ⟨gb398, 1, none⟩ = some (.int .i64 a0_1) := (blk_cell BK398.out 1).trans rfl
       have hcz33_2 : wc.cell? ⟨gb398, 2, none⟩ = some (.string a0_2) := (blk_cell BK398.out 2).trans rfl
       have hcz33_3 : wc.cell? ⟨gb398, 3, none⟩ = some (.bool a0_3) := (blk_cell BK398.out 3).trans rfl
       have hcz33_4 : wc.cell? ⟨gb398, 4, none⟩ = some (.complex .f64 a0_4.re a0_4.im) := (blk_cell BK398.out 4).trans rfl
       have hfz33_0 := blk_frozen BK398.out 0
       have hfz33_1 := blk_frozen BK398.out 1
       have hfz33_2 := blk_frozen BK398.out 2
       have hfz33_3 := blk_frozen BK398.out 3
       have hfz33_4 := blk_frozen BK398.out 4
       have hnb34 := NB400_399.out
       have hnc34 := NB399_400.out
       have hcz35_0 : wc.cell? ⟨gb400, 0, none⟩ = some (.int .i64 a0_0) := (blk_cell BK400.out 0).trans rfl
       have hcz35_1 : wc.cell? ⟨gb400, 1, none⟩ = some (.int .i64 x401001_1) := (blk_cell BK400.out 1).trans rfl
       have hcz35_2 : wc.cell? ⟨gb400, 2, none⟩ = some (.string x401002_17) := (blk_cell BK400.out 2).trans rfl
       have hcz35_3 : wc.cell? ⟨gb400, 3, none⟩ = some (.bool false) := (blk_cell BK400.out 3).trans rfl
       have hcz35_4 : wc.cell? ⟨gb400, 4, none⟩ = some (.complex .f64 0 0) := (blk_cell BK400.out 4).trans rfl
       have hfz35_0 := blk_frozen BK400.out 0
       have hfz35_1 := blk_frozen BK400.out 1
       have hfz35_2 := blk_frozen BK400.out 2
       have hfz35_3 := blk_frozen BK400.out 3
       have hfz35_4 := blk_frozen BK400.out 4
       go_wp2_with (first | ((with_reducible refine gate_callee (f := 46) rfl ?_); refine goesL_ (some 33) rfl rfl Try.func46 (by kernel_rfl) rfl #[.agg #[.int .i64 a0_0, .int .i64 a0_1, .string a0_2, .bool a0_3, .complex .f64 a0_4.re a0_4.im]] rfl (by (try simp only [List.map_toArray, List.map_cons, List.map_nil]); first | done | rfl | (simp only [List.length_drop, List.length_take]; rfl)) ?_; (with_reducible refine (grapevineref03_Parts.calls a0_0 a0_1 a0_2 a0_3 a0_4 t401 t402 t403 _ A30.out).mono ?_); rintro e w36 ⟨rfl, hb⟩; refine ⟨_, rfl, ?_⟩; have n0_ := Aside0.mk (blk_below (g := gb398) (o := .cells #[.int .i64 a0_0, .int .i64 a0_1, .string a0_2, .bool a0_3, .complex .f64 a0_4.re a0_4.im] 44 (0, 0)) (by (with_reducible repeat (first | refine blk_drewN ?_ _ | refine blk_drew ?_ | refine blk_alloc ?_ _)); refine blk_far ?_ NB398_400.out _; (with_reducible repeat (first | refine blk_drewN ?_ _ | refine blk_drew ?_ | refine blk_alloc ?_ _)); exact BK398.out) hb); have n1_ := Aside0.mk (blk_below (g := gb399) (o := .cells #[.int .i64 0, .int .i64 0, .string (⟨#[]⟩ : ByteArray), .bool false, .complex .f64 0 0] 44 (0, 0)) (by (with_reducible repeat (first | refine blk_drewN ?_ _ | refine blk_drew ?_ | refine blk_alloc ?_ _)); refine blk_far ?_ NB399_400.out _; (with_reducible repeat (first | refine blk_drewN ?_ _ | refine blk_drew ?_ | refine blk_alloc ?_ _)); exact BK399.out) hb); have n2_ := Aside0.mk (blk_below (g := gb400) (o := .cells #[.int .i64 a0_0, .int .i64 x401001_1, .string x401002_17, .bool a0_3, .complex .f64 0 0] 44 (0, 0)) (by (with_reducible repeat (first | refine blk_drewN ?_ _ | refine blk_drew ?_ | refine blk_alloc ?_ _)); refine blk_put (cs := #[.int .i64 a0_0, .int .i64 x401001_1, .string x401002_17, .bool false, .complex .f64 0 0]) ?_ 3 _ rfl; (with_reducible repeat (first | refine blk_drewN ?_ _ | refine blk_drew ?_ | refine blk_alloc ?_ _)); exact BK400.out) hb); have n3_ := Aside0.mk (below_step (by repeat (first | (with_reducible first | exact HB.out | apply below_alloc | apply pw_below_drewN | apply below_drew1 | refine below_set ?_ GE398.out | refine below_set ?_ GE399.out | refine below_set ?_ GE400.out) | exact HB.out)) hb); clear BK398; clear BK399; clear BK400; clear HB; have BK398 := n0_; have BK399 := n1_; have BK400 := n2_; have HB := n3_; clear n0_ n1_ n2_ n3_; (try clear hb); (try clear hb2); (try clear hk); (try clear hi); have hcz37_0 : w36.cell? ⟨gb400, 0, none⟩ = some (.int .i64 a0_0) := (blk_cell BK400.out 0).trans rfl; have hcz37_1 : w36.cell? ⟨gb400, 1, none⟩ = some (.int .i64 x401001_1) := (blk_cell BK400.out 1).trans rfl; have hcz37_2 : w36.cell? ⟨gb400, 2, none⟩ = some (.string x401002_17) := (blk_cell BK400.out 2).trans rfl; have hcz37_3 : w36.cell? ⟨gb400, 3, none⟩ = some (.bool a0_3) := (blk_cell BK400.out 3).trans rfl; have hcz37_4 : w36.cell? ⟨gb400, 4, none⟩ = some (.complex .f64 0 0) := (blk_cell BK400.out 4).trans rfl; have hfz37_0 := blk_frozen BK400.out 0; have hfz37_1 := blk_frozen BK400.out 1; have hfz37_2 := blk_frozen BK400.out 2; have hfz37_3 := blk_frozen BK400.out 3; have hfz37_4 := blk_frozen BK400.out 4; have hcz38_0 : w36.cell? ⟨gb399, 0, none⟩ = some (.int .i64 0) := (blk_cell BK399.out 0).trans rfl; have hcz38_1 : w36.cell? ⟨gb399, 1, none⟩ = some (.int .i64 0) := (blk_cell BK399.out 1).trans rfl; have hcz38_2 : w36.cell? ⟨gb399, 2, none⟩ = some (.string (⟨#[]⟩ : ByteArray)) := (blk_cell BK399.out 2).trans rfl; have hcz38_3 : w36.cell? ⟨gb399, 3, none⟩ = some (.bool false) := (blk_cell BK399.out 3).trans rfl; have hcz38_4 : w36.cell? ⟨gb399, 4, none⟩ = some (.complex .f64 0 0) := (blk_cell BK399.out 4).trans rfl; have hfz38_0 := blk_frozen BK399.out 0; have hfz38_1 := blk_frozen BK399.out 1; have hfz38_2 := blk_frozen BK399.out 2; have hfz38_3 := blk_frozen BK399.out 3; have hfz38_4 := blk_frozen BK399.out 4))
       refine bodyPost_ret (results_cell_row rfl _ _ gb399 44 #[.int .i64 a0_0, .int .i64 x401001_1, .string x401002_17, .bool a0_3, .complex .f64 (floatOfInt .f64 t401) (floatOfInt .f64 t402)] (0, 0) _ rfl (by (with_reducible repeat (first | refine blk_drewN ?_ _ | refine blk_drew ?_ | refine blk_alloc ?_ _)); refine blk_put (cs := #[.int .i64 a0_0, .int .i64 x401001_1, .string x401002_17, .bool a0_3, .complex .f64 0 0]) ?_ 4 _ rfl; (with_reducible repeat (first | refine blk_drewN ?_ _ | refine blk_drew ?_ | refine blk_alloc ?_ _)); refine blk_put (cs := #[.int .i64 a0_0, .int .i64 x401001_1, .string x401002_17, .bool false, .complex .f64 0 0]) ?_ 3 _ rfl; (with_reducible repeat (first | refine blk_drewN ?_ _ | refine blk_drew ?_ | refine blk_alloc ?_ _)); refine blk_put (cs := #[.int .i64 a0_0, .int .i64 x401001_1, .string (⟨#[]⟩ : ByteArray), .bool false, .complex .f64 0 0]) ?_ 2 _ rfl; (with_reducible repeat (first | refine blk_drewN ?_ _ | refine blk_drew ?_ | refine blk_alloc ?_ _)); refine blk_put (cs := #[.int .i64 a0_0, .int .i64 0, .string (⟨#[]⟩ : ByteArray), .bool false, .complex .f64 0 0]) ?_ 1 _ rfl; (with_reducible repeat (first | refine blk_drewN ?_ _ | refine blk_drew ?_ | refine blk_alloc ?_ _)); refine blk_put (cs := #[.int .i64 0, .int .i64 0, .string (⟨#[]⟩ : ByteArray), .bool false, .complex .f64 0 0]) ?_ 0 _ rfl; (with_reducible repeat (first | refine blk_drewN ?_ _ | refine blk_drew ?_ | refine blk_alloc ?_ _)); refine blk_far ?_ NB399_400.out _; (with_reducible repeat (first | refine blk_drewN ?_ _ | refine blk_drew ?_ | refine blk_alloc ?_ _)); exact BK399.out) Try.underlying44 rfl (by kernel_rfl)) rfl ?_
       exact ⟨by first | rfl | (simp [errW_none, errW_some] <;> rfl) | (simp [*, errW_none, errW_some] <;> rfl), by repeat (first | (with_reducible first | exact HB.out | apply below_alloc | apply pw_below_drewN | apply below_drew1 | refine below_set ?_ GE398.out | refine below_set ?_ GE399.out | refine below_set ?_ GE400.out) | exact HB.out)⟩
      ·rw [if_neg c29] at H
       have c29b0 : (a0_0 == 4) = false := beq_eq_false_iff_ne.mpr c29
       have c29b1 : (a0_0 != 4) = true := bne_iff_ne.mpr c29
       simp only [Option.some.injEq, Prod.mk.injEq] at H
       obtain ⟨rfl, rfl, rfl, rfl, rfl⟩ := H
       have hnb39 := NB398_399.out
       have hnc39 := NB399_398.out
       have hnb40 := NB398_400.out
       have hnc40 := NB400_398.out
       have hcz41_0 : wc.cell? ⟨gb398, 0, none⟩ = some (.int .i64 a0_0) := (blk_cell BK398.out 0).trans rfl
       have hcz41_1 : wc.cell? ⟨gb398, 1, none⟩ = some (.int .i64 a0_1) := (blk_cell BK398.out 1).trans rfl
       have hcz41_2 : wc.cell? ⟨gb398, 2, none⟩ = some (.string a0_2) := (blk_cell BK398.out 2).trans rfl
       have hcz41_3 : wc.cell? ⟨gb398, 3, none⟩ = some (.bool a0_3) := (blk_cell BK398.out 3).trans rfl
       have hcz41_4 : wc.cell? ⟨gb398, 4, none⟩ = some (.complex .f64 a0_4.re a0_4.im) := (blk_cell BK398.out 4).trans rfl
       have hfz41_0 := blk_frozen BK398.out 0
       have hfz41_1 := blk_frozen BK398.out 1
       have hfz41_2 := blk_frozen BK398.out 2
       have hfz41_3 := blk_frozen BK398.out 3
       have hfz41_4 := blk_frozen BK398.out 4
       have hnb42 := NB400_399.out
       have hnc42 := NB399_400.out
       have hcz43_0 : wc.cell? ⟨gb400, 0, none⟩ = some (.int .i64 a0_0) := (blk_cell BK400.out 0).trans rfl
       have hcz43_1 : wc.cell? ⟨gb400, 1, none⟩ = some (.int .i64 x401001_1) := (blk_cell BK400.out 1).trans rfl
       have hcz43_2 : wc.cell? ⟨gb400, 2, none⟩ = some (.string x401002_17) := (blk_cell BK400.out 2).trans rfl
       have hcz43_3 : wc.cell? ⟨gb400, 3, none⟩ = some (.bool false) := (blk_cell BK400.out 3).trans rfl
       have hcz43_4 : wc.cell? ⟨gb400, 4, none⟩ = some (.complex .f64 0 0) := (blk_cell BK400.out 4).trans rfl
       have hfz43_0 := blk_frozen BK400.out 0
       have hfz43_1 := blk_frozen BK400.out 1
       have hfz43_2 := blk_frozen BK400.out 2
       have hfz43_3 := blk_frozen BK400.out 3
       have hfz43_4 := blk_frozen BK400.out 4
       have hcz44_0 : wc.cell? ⟨gb399, 0, none⟩ = some (.int .i64 0) := (blk_cell BK399.out 0).trans rfl
       have hcz44_1 : wc.cell? ⟨gb399, 1, none⟩ = some (.int .i64 0) := (blk_cell BK399.out 1).trans rfl
       have hcz44_2 : wc.cell? ⟨gb399, 2, none⟩ = some (.string (⟨#[]⟩ : ByteArray)) := (blk_cell BK399.out 2).trans rfl
       have hcz44_3 : wc.cell? ⟨gb399, 3, none⟩ = some (.bool false) := (blk_cell BK399.out 3).trans rfl
       have hcz44_4 : wc.cell? ⟨gb399, 4, none⟩ = some (.complex .f64 0 0) := (blk_cell BK399.out 4).trans rfl
       have hfz44_0 := blk_frozen BK399.out 0
       have hfz44_1 := blk_frozen BK399.out 1
       have hfz44_2 := blk_frozen BK399.out 2
       have hfz44_3 := blk_frozen BK399.out 3
       have hfz44_4 := blk_frozen BK399.out 4
       go_wp2
       refine bodyPost_ret (results_cell_row rfl _ _ gb399 44 #[.int .i64 a0_0, .int .i64 x401001_1, .string x401002_17, .bool a0_3, .complex .f64 0 0] (0, 0) _ rfl (by (with_reducible repeat (first | refine blk_drewN ?_ _ | refine blk_drew ?_ | refine blk_alloc ?_ _)); refine blk_put (cs := #[.int .i64 a0_0, .int .i64 x401001_1, .string x401002_17, .bool a0_3, .complex .f64 0 0]) ?_ 4 _ rfl; (with_reducible repeat (first | refine blk_drewN ?_ _ | refine blk_drew ?_ | refine blk_alloc ?_ _)); refine blk_put (cs := #[.int .i64 a0_0, .int .i64 x401001_1, .string x401002_17, .bool false, .complex .f64 0 0]) ?_ 3 _ rfl; (with_reducible repeat (first | refine blk_drewN ?_ _ | refine blk_drew ?_ | refine blk_alloc ?_ _)); refine blk_put (cs := #[.int .i64 a0_0, .int .i64 x401001_1, .string (⟨#[]⟩ : ByteArray), .bool false, .complex .f64 0 0]) ?_ 2 _ rfl; (with_reducible repeat (first | refine blk_drewN ?_ _ | refine blk_drew ?_ | refine blk_alloc ?_ _)); refine blk_put (cs := #[.int .i64 a0_0, .int .i64 0, .string (⟨#[]⟩ : ByteArray), .bool false, .complex .f64 0 0]) ?_ 1 _ rfl; (with_reducible repeat (first | refine blk_drewN ?_ _ | refine blk_drew ?_ | refine blk_alloc ?_ _)); refine blk_put (cs := #[.int .i64 0, .int .i64 0, .string (⟨#[]⟩ : ByteArray), .bool false, .complex .f64 0 0]) ?_ 0 _ rfl; (with_reducible repeat (first | refine blk_drewN ?_ _ | refine blk_drew ?_ | refine blk_alloc ?_ _)); refine blk_far ?_ NB399_400.out _; (with_reducible repeat (first | refine blk_drewN ?_ _ | refine blk_drew ?_ | refine blk_alloc ?_ _)); exact BK399.out) Try.underlying44 rfl (by kernel_rfl)) rfl ?_
       exact ⟨by first | rfl | (simp [errW_none, errW_some] <;> rfl) | (simp [*, errW_none, errW_some] <;> rfl), by repeat (first | (with_reducible first | exact HB.out | apply below_alloc | apply pw_below_drewN | apply below_drew1 | refine below_set ?_ GE398.out | refine below_set ?_ GE399.out | refine below_set ?_ GE400.out) | exact HB.out)⟩
     ·rw [if_neg c28] at H
      have c28b0 : (a0_0 == 3) = false := beq_eq_false_iff_ne.mpr c28
      have c28b1 : (a0_0 != 3) = true := bne_iff_ne.mpr c28
      by_cases c45 : a0_0 = 4
      ·rw [if_pos c45] at H
       have c45b0 : (a0_0 == 4) = true := beq_iff_eq.mpr c45
       have c45b1 : (a0_0 != 4) = false := bne_eq_false_iff_eq.mpr c45
       clear c45
       replace H := Option.bind_eq_some_iff.mp H
       obtain ⟨⟨t404, t405, t406⟩, A460, H⟩ := H
       replace H : (some (a0_0, x401001_1, x401002_17, false, (⟨floatOfInt .f64 t404, floatOfInt .f64 t405⟩ : Cx))) = some (r1, r2, r3, r4, r5) := H
       have A46 := Aside0.mk A460
       clear A460
       simp only [Option.some.injEq, Prod.mk.injEq] at H
       obtain ⟨rfl, rfl, rfl, rfl, rfl⟩ := H
       have hnb47 := NB398_399.out
       have hnc47 := NB399_398.out
       have hnb48 := NB398_400.out
       have hnc48 := NB400_398.out
       have hcz49_0 : wc.cell? ⟨gb398, 0, none⟩ = some (.int .i64 a0_0) := (blk_cell BK398.out 0).trans rfl
       have hcz49_1 : wc.cell? ⟨gb398, 1, none⟩ = some (.int .i64 a0_1) := (blk_cell BK398.out 1).trans rfl
       have hcz49_2 : wc.cell? ⟨gb398, 2, none⟩ = some (.string a0_2) := (blk_cell BK398.out 2).trans rfl
       have hcz49_3 : wc.cell? ⟨gb398, 3, none⟩ = some (.bool a0_3) := (blk_cell BK398.out 3).trans rfl
       have hcz49_4 : wc.cell? ⟨gb398, 4, none⟩ = some (.complex .f64 a0_4.re a0_4.im) := (blk_cell BK398.out 4).trans rfl
       have hfz49_0 := blk_frozen BK398.out 0
       have hfz49_1 := blk_frozen BK398.out 1
       have hfz49_2 := blk_frozen BK398.out 2
       have hfz49_3 := blk_frozen BK398.out 3
       have hfz49_4 := blk_frozen BK398.out 4
       go_wp2_with (first | ((with_reducible refine gate_callee (f := 46) rfl ?_); refine goesL_ (some 33) rfl rfl Try.func46 (by kernel_rfl) rfl #[.agg #[.int .i64 a0_0, .int .i64 a0_1, .string a0_2, .bool a0_3, .complex .f64 a0_4.re a0_4.im]] rfl (by (try simp only [List.map_toArray, List.map_cons, List.map_nil]); first | done | rfl | (simp only [List.length_drop, List.length_take]; rfl)) ?_; (with_reducible refine (grapevineref03_Parts.calls a0_0 a0_1 a0_2 a0_3 a0_4 t404 t405 t406 _ A46.out).mono ?_); rintro e w50 ⟨rfl, hb⟩; refine ⟨_, rfl, ?_⟩; have n0_ := Aside0.mk (blk_below (g := gb398) (o := .cells #[.int .i64 a0_0, .int .i64 a0_1, .string a0_2, .bool a0_3, .complex .f64 a0_4.re a0_4.im] 44 (0, 0)) (by (with_reducible repeat (first | refine blk_drewN ?_ _ | refine blk_drew ?_ | refine blk_alloc ?_ _)); exact BK398.out) hb); have n1_ := Aside0.mk (blk_below (g := gb399) (o := .cells #[.int .i64 0, .int .i64 0, .string (⟨#[]⟩ : ByteArray), .bool false, .complex .f64 0 0] 44 (0, 0)) (by (with_reducible repeat (first | refine blk_drewN ?_ _ | refine blk_drew ?_ | refine blk_alloc ?_ _)); exact BK399.out) hb); have n2_ := Aside0.mk (blk_below (g := gb400) (o := .cells #[.int .i64 a0_0, .int .i64 x401001_1, .string x401002_17, .bool false, .complex .f64 0 0] 44 (0, 0)) (by (with_reducible repeat (first | refine blk_drewN ?_ _ | refine blk_drew ?_ | refine blk_alloc ?_ _)); exact BK400.out) hb); have n3_ := Aside0.mk (below_step (by repeat (first | (with_reducible first | exact HB.out | apply below_alloc | apply pw_below_drewN | apply below_drew1 | refine below_set ?_ GE398.out | refine below_set ?_ GE399.out | refine below_set ?_ GE400.out) | exact HB.out)) hb); clear BK398; clear BK399; clear BK400; clear HB; have BK398 := n0_; have BK399 := n1_; have BK400 := n2_; have HB := n3_; clear n0_ n1_ n2_ n3_; (try clear hb); (try clear hb2); (try clear hk); (try clear hi); have hnb51 := NB400_399.out; have hnc51 := NB399_400.out; have hcz52_0 : w50.cell? ⟨gb400, 0, none⟩ = some (.int .i64 a0_0) := (blk_cell BK400.out 0).trans rfl; have hcz52_1 : w50.cell? ⟨gb400, 1, none⟩ = some (.int .i64 x401001_1) := (blk_cell BK400.out 1).trans rfl; have hcz52_2 : w50.cell? ⟨gb400, 2, none⟩ = some (.string x401002_17) := (blk_cell BK400.out 2).trans rfl; have hcz52_3 : w50.cell? ⟨gb400, 3, none⟩ = some (.bool false) := (blk_cell BK400.out 3).trans rfl; have hcz52_4 : w50.cell? ⟨gb400, 4, none⟩ = some (.complex .f64 0 0) := (blk_cell BK400.out 4).trans rfl; have hfz52_0 := blk_frozen BK400.out 0; have hfz52_1 := blk_frozen BK400.out 1; have hfz52_2 := blk_frozen BK400.out 2; have hfz52_3 := blk_frozen BK400.out 3; have hfz52_4 := blk_frozen BK400.out 4; have hcz53_0 : w50.cell? ⟨gb399, 0, none⟩ = some (.int .i64 0) := (blk_cell BK399.out 0).trans rfl; have hcz53_1 : w50.cell? ⟨gb399, 1, none⟩ = some (.int .i64 0) := (blk_cell BK399.out 1).trans rfl; have hcz53_2 : w50.cell? ⟨gb399, 2, none⟩ = some (.string (⟨#[]⟩ : ByteArray)) := (blk_cell BK399.out 2).trans rfl; have hcz53_3 : w50.cell? ⟨gb399, 3, none⟩ = some (.bool false) := (blk_cell BK399.out 3).trans rfl; have hcz53_4 : w50.cell? ⟨gb399, 4, none⟩ = some (.complex .f64 0 0) := (blk_cell BK399.out 4).trans rfl; have hfz53_0 := blk_frozen BK399.out 0; have hfz53_1 := blk_frozen BK399.out 1; have hfz53_2 := blk_frozen BK399.out 2; have hfz53_3 := blk_frozen BK399.out 3; have hfz53_4 := blk_frozen BK399.out 4))
       refine bodyPost_ret (results_cell_row rfl _ _ gb399 44 #[.int .i64 a0_0, .int .i64 x401001_1, .string x401002_17, .bool false, .complex .f64 (floatOfInt .f64 t404) (floatOfInt .f64 t405)] (0, 0) _ rfl (by (with_reducible repeat (first | refine blk_drewN ?_ _ | refine blk_drew ?_ | refine blk_alloc ?_ _)); refine blk_put (cs := #[.int .i64 a0_0, .int .i64 x401001_1, .string x401002_17, .bool false, .complex .f64 0 0]) ?_ 4 _ rfl; (with_reducible repeat (first | refine blk_drewN ?_ _ | refine blk_drew ?_ | refine blk_alloc ?_ _)); refine blk_put (cs := #[.int .i64 a0_0, .int .i64 x401001_1, .string x401002_17, .bool false, .complex .f64 0 0]) ?_ 3 _ rfl; (with_reducible repeat (first | refine blk_drewN ?_ _ | refine blk_drew ?_ | refine blk_alloc ?_ _)); refine blk_put (cs := #[.int .i64 a0_0, .int .i64 x401001_1, .string (⟨#[]⟩ : ByteArray), .bool false, .complex .f64 0 0]) ?_ 2 _ rfl; (with_reducible repeat (first | refine blk_drewN ?_ _ | refine blk_drew ?_ | refine blk_alloc ?_ _)); refine blk_put (cs := #[.int .i64 a0_0, .int .i64 0, .string (⟨#[]⟩ : ByteArray), .bool false, .complex .f64 0 0]) ?_ 1 _ rfl; (with_reducible repeat (first | refine blk_drewN ?_ _ | refine blk_drew ?_ | refine blk_alloc ?_ _)); refine blk_put (cs := #[.int .i64 0, .int .i64 0, .string (⟨#[]⟩ : ByteArray), .bool false, .complex .f64 0 0]) ?_ 0 _ rfl; (with_reducible repeat (first | refine blk_drewN ?_ _ | refine blk_drew ?_ | refine blk_alloc ?_ _)); refine blk_far ?_ NB399_400.out _; (with_reducible repeat (first | refine blk_drewN ?_ _ | refine blk_drew ?_ | refine blk_alloc ?_ _)); exact BK399.out) Try.underlying44 rfl (by kernel_rfl)) rfl ?_
       exact ⟨by first | rfl | (simp [errW_none, errW_some] <;> rfl) | (simp [*, errW_none, errW_some] <;> rfl), by repeat (first | (with_reducible first | exact HB.out | apply below_alloc | apply pw_below_drewN | apply below_drew1 | refine below_set ?_ GE398.out | refine below_set ?_ GE399.out | refine below_set ?_ GE400.out) | exact HB.out)⟩
      ·rw [if_neg c45] at H
       have c45b0 : (a0_0 == 4) = false := beq_eq_false_iff_ne.mpr c45
       have c45b1 : (a0_0 != 4) = true := bne_iff_ne.mpr c45
       simp only [Option.some.injEq, Prod.mk.injEq] at H
       obtain ⟨rfl, rfl, rfl, rfl, rfl⟩ := H
       have hnb54 := NB398_399.out
       have hnc54 := NB399_398.out
       have hnb55 := NB398_400.out
       have hnc55 := NB400_398.out
       have hcz56_0 : wc.cell? ⟨gb398, 0, none⟩ = some (.int .i64 a0_0) := (blk_cell BK398.out 0).trans rfl
       have hcz56_1 : wc.cell? ⟨gb398, 1, none⟩ = some (.int .i64 a0_1) := (blk_cell BK398.out 1).trans rfl
       have hcz56_2 : wc.cell? ⟨gb398, 2, none⟩ = some (.string a0_2) := (blk_cell BK398.out 2).trans rfl
       have hcz56_3 : wc.cell? ⟨gb398, 3, none⟩ = some (.bool a0_3) := (blk_cell BK398.out 3).trans rfl
       have hcz56_4 : wc.cell? ⟨gb398, 4, none⟩ = some (.complex .f64 a0_4.re a0_4.im) := (blk_cell BK398.out 4).trans rfl
       have hfz56_0 := blk_frozen BK398.out 0
       have hfz56_1 := blk_frozen BK398.out 1
       have hfz56_2 := blk_frozen BK398.out 2
       have hfz56_3 := blk_frozen BK398.out 3
       have hfz56_4 := blk_frozen BK398.out 4
       have hnb57 := NB400_399.out
       have hnc57 := NB399_400.out
       have hcz58_0 : wc.cell? ⟨gb400, 0, none⟩ = some (.int .i64 a0_0) := (blk_cell BK400.out 0).trans rfl
       have hcz58_1 : wc.cell? ⟨gb400, 1, none⟩ = some (.int .i64 x401001_1) := (blk_cell BK400.out 1).trans rfl
       have hcz58_2 : wc.cell? ⟨gb400, 2, none⟩ = some (.string x401002_17) := (blk_cell BK400.out 2).trans rfl
       have hcz58_3 : wc.cell? ⟨gb400, 3, none⟩ = some (.bool false) := (blk_cell BK400.out 3).trans rfl
       have hcz58_4 : wc.cell? ⟨gb400, 4, none⟩ = some (.complex .f64 0 0) := (blk_cell BK400.out 4).trans rfl
       have hfz58_0 := blk_frozen BK400.out 0
       have hfz58_1 := blk_frozen BK400.out 1
       have hfz58_2 := blk_frozen BK400.out 2
       have hfz58_3 := blk_frozen BK400.out 3
       have hfz58_4 := blk_frozen BK400.out 4
       have hcz59_0 : wc.cell? ⟨gb399, 0, none⟩ = some (.int .i64 0) := (blk_cell BK399.out 0).trans rfl
       have hcz59_1 : wc.cell? ⟨gb399, 1, none⟩ = some (.int .i64 0) := (blk_cell BK399.out 1).trans rfl
       have hcz59_2 : wc.cell? ⟨gb399, 2, none⟩ = some (.string (⟨#[]⟩ : ByteArray)) := (blk_cell BK399.out 2).trans rfl
       have hcz59_3 : wc.cell? ⟨gb399, 3, none⟩ = some (.bool false) := (blk_cell BK399.out 3).trans rfl
       have hcz59_4 : wc.cell? ⟨gb399, 4, none⟩ = some (.complex .f64 0 0) := (blk_cell BK399.out 4).trans rfl
       have hfz59_0 := blk_frozen BK399.out 0
       have hfz59_1 := blk_frozen BK399.out 1
       have hfz59_2 := blk_frozen BK399.out 2
       have hfz59_3 := blk_frozen BK399.out 3
       have hfz59_4 := blk_frozen BK399.out 4
       go_wp2
       refine bodyPost_ret (results_cell_row rfl _ _ gb399 44 #[.int .i64 a0_0, .int .i64 x401001_1, .string x401002_17, .bool false, .complex .f64 0 0] (0, 0) _ rfl (by (with_reducible repeat (first | refine blk_drewN ?_ _ | refine blk_drew ?_ | refine blk_alloc ?_ _)); refine blk_put (cs := #[.int .i64 a0_0, .int .i64 x401001_1, .string x401002_17, .bool false, .complex .f64 0 0]) ?_ 4 _ rfl; (with_reducible repeat (first | refine blk_drewN ?_ _ | refine blk_drew ?_ | refine blk_alloc ?_ _)); refine blk_put (cs := #[.int .i64 a0_0, .int .i64 x401001_1, .string x401002_17, .bool false, .complex .f64 0 0]) ?_ 3 _ rfl; (with_reducible repeat (first | refine blk_drewN ?_ _ | refine blk_drew ?_ | refine blk_alloc ?_ _)); refine blk_put (cs := #[.int .i64 a0_0, .int .i64 x401001_1, .string (⟨#[]⟩ : ByteArray), .bool false, .complex .f64 0 0]) ?_ 2 _ rfl; (with_reducible repeat (first | refine blk_drewN ?_ _ | refine blk_drew ?_ | refine blk_alloc ?_ _)); refine blk_put (cs := #[.int .i64 a0_0, .int .i64 0, .string (⟨#[]⟩ : ByteArray), .bool false, .complex .f64 0 0]) ?_ 1 _ rfl; (with_reducible repeat (first | refine blk_drewN ?_ _ | refine blk_drew ?_ | refine blk_alloc ?_ _)); refine blk_put (cs := #[.int .i64 0, .int .i64 0, .string (⟨#[]⟩ : ByteArray), .bool false, .complex .f64 0 0]) ?_ 0 _ rfl; (with_reducible repeat (first | refine blk_drewN ?_ _ | refine blk_drew ?_ | refine blk_alloc ?_ _)); exact BK399.out) Try.underlying44 rfl (by kernel_rfl)) rfl ?_
       exact ⟨by first | rfl | (simp [errW_none, errW_some] <;> rfl) | (simp [*, errW_none, errW_some] <;> rfl), by repeat (first | (with_reducible first | exact HB.out | apply below_alloc | apply pw_below_drewN | apply below_drew1 | refine below_set ?_ GE398.out | refine below_set ?_ GE399.out | refine below_set ?_ GE400.out) | exact HB.out)⟩

end Go.Proofs.Ythcfjkbegadpjaa.Q
