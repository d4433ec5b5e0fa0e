/- Functions of the program as Lean functions, each with its walk: that the Go code comes to just these answers, whatever the memory. Written by a program of this claim (wip/tools). -/
import Derived.Test.YtmgljgmieomngaaMc
import Derived.Test.YtmgljgmieomngaaQx0
import Derived.Test.YtmgljgmieomngaaQx53
import Derived.Test.YtmgljgmieomngaaQx57
import Derived.Test.YtmgljgmieomngaaQx61
namespace Go.Proofs.Ytmgljgmieomngaa.Q
open Go.RowKit Go.Proofs.YtmgljgmieomngaaW.PrintWords Go.Proofs.YtmgljgmieomngaaW.PrintLast Go.Proofs.YtmgljgmieomngaaW.PrintMore
attribute [local go_sem] run_ftoi isSome_setCell bytesLess_total run_store_complex run_store_float max2_int min2_int max_two min_two max_three min_three max_four min_four   -- for this text's walks alone
set_option linter.unusedVariables false
set_option linter.unusedSimpArgs false

/-! ### grapevineref05_atom: function 53 -/
mutual
def grapevineref05_atom.j0 : Nat → Bool → Int → ByteArray → Int → Int → Int → ByteArray → Bool → Cx → Int → Option (Int)
 | 0, _, _, _, _, _, _, _, _, _, _ => none
 | k + 1, x15, x370000, x370001, x370002, x370003, x370004, x370005, x370006, x370007, x370008 => if x15 = true then (some 2) else (if x370002 = 1 then (grapevineref05_atom.j1 k true x370000 x370001 x370002 x370003 x370004 x370005 x370006 x370007 x370008) else (grapevineref05_atom.j1 k (x370002 == 2) x370000 x370001 x370002 x370003 x370004 x370005 x370006 x370007 x370008))
def grapevineref05_atom.j1 : Nat → Bool → Int → ByteArray → Int → Int → Int → ByteArray → Bool → Cx → Int → Option (Int)
 | 0, _, _, _, _, _, _, _, _, _, _ => none
 | k + 1, x23, x370000, x370001, x370002, x370003, x370004, x370005, x370006, x370007, x370008 => if x23 = true then (some 0) else ((grapevineref03_Check.f k x370003 x370004 x370005 x370006 x370007).bind fun t371 => (if t371 = 0 then ((grapevineref05_May.f x370002 x370003).bind fun t372 => (grapevineref05_atom.j2 k t371 (!t372) x370000 x370001 x370002 x370003 x370004 x370005 x370006 x370007 x370008)) else (grapevineref05_atom.j2 k t371 false x370000 x370001 x370002 x370003 x370004 x370005 x370006 x370007 x370008)))
def grapevineref05_atom.j2 : Nat → Int → Bool → Int → ByteArray → Int → Int → Int → ByteArray → Bool → Cx → Int → Option (Int)
 | 0, _, _, _, _, _, _, _, _, _, _, _ => none
 | k + 1, x3, x37, x370000, x370001, x370002, x370003, x370004, x370005, x370006, x370007, x370008 => if x37 = true then (if 12 = 0 then (if x370002 = 10 then (if x370008 < 0 then (some 2) else (if x370008 > 1048576 then (some 2) else (some 12))) else (some 12)) else (some 12)) else (if x3 = 0 then (if x370002 = 10 then (if x370008 < 0 then (some 2) else (if x370008 > 1048576 then (some 2) else (some x3))) else (some x3)) else (some x3))
end
def grapevineref05_atom.f (k : Nat) (a0_0 : Int) (a0_1 : ByteArray) (a0_2 : Int) (a0_3 : Int) (a0_4 : Int) (a0_5 : ByteArray) (a0_6 : Bool) (a0_7 : Cx) (a0_8 : Int) : Option (Int) := (grapevineref04_Name.f k a0_1).bind fun t370 => (if t370 = true then (if a0_2 < 1 then (grapevineref05_atom.j0 k true a0_0 a0_1 a0_2 a0_3 a0_4 a0_5 a0_6 a0_7 a0_8) else (grapevineref05_atom.j0 k (decide (a0_2 > 10)) a0_0 a0_1 a0_2 a0_3 a0_4 a0_5 a0_6 a0_7 a0_8)) else (some 11))
theorem grapevineref05_atom.mono_l : ∀ k, (∀ y0 y1 y2 y3 y4 y5 y6 y7 y8 y9, LeO (grapevineref05_atom.j0 k y0 y1 y2 y3 y4 y5 y6 y7 y8 y9) (grapevineref05_atom.j0 (k + 1) y0 y1 y2 y3 y4 y5 y6 y7 y8 y9)) ∧ (∀ y0 y1 y2 y3 y4 y5 y6 y7 y8 y9, LeO (grapevineref05_atom.j1 k y0 y1 y2 y3 y4 y5 y6 y7 y8 y9) (grapevineref05_atom.j1 (k + 1) y0 y1 y2 y3 y4 y5 y6 y7 y8 y9)) ∧ (∀ y0 y1 y2 y3 y4 y5 y6 y7 y8 y9 y10, LeO (grapevineref05_atom.j2 k y0 y1 y2 y3 y4 y5 y6 y7 y8 y9 y10) (grapevineref05_atom.j2 (k + 1) y0 y1 y2 y3 y4 y5 y6 y7 y8 y9 y10))
 | 0 => ⟨fun _ _ _ _ _ _ _ _ _ _ r h => by simp [grapevineref05_atom.j0] at h, fun _ _ _ _ _ _ _ _ _ _ r h => by simp [grapevineref05_atom.j1] at h, fun _ _ _ _ _ _ _ _ _ _ _ r h => by simp [grapevineref05_atom.j2] at h⟩
 | k + 1 => by
  obtain ⟨ih0, ih1, ih2⟩ := grapevineref05_atom.mono_l k
  refine ⟨?_, ?_, ?_⟩
  ·intro y0 y1 y2 y3 y4 y5 y6 y7 y8 y9
   unfold grapevineref05_atom.j0
   repeat' first
   | (with_reducible exact ih0 _ _ _ _ _ _ _ _ _ _)
   | (with_reducible exact ih1 _ _ _ _ _ _ _ _ _ _)
   | (with_reducible exact ih2 _ _ _ _ _ _ _ _ _ _ _)
   | (with_reducible exact grapevineref03_Check.mono _ _ _ _ _ _)
   | (with_reducible exact grapevineref04_Name.mono _ _)
   | (with_reducible exact LeO.refl _)
   | (with_reducible exact LeO.none _)
   | (with_reducible refine LeO.ite ?_ ?_)
   | (with_reducible refine LeO.bind ?_ (fun _ => ?_))
   | exact ih0 _ _ _ _ _ _ _ _ _ _
   | exact ih1 _ _ _ _ _ _ _ _ _ _
   | exact ih2 _ _ _ _ _ _ _ _ _ _ _
   | exact grapevineref03_Check.mono _ _ _ _ _ _
   | exact grapevineref04_Name.mono _ _
   | exact LeO.none _
   | refine LeO.ite ?_ ?_
   | refine LeO.bind ?_ (fun _ => ?_)
  ·intro y0 y1 y2 y3 y4 y5 y6 y7 y8 y9
   unfold grapevineref05_atom.j1
   repeat' first
   | (with_reducible exact ih0 _ _ _ _ _ _ _ _ _ _)
   | (with_reducible exact ih1 _ _ _ _ _ _ _ _ _ _)
   | (with_reducible exact ih2 _ _ _ _ _ _ _ _ _ _ _)
   | (with_reducible exact grapevineref03_Check.mono _ _ _ _ _ _)
   | (with_reducible exact grapevineref04_Name.mono _ _)
   | (with_reducible exact LeO.refl _)
   | (with_reducible exact LeO.none _)
   | (with_reducible refine LeO.ite ?_ ?_)
   | (with_reducible refine LeO.bind ?_ (fun _ => ?_))
   | exact ih0 _ _ _ _ _ _ _ _ _ _
   | exact ih1 _ _ _ _ _ _ _ _ _ _
   | exact ih2 _ _ _ _ _ _ _ _ _ _ _
   | exact grapevineref03_Check.mono _ _ _ _ _ _
   | exact grapevineref04_Name.mono _ _
   | exact LeO.none _
   | refine LeO.ite ?_ ?_
   | refine LeO.bind ?_ (fun _ => ?_)
  ·intro y0 y1 y2 y3 y4 y5 y6 y7 y8 y9 y10
   unfold grapevineref05_atom.j2
   repeat' first
   | (with_reducible exact ih0 _ _ _ _ _ _ _ _ _ _)
   | (with_reducible exact ih1 _ _ _ _ _ _ _ _ _ _)
   | (with_reducible exact ih2 _ _ _ _ _ _ _ _ _ _ _)
   | (with_reducible exact grapevineref03_Check.mono _ _ _ _ _ _)
   | (with_reducible exact grapevineref04_Name.mono _ _)
   | (with_reducible exact LeO.refl _)
   | (with_reducible exact LeO.none _)
   | (with_reducible refine LeO.ite ?_ ?_)
   | (with_reducible refine LeO.bind ?_ (fun _ => ?_))
   | exact ih0 _ _ _ _ _ _ _ _ _ _
   | exact ih1 _ _ _ _ _ _ _ _ _ _
   | exact ih2 _ _ _ _ _ _ _ _ _ _ _
   | exact grapevineref03_Check.mono _ _ _ _ _ _
   | exact grapevineref04_Name.mono _ _
   | exact LeO.none _
   | refine LeO.ite ?_ ?_
   | refine LeO.bind ?_ (fun _ => ?_)
theorem grapevineref05_atom.mono : ∀ a0 a1 a2 a3 a4 a5 a6 a7 a8 k, LeO (grapevineref05_atom.f k a0 a1 a2 a3 a4 a5 a6 a7 a8) (grapevineref05_atom.f (k + 1) a0 a1 a2 a3 a4 a5 a6 a7 a8) := by
 intro a0 a1 a2 a3 a4 a5 a6 a7 a8 k
 obtain ⟨ih0, ih1, ih2⟩ := grapevineref05_atom.mono_l k
 unfold grapevineref05_atom.f
 repeat' first
   | (with_reducible exact ih0 _ _ _ _ _ _ _ _ _ _)
   | (with_reducible exact ih1 _ _ _ _ _ _ _ _ _ _)
   | (with_reducible exact ih2 _ _ _ _ _ _ _ _ _ _ _)
   | (with_reducible exact grapevineref03_Check.mono _ _ _ _ _ _)
   | (with_reducible exact grapevineref04_Name.mono _ _)
   | (with_reducible exact LeO.refl _)
   | (with_reducible exact LeO.none _)
   | (with_reducible refine LeO.ite ?_ ?_)
   | (with_reducible refine LeO.bind ?_ (fun _ => ?_))
   | exact ih0 _ _ _ _ _ _ _ _ _ _
   | exact ih1 _ _ _ _ _ _ _ _ _ _
   | exact ih2 _ _ _ _ _ _ _ _ _ _ _
   | exact grapevineref03_Check.mono _ _ _ _ _ _
   | exact grapevineref04_Name.mono _ _
   | exact LeO.none _
   | refine LeO.ite ?_ ?_
   | refine LeO.bind ?_ (fun _ => ?_)
set_option maxHeartbeats 8000000 in
set_option maxRecDepth 100000 in
theorem grapevineref05_atom.calls (k : Nat) (a0_0 : Int) (a0_1 : ByteArray) (a0_2 : Int) (a0_3 : Int) (a0_4 : Int) (a0_5 : ByteArray) (a0_6 : Bool) (a0_7 : Cx) (a0_8 : Int) (r : Int) (w : World) (h : grapevineref05_atom.f k a0_0 a0_1 a0_2 a0_3 a0_4 a0_5 a0_6 a0_7 a0_8 = some r) :
  Calls Try.prog 53 #[.agg #[.int .i64 a0_0, .string a0_1, .int .i64 a0_2, .int .i64 a0_3, .int .i64 a0_4, .string a0_5, .bool a0_6, .complex .f64 a0_7.re a0_7.im, .int .i64 a0_8]] w fun e w' => e = .returned (.int .i64 r) ∧ Below w.heap.size w w' := by
 have hu54 := Try.underlying54
 have hu43 := Try.underlying43
 have HB := Aside0.mk (Below.refl w.heap.size w)
 have H : ((grapevineref04_Name.f k a0_1).bind fun t370 => (if t370 = true then (if a0_2 < 1 then (grapevineref05_atom.j0 k true a0_0 a0_1 a0_2 a0_3 a0_4 a0_5 a0_6 a0_7 a0_8) else (grapevineref05_atom.j0 k (decide (a0_2 > 10)) a0_0 a0_1 a0_2 a0_3 a0_4 a0_5 a0_6 a0_7 a0_8)) else (some 11))) = some r := h
 clear h
 replace H := Option.bind_eq_some_iff.mp H
 obtain ⟨t370, A20, H⟩ := H
 replace H : (if t370 = true then (if a0_2 < 1 then (grapevineref05_atom.j0 k true a0_0 a0_1 a0_2 a0_3 a0_4 a0_5 a0_6 a0_7 a0_8) else (grapevineref05_atom.j0 k (decide (a0_2 > 10)) a0_0 a0_1 a0_2 a0_3 a0_4 a0_5 a0_6 a0_7 a0_8)) else (some 11)) = some r := H
 have A2 := Aside0.mk A20
 clear A20
 by_cases c3 : t370 = true
 ·subst c3
  have H1 : (if a0_2 < 1 then (grapevineref05_atom.j0 k true a0_0 a0_1 a0_2 a0_3 a0_4 a0_5 a0_6 a0_7 a0_8) else (grapevineref05_atom.j0 k (decide (a0_2 > 10)) a0_0 a0_1 a0_2 a0_3 a0_4 a0_5 a0_6 a0_7 a0_8)) = some r := by rw [if_pos rfl] at H; exact H
  clear H
  have H := H1
  clear H1
  have HC4 := Aside0.mk H
  clear H
  go_enter Try.func53, Try.ntmps53
  go_upto_region 3 with (first | ((with_reducible refine gate_dst (N := 1) rfl ?_); refine box_event ?hg (N := 1) ?hd (cs := #[.int .i64 a0_0, .string a0_1, .int .i64 a0_2, .int .i64 a0_3, .int .i64 a0_4, .string a0_5, .bool a0_6, .complex .f64 a0_7.re a0_7.im, .int .i64 a0_8]) (t := 54) ?hr ?_; (case hd => rfl); (case hg => rfl); (case hr => first | (go_simp; done) | (go_simp; rfl)); intro gb369 hg w5 hbox hb; have n0_ := Aside0.mk (below_step (Bl) hb); have n1_ := Aside0.mk (hbox); have n2_ := Aside0.mk ((by rw [hg]; exact (below_size (Bl)) : w.heap.size ≤ gb369)); have n3_ := Aside0.mk ((by rw [hg]; exact (below_size (Bl)) : w.heap.size ≤ gb369)); clear HB; have HB := n0_; have BK369 := n1_; have GW369 := n2_; have GE369 := n3_; clear n0_ n1_ n2_ n3_; clear hb hbox hg; obtain ⟨hcz6_0, hcz6_1, hcz6_2, hcz6_3, hcz6_4, hcz6_5, hcz6_6, hcz6_7, hcz6_8⟩ := cz9 BK369.out; obtain ⟨hfz6_0, hfz6_1, hfz6_2, hfz6_3, hfz6_4, hfz6_5, hfz6_6, hfz6_7, hfz6_8⟩ := fz9 BK369.out) | ((with_reducible refine gate_callee (f := 50) rfl ?_); refine goesL_ (some 6) rfl rfl Try.func50 (by kernel_rfl) rfl #[.string a0_1] rfl (Mp) ?_; (with_reducible refine (grapevineref04_Name.calls k a0_1 true _ A2.out).mono ?_); rintro e w' ⟨rfl, ⟨nd, rfl⟩⟩; refine ⟨_, rfl, ?_⟩))
  (try simp only [Act.put, List.setIfInBounds_toArray, List.set_cons_zero, List.set_cons_succ])
  go_cut [15] (fun v15 wc => ∃ (kq : Nat) (x15_3 : Bool), v15 = .bool x15_3 ∧ Aside0 (grapevineref05_atom.j0 kq x15_3 a0_0 a0_1 a0_2 a0_3 a0_4 a0_5 a0_6 a0_7 a0_8 = some r) ∧ Aside0 (kq ≤ k) ∧ Aside0 (wc.heap[gb369]? = some (.cells #[.int .i64 a0_0, .string a0_1, .int .i64 a0_2, .int .i64 a0_3, .int .i64 a0_4, .string a0_5, .bool a0_6, .complex .f64 a0_7.re a0_7.im, .int .i64 a0_8] 54 (0, 0))) ∧ Aside0 (Below w.heap.size w wc))
  case first =>
   have H := HC4.out
   clear HC4
   by_cases c7 : a0_2 < 1
   ·rw [if_pos c7] at H
    have c7b0 : decide (a0_2 < 1) = true := decide_eq_true c7
    clear c7
    (first | rw [c7b0] | (simp only [i64_w, i32_w]; rw [c7b0]) | skip)
    have H' := Aside0.mk H
    clear H
    obtain ⟨hcz8_0, hcz8_1, hcz8_2, hcz8_3, hcz8_4, hcz8_5, hcz8_6, hcz8_7, hcz8_8⟩ := cz9 BK369.out
    obtain ⟨hfz8_0, hfz8_1, hfz8_2, hfz8_3, hfz8_4, hfz8_5, hfz8_6, hfz8_7, hfz8_8⟩ := fz9 BK369.out
    go_wp2
    go_meet
    case rel => exact ⟨_, (true), (by first | rfl | (simp; done) | (simp [*]; done)), H', ⟨by first | omega | exact Nat.le_refl _⟩, ⟨Bk BK369.out⟩, ⟨Bl⟩⟩
   ·rw [if_neg c7] at H
    have c7b0 : decide (a0_2 < 1) = false := decide_eq_false c7
    clear c7
    (first | rw [c7b0] | (simp only [i64_w, i32_w]; rw [c7b0]) | skip)
    have H' := Aside0.mk H
    clear H
    obtain ⟨hcz9_0, hcz9_1, hcz9_2, hcz9_3, hcz9_4, hcz9_5, hcz9_6, hcz9_7, hcz9_8⟩ := cz9 BK369.out
    obtain ⟨hfz9_0, hfz9_1, hfz9_2, hfz9_3, hfz9_4, hfz9_5, hfz9_6, hfz9_7, hfz9_8⟩ := fz9 BK369.out
    go_wp2
    go_meet
    case rel => exact ⟨_, (decide (a0_2 > 10)), (by first | rfl | (simp; done) | (simp [*]; done)), H', ⟨by first | omega | exact Nat.le_refl _⟩, ⟨Bk BK369.out⟩, ⟨Bl⟩⟩
  case rest =>
   clear HC4
   try clear hcz6_0
   try clear hcz6_1
   try clear hcz6_2
   try clear hcz6_3
   try clear hcz6_4
   try clear hcz6_5
   try clear hcz6_6
   try clear hcz6_7
   try clear hcz6_8
   try clear hfz6_0
   try clear hfz6_1
   try clear hfz6_2
   try clear hfz6_3
   try clear hfz6_4
   try clear hfz6_5
   try clear hfz6_6
   try clear hfz6_7
   try clear hfz6_8
   obtain ⟨kq, x15_3, rfl, HA, HJ3, BK369, HB⟩ := hcut
   cases kq with
   | zero => exact absurd HA.out (by simp [grapevineref05_atom.j0])
   | succ kj3 =>
    have H := HA.out
    clear HA
    simp only [grapevineref05_atom.j0] at H
    by_cases c10 : x15_3 = true
    ·subst c10
     have H1 : (some 2) = some r := by rw [if_pos rfl] at H; exact H
     clear H
     have H := H1
     clear H1
     obtain rfl := Option.some.inj H
     go_wp2
     go_ret
     exact ⟨by first | rfl | (simp [errW_none, errW_some] <;> rfl) | (simp [*, errW_none, errW_some] <;> rfl), Bl⟩
    ·replace c10 := Bool.eq_false_iff.mpr c10
     subst c10
     have H1 : (if a0_2 = 1 then (grapevineref05_atom.j1 kj3 true a0_0 a0_1 a0_2 a0_3 a0_4 a0_5 a0_6 a0_7 a0_8) else (grapevineref05_atom.j1 kj3 (a0_2 == 2) a0_0 a0_1 a0_2 a0_3 a0_4 a0_5 a0_6 a0_7 a0_8)) = some r := by rw [if_neg (show ¬ (false = true) by decide)] at H; exact H
     clear H
     have H := H1
     clear H1
     have HC11 := Aside0.mk H
     clear H
     go_upto_region 5 with (fail)
     go_cut [23] (fun v23 wc => ∃ (kq : Nat) (x23_10 : Bool), v23 = .bool x23_10 ∧ Aside0 (grapevineref05_atom.j1 kq x23_10 a0_0 a0_1 a0_2 a0_3 a0_4 a0_5 a0_6 a0_7 a0_8 = some r) ∧ Aside0 (kq ≤ kj3) ∧ Aside0 (wc.heap[gb369]? = some (.cells #[.int .i64 a0_0, .string a0_1, .int .i64 a0_2, .int .i64 a0_3, .int .i64 a0_4, .string a0_5, .bool a0_6, .complex .f64 a0_7.re a0_7.im, .int .i64 a0_8] 54 (0, 0))) ∧ Aside0 (Below w.heap.size w wc))
     case first =>
      have H := HC11.out
      clear HC11
      by_cases c12 : a0_2 = 1
      ·rw [if_pos c12] at H
       have c12b0 : (a0_2 == 1) = true := beq_iff_eq.mpr c12
       have c12b1 : (a0_2 != 1) = false := bne_eq_false_iff_eq.mpr c12
       clear c12
       (first | rw [c12b0] | (simp only [i64_w, i32_w]; rw [c12b0]) | skip)
       have H' := Aside0.mk H
       clear H
       obtain ⟨hcz13_0, hcz13_1, hcz13_2, hcz13_3, hcz13_4, hcz13_5, hcz13_6, hcz13_7, hcz13_8⟩ := cz9 BK369.out
       obtain ⟨hfz13_0, hfz13_1, hfz13_2, hfz13_3, hfz13_4, hfz13_5, hfz13_6, hfz13_7, hfz13_8⟩ := fz9 BK369.out
       go_wp2
       go_meet
       case rel => exact ⟨_, (true), (by first | rfl | (simp; done) | (simp [*]; done)), H', ⟨by have := HJ3.out; first | omega | exact Nat.le_refl _⟩, ⟨Bk BK369.out⟩, ⟨Bl⟩⟩
      ·rw [if_neg c12] at H
       have c12b0 : (a0_2 == 1) = false := beq_eq_false_iff_ne.mpr c12
       have c12b1 : (a0_2 != 1) = true := bne_iff_ne.mpr c12
       (first | rw [c12b0] | (simp only [i64_w, i32_w]; rw [c12b0]) | skip)
       have H' := Aside0.mk H
       clear H
       obtain ⟨hcz14_0, hcz14_1, hcz14_2, hcz14_3, hcz14_4, hcz14_5, hcz14_6, hcz14_7, hcz14_8⟩ := cz9 BK369.out
       obtain ⟨hfz14_0, hfz14_1, hfz14_2, hfz14_3, hfz14_4, hfz14_5, hfz14_6, hfz14_7, hfz14_8⟩ := fz9 BK369.out
       go_wp2
       go_meet
       case rel => exact ⟨_, ((a0_2 == 2)), (by first | rfl | (simp; done) | (simp [*]; done)), H', ⟨by have := HJ3.out; first | omega | exact Nat.le_refl _⟩, ⟨Bk BK369.out⟩, ⟨Bl⟩⟩
     case rest =>
      clear HC11
      obtain ⟨kq, x23_10, rfl, HA, HJ10, BK369, HB⟩ := hcut
      cases kq with
      | zero => exact absurd HA.out (by simp [grapevineref05_atom.j1])
      | succ kj10 =>
       have H := HA.out
       clear HA
       simp only [grapevineref05_atom.j1] at H
       by_cases c15 : x23_10 = true
       ·subst c15
        have H1 : (some 0) = some r := by rw [if_pos rfl] at H; exact H
        clear H
        have H := H1
        clear H1
        obtain rfl := Option.some.inj H
        go_wp2
        go_ret
        exact ⟨by first | rfl | (simp [errW_none, errW_some] <;> rfl) | (simp [*, errW_none, errW_some] <;> rfl), Bl⟩
       ·replace c15 := Bool.eq_false_iff.mpr c15
        subst c15
        have H1 : ((grapevineref03_Check.f kj10 a0_3 a0_4 a0_5 a0_6 a0_7).bind fun t371 => (if t371 = 0 then ((grapevineref05_May.f a0_2 a0_3).bind fun t372 => (grapevineref05_atom.j2 kj10 t371 (!t372) a0_0 a0_1 a0_2 a0_3 a0_4 a0_5 a0_6 a0_7 a0_8)) else (grapevineref05_atom.j2 kj10 t371 false a0_0 a0_1 a0_2 a0_3 a0_4 a0_5 a0_6 a0_7 a0_8))) = some r := by rw [if_neg (show ¬ (false = true) by decide)] at H; exact H
        clear H
        have H := H1
        clear H1
        replace H := Option.bind_eq_some_iff.mp H
        obtain ⟨t371, A160, H⟩ := H
        replace H : (if t371 = 0 then ((grapevineref05_May.f a0_2 a0_3).bind fun t372 => (grapevineref05_atom.j2 kj10 t371 (!t372) a0_0 a0_1 a0_2 a0_3 a0_4 a0_5 a0_6 a0_7 a0_8)) else (grapevineref05_atom.j2 kj10 t371 false a0_0 a0_1 a0_2 a0_3 a0_4 a0_5 a0_6 a0_7 a0_8)) = some r := H
        have A16 := Aside0.mk A160
        clear A160
        have HC17 := Aside0.mk H
        clear H
        obtain ⟨hcz18_0, hcz18_1, hcz18_2, hcz18_3, hcz18_4, hcz18_5, hcz18_6, hcz18_7, hcz18_8⟩ := cz9 BK369.out
        obtain ⟨hfz18_0, hfz18_1, hfz18_2, hfz18_3, hfz18_4, hfz18_5, hfz18_6, hfz18_7, hfz18_8⟩ := fz9 BK369.out
        go_upto_region 8 with (first | ((with_reducible refine gate_callee (f := 73) rfl ?_); refine goesL_ (some 26) rfl rfl Try.func73 (by kernel_rfl) rfl #[.agg #[.int .i64 a0_3, .int .i64 a0_4, .string a0_5, .bool a0_6, .complex .f64 a0_7.re a0_7.im]] rfl (Mp) ?_; (with_reducible refine (grapevineref03_Check.calls kj10 a0_3 a0_4 a0_5 a0_6 a0_7 t371 _ A16.out).mono ?_); rintro e w19 ⟨rfl, hb⟩; refine ⟨_, rfl, ?_⟩; have n0_ := Aside0.mk (blk_below (g := gb369) (o := .cells #[.int .i64 a0_0, .string a0_1, .int .i64 a0_2, .int .i64 a0_3, .int .i64 a0_4, .string a0_5, .bool a0_6, .complex .f64 a0_7.re a0_7.im, .int .i64 a0_8] 54 (0, 0)) (Bk BK369.out) hb); have n1_ := Aside0.mk (below_step (Bl) hb); clear BK369; clear HB; have BK369 := n0_; have HB := n1_; clear n0_ n1_; (try clear hb); (try clear hb2); (try clear hk); (try clear hi)))
        (try simp only [Act.put, List.setIfInBounds_toArray, List.set_cons_zero, List.set_cons_succ])
        go_cut [37] (fun v37 wc => ∃ (kq : Nat) (x37_16 : Bool), v37 = .bool x37_16 ∧ Aside0 (grapevineref05_atom.j2 kq t371 x37_16 a0_0 a0_1 a0_2 a0_3 a0_4 a0_5 a0_6 a0_7 a0_8 = some r) ∧ Aside0 (kq ≤ kj10) ∧ Aside0 (wc.heap[gb369]? = some (.cells #[.int .i64 a0_0, .string a0_1, .int .i64 a0_2, .int .i64 a0_3, .int .i64 a0_4, .string a0_5, .bool a0_6, .complex .f64 a0_7.re a0_7.im, .int .i64 a0_8] 54 (0, 0))) ∧ Aside0 (Below w.heap.size w wc))
        case first =>
         have H := HC17.out
         clear HC17
         by_cases c20 : t371 = 0
         ·rw [if_pos c20] at H
          have c20b0 : (t371 == 0) = true := beq_iff_eq.mpr c20
          have c20b1 : (t371 != 0) = false := bne_eq_false_iff_eq.mpr c20
          clear c20
          (first | rw [c20b0] | (simp only [i64_w, i32_w]; rw [c20b0]) | skip)
          replace H := Option.bind_eq_some_iff.mp H
          obtain ⟨t372, A210, H⟩ := H
          replace H : (grapevineref05_atom.j2 kj10 t371 (!t372) a0_0 a0_1 a0_2 a0_3 a0_4 a0_5 a0_6 a0_7 a0_8) = some r := H
          have A21 := Aside0.mk A210
          clear A210
          have H' := Aside0.mk H
          clear H
          obtain ⟨hcz22_0, hcz22_1, hcz22_2, hcz22_3, hcz22_4, hcz22_5, hcz22_6, hcz22_7, hcz22_8⟩ := cz9 BK369.out
          obtain ⟨hfz22_0, hfz22_1, hfz22_2, hfz22_3, hfz22_4, hfz22_5, hfz22_6, hfz22_7, hfz22_8⟩ := fz9 BK369.out
          go_wp2_with (first | (go_at_call 52; (with_reducible refine (grapevineref05_May.calls a0_2 a0_3 t372 _ A21.out).mono ?_); rintro e w' ⟨rfl, ⟨nd, rfl⟩⟩))
          go_meet
          case rel => exact ⟨_, (!t372), (by first | rfl | (simp; done) | (simp [*]; done)), H', ⟨by have := HJ3.out; have := HJ10.out; first | omega | exact Nat.le_refl _⟩, ⟨Bk BK369.out⟩, ⟨Bl⟩⟩
         ·rw [if_neg c20] at H
          have c20b0 : (t371 == 0) = false := beq_eq_false_iff_ne.mpr c20
          have c20b1 : (t371 != 0) = true := bne_iff_ne.mpr c20
          (first | rw [c20b0] | (simp only [i64_w, i32_w]; rw [c20b0]) | skip)
          have H' := Aside0.mk H
          clear H
          go_wp2
          go_meet
          case rel => exact ⟨_, (false), (by first | rfl | (simp; done) | (simp [*]; done)), H', ⟨by have := HJ3.out; have := HJ10.out; first | omega | exact Nat.le_refl _⟩, ⟨Bk BK369.out⟩, ⟨Bl⟩⟩
        case rest =>
         clear HC17
         try clear hcz18_0
         try clear hcz18_1
         try clear hcz18_2
         try clear hcz18_3
         try clear hcz18_4
         try clear hcz18_5
         try clear hcz18_6
         try clear hcz18_7
         try clear hcz18_8
         try clear hfz18_0
         try clear hfz18_1
         try clear hfz18_2
         try clear hfz18_3
         try clear hfz18_4
         try clear hfz18_5
         try clear hfz18_6
         try clear hfz18_7
         try clear hfz18_8
         obtain ⟨kq, x37_16, rfl, HA, HJ16, BK369, HB⟩ := hcut
         cases kq with
         | zero => exact absurd HA.out (by simp [grapevineref05_atom.j2])
         | succ kj16 =>
          have H := HA.out
          clear HA
          simp only [grapevineref05_atom.j2] at H
          by_cases c23 : x37_16 = true
          ·subst c23
           have H1 : (if 12 = 0 then (if a0_2 = 10 then (if a0_8 < 0 then (some 2) else (if a0_8 > 1048576 then (some 2) else (some 12))) else (some 12)) else (some 12)) = some r := by rw [if_pos rfl] at H; exact H
           clear H
           have H := H1
           clear H1
           by_cases c24 : 12 = 0
           ·exact absurd c24 (by decide)
           ·rw [if_neg c24] at H
            have c24b0 : (12 == 0) = false := beq_eq_false_iff_ne.mpr c24
            have c24b1 : (12 != 0) = true := bne_iff_ne.mpr c24
            obtain rfl := Option.some.inj H
            go_wp2
            go_ret
            exact ⟨by first | rfl | (simp [errW_none, errW_some] <;> rfl) | (simp [*, errW_none, errW_some] <;> rfl), Bl⟩
          ·replace c23 := Bool.eq_false_iff.mpr c23
           subst c23
           have H1 : (if t371 = 0 then (if a0_2 = 10 then (if a0_8 < 0 then (some 2) else (if a0_8 > 1048576 then (some 2) else (some t371))) else (some t371)) else (some t371)) = some r := by rw [if_neg (show ¬ (false = true) by decide)] at H; exact H
           clear H
           have H := H1
           clear H1
           by_cases c32 : t371 = 0
           ·rw [if_pos c32] at H
            have c32b0 : (t371 == 0) = true := beq_iff_eq.mpr c32
            have c32b1 : (t371 != 0) = false := bne_eq_false_iff_eq.mpr c32
            clear c32
            by_cases c33 : a0_2 = 10
            ·rw [if_pos c33] at H
             have c33b0 : (a0_2 == 10) = true := beq_iff_eq.mpr c33
             have c33b1 : (a0_2 != 10) = false := bne_eq_false_iff_eq.mpr c33
             clear c33
             by_cases c34 : a0_8 < 0
             ·rw [if_pos c34] at H
              have c34b0 : decide (a0_8 < 0) = true := decide_eq_true c34
              clear c34
              obtain rfl := Option.some.inj H
              obtain ⟨_, _, _, _, _, _, _, _, _⟩ := cz9 BK369.out
              obtain ⟨_, _, _, _, _, _, _, _, _⟩ := fz9 BK369.out
              go_wp2
              go_ret
              exact ⟨by first | rfl | (simp [errW_none, errW_some] <;> rfl) | (simp [*, errW_none, errW_some] <;> rfl), Bl⟩
             ·rw [if_neg c34] at H
              have c34b0 : decide (a0_8 < 0) = false := decide_eq_false c34
              clear c34
              by_cases c36 : a0_8 > 1048576
              ·rw [if_pos c36] at H
               have c36b0 : decide (1048576 < a0_8) = true := decide_eq_true c36
               clear c36
               obtain rfl := Option.some.inj H
               obtain ⟨_, _, _, _, _, _, _, _, _⟩ := cz9 BK369.out
               obtain ⟨_, _, _, _, _, _, _, _, _⟩ := fz9 BK369.out
               go_wp2
               go_ret
               exact ⟨by first | rfl | (simp [errW_none, errW_some] <;> rfl) | (simp [*, errW_none, errW_some] <;> rfl), Bl⟩
              ·rw [if_neg c36] at H
               have c36b0 : decide (1048576 < a0_8) = false := decide_eq_false c36
               clear c36
               obtain rfl := Option.some.inj H
               obtain ⟨_, _, _, _, _, _, _, _, _⟩ := cz9 BK369.out
               obtain ⟨_, _, _, _, _, _, _, _, _⟩ := fz9 BK369.out
               go_wp2
               go_ret
               exact ⟨by first | rfl | (simp [errW_none, errW_some] <;> rfl) | (simp [*, errW_none, errW_some] <;> rfl), Bl⟩
            ·rw [if_neg c33] at H
             have c33b0 : (a0_2 == 10) = false := beq_eq_false_iff_ne.mpr c33
             have c33b1 : (a0_2 != 10) = true := bne_iff_ne.mpr c33
             obtain rfl := Option.some.inj H
             obtain ⟨_, _, _, _, _, _, _, _, _⟩ := cz9 BK369.out
             obtain ⟨_, _, _, _, _, _, _, _, _⟩ := fz9 BK369.out
             go_wp2
             go_ret
             exact ⟨by first | rfl | (simp [errW_none, errW_some] <;> rfl) | (simp [*, errW_none, errW_some] <;> rfl), Bl⟩
           ·rw [if_neg c32] at H
            have c32b0 : (t371 == 0) = false := beq_eq_false_iff_ne.mpr c32
            have c32b1 : (t371 != 0) = true := bne_iff_ne.mpr c32
            obtain rfl := Option.some.inj H
            go_wp2
            go_ret
            exact ⟨by first | rfl | (simp [errW_none, errW_some] <;> rfl) | (simp [*, errW_none, errW_some] <;> rfl), Bl⟩
 ·replace c3 := Bool.eq_false_iff.mpr c3
  subst c3
  have H1 : (some 11) = some r := by rw [if_neg (show ¬ (false = true) by decide)] at H; exact H
  clear H
  have H := H1
  clear H1
  obtain rfl := Option.some.inj H
  go_enter Try.func53, Try.ntmps53
  go_wp2_with (first | ((with_reducible refine gate_dst (N := 1) rfl ?_); refine box_event ?hg (N := 1) ?hd (cs := #[.int .i64 a0_0, .string a0_1, .int .i64 a0_2, .int .i64 a0_3, .int .i64 a0_4, .string a0_5, .bool a0_6, .complex .f64 a0_7.re a0_7.im, .int .i64 a0_8]) (t := 54) ?hr ?_; (case hd => rfl); (case hg => rfl); (case hr => first | (go_simp; done) | (go_simp; rfl)); intro gb369 hg w40 hbox hb; have n0_ := Aside0.mk (below_step (Bl) hb); have n1_ := Aside0.mk (hbox); have n2_ := Aside0.mk ((by rw [hg]; exact (below_size (Bl)) : w.heap.size ≤ gb369)); have n3_ := Aside0.mk ((by rw [hg]; exact (below_size (Bl)) : w.heap.size ≤ gb369)); clear HB; have HB := n0_; have BK369 := n1_; have GW369 := n2_; have GE369 := n3_; clear n0_ n1_ n2_ n3_; clear hb hbox hg; obtain ⟨_, _, _, _, _, _, _, _, _⟩ := cz9 BK369.out; obtain ⟨_, _, _, _, _, _, _, _, _⟩ := fz9 BK369.out) | ((with_reducible refine gate_callee (f := 50) rfl ?_); refine goesL_ (some 6) rfl rfl Try.func50 (by kernel_rfl) rfl #[.string a0_1] rfl (Mp) ?_; (with_reducible refine (grapevineref04_Name.calls k a0_1 false _ A2.out).mono ?_); rintro e w' ⟨rfl, ⟨nd, rfl⟩⟩; refine ⟨_, rfl, ?_⟩))
  go_ret
  exact ⟨by first | rfl | (simp [errW_none, errW_some] <;> rfl) | (simp [*, errW_none, errW_some] <;> rfl), Bl⟩

end Go.Proofs.Ytmgljgmieomngaa.Q
