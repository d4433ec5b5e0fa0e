/- Functions of the program as Lean functions, each with its walk: that the Go code comes to just these answers, whatever the memory. Written by a program of this claim (wip/tools). -/
import Derived.Test.YtmgljgmieomngaaMc
import Derived.Test.YtmgljgmieomngaaQx0
import Derived.Test.YtmgljgmieomngaaQx9
import Derived.Test.YtmgljgmieomngaaQx42
import Derived.Test.YtmgljgmieomngaaQx48
namespace Go.Proofs.Ytmgljgmieomngaa.Q
open Go.RowKit Go.Proofs.YtmgljgmieomngaaW.PrintWords Go.Proofs.YtmgljgmieomngaaW.PrintLast Go.Proofs.YtmgljgmieomngaaW.PrintMore
attribute [local go_sem] run_ftoi isSome_setCell bytesLess_total run_store_complex run_store_float max2_int min2_int max_two min_two max_three min_three max_four min_four   -- for this text's walks alone
set_option linter.unusedVariables false
set_option linter.unusedSimpArgs false

/-! ### pred_Take: function 12 -/
mutual
def pred_Take.l0 : Nat → List Int → Int → List (S54) → Int → Int → Option ((List (S54)) × Int × Int)
 | 0, _, _, _, _, _ => none
 | k + 1, x0, x8, x10, x26, x27 => if x27 < x26 then (if x8 ≥ (x0.length : Int) then (some (([] : List (S54)), 0, 3)) else (if 0 ≤ x8 then (if x8 < (x0.length : Int) then (if (wrap64 (rd x0 x8)) < 1 then (pred_Take.j1 k x0 (wrap64 (x8 + 1)) x10 x26 x27 true (wrap64 (rd x0 x8)) (⟨#[]⟩ : ByteArray) 0 0 0 (⟨#[]⟩ : ByteArray) false (⟨0, 0⟩ : Cx) 0) else (pred_Take.j1 k x0 (wrap64 (x8 + 1)) x10 x26 x27 (decide ((wrap64 (rd x0 x8)) > 6)) (wrap64 (rd x0 x8)) (⟨#[]⟩ : ByteArray) 0 0 0 (⟨#[]⟩ : ByteArray) false (⟨0, 0⟩ : Cx) 0)) else (none)) else (none))) else ((pred_Check.f k x10).bind fun t283 => (if t283 = 0 then (some (x10, x8, 0)) else (some (([] : List (S54)), 0, t283))))
def pred_Take.j1 : Nat → List Int → Int → List (S54) → Int → Int → Bool → Int → ByteArray → Int → Int → Int → ByteArray → Bool → Cx → Int → Option ((List (S54)) × Int × Int)
 | 0, _, _, _, _, _, _, _, _, _, _, _, _, _, _, _ => none
 | k + 1, x0, x8, x10, x26, x27, x41, x286000, x286001, x286002, x286003, x286004, x286005, x286006, x286007, x286008 => if x41 = true then (some (([] : List (S54)), 0, 2)) else (if x286000 = 3 then ((pred_take.f k x0 x8).bind fun bt286 => (if bt286.2.2.2.2.2.2.2.2.2.2 = 0 then (if x10.length < 1466015503701 then (pred_Take.l0 k x0 bt286.2.2.2.2.2.2.2.2.2.1 (x10 ++ [(⟨bt286.1, bt286.2.1, bt286.2.2.1, (⟨bt286.2.2.2.1, bt286.2.2.2.2.1, bt286.2.2.2.2.2.1, bt286.2.2.2.2.2.2.1, bt286.2.2.2.2.2.2.2.1⟩ : S43), bt286.2.2.2.2.2.2.2.2.1⟩ : S54)]) x26 (wrap64 (x27 + 1))) else (none)) else (some (([] : List (S54)), 0, bt286.2.2.2.2.2.2.2.2.2.2)))) else (if x10.length < 1466015503701 then (pred_Take.l0 k x0 x8 (x10 ++ [(⟨x286000, x286001, x286002, (⟨x286003, x286004, x286005, x286006, x286007⟩ : S43), x286008⟩ : S54)]) x26 (wrap64 (x27 + 1))) else (none)))
end
def pred_Take.f (k : Nat) (l0 : List Int) (a1 : Int) : Option ((List (S54)) × Int × Int) := (octet_TakeUint.f k l0 a1).bind fun bt280 => (if bt280.2.2 = 0 then (if bt280.1 > 48 then (some (([] : List (S54)), 0, 6)) else (pred_Take.l0 k l0 bt280.2.1 ([] : List (S54)) (wrap64 (bt280.1)) 0)) else (some (([] : List (S54)), 0, bt280.2.2)))
theorem pred_Take.mono_l : ∀ k, (∀ y0 y1 y2 y3 y4, LeO (pred_Take.l0 k y0 y1 y2 y3 y4) (pred_Take.l0 (k + 1) y0 y1 y2 y3 y4)) ∧ (∀ y0 y1 y2 y3 y4 y5 y6 y7 y8 y9 y10 y11 y12 y13 y14, LeO (pred_Take.j1 k y0 y1 y2 y3 y4 y5 y6 y7 y8 y9 y10 y11 y12 y13 y14) (pred_Take.j1 (k + 1) y0 y1 y2 y3 y4 y5 y6 y7 y8 y9 y10 y11 y12 y13 y14))
 | 0 => ⟨fun _ _ _ _ _ r h => by simp [pred_Take.l0] at h, fun _ _ _ _ _ _ _ _ _ _ _ _ _ _ _ r h => by simp [pred_Take.j1] at h⟩
 | k + 1 => by
  obtain ⟨ih0, ih1⟩ := pred_Take.mono_l k
  refine ⟨?_, ?_⟩
  ·intro y0 y1 y2 y3 y4
   unfold pred_Take.l0
   repeat' first
   | (with_reducible exact ih0 _ _ _ _ _)
   | (with_reducible exact ih1 _ _ _ _ _ _ _ _ _ _ _ _ _ _ _)
   | (with_reducible exact octet_TakeUint.mono _ _ _)
   | (with_reducible exact pred_Check.mono _ _)
   | (with_reducible exact pred_take.mono _ _ _)
   | (with_reducible exact LeO.refl _)
   | (with_reducible exact LeO.none _)
   | (with_reducible refine LeO.ite ?_ ?_)
   | (with_reducible refine LeO.bind ?_ (fun _ => ?_))
   | exact ih0 _ _ _ _ _
   | exact ih1 _ _ _ _ _ _ _ _ _ _ _ _ _ _ _
   | exact octet_TakeUint.mono _ _ _
   | exact pred_Check.mono _ _
   | exact pred_take.mono _ _ _
   | exact LeO.none _
   | refine LeO.ite ?_ ?_
   | refine LeO.bind ?_ (fun _ => ?_)
  ·intro y0 y1 y2 y3 y4 y5 y6 y7 y8 y9 y10 y11 y12 y13 y14
   unfold pred_Take.j1
   repeat' first
   | (with_reducible exact ih0 _ _ _ _ _)
   | (with_reducible exact ih1 _ _ _ _ _ _ _ _ _ _ _ _ _ _ _)
   | (with_reducible exact octet_TakeUint.mono _ _ _)
   | (with_reducible exact pred_Check.mono _ _)
   | (with_reducible exact pred_take.mono _ _ _)
   | (with_reducible exact LeO.refl _)
   | (with_reducible exact LeO.none _)
   | (with_reducible refine LeO.ite ?_ ?_)
   | (with_reducible refine LeO.bind ?_ (fun _ => ?_))
   | exact ih0 _ _ _ _ _
   | exact ih1 _ _ _ _ _ _ _ _ _ _ _ _ _ _ _
   | exact octet_TakeUint.mono _ _ _
   | exact pred_Check.mono _ _
   | exact pred_take.mono _ _ _
   | exact LeO.none _
   | refine LeO.ite ?_ ?_
   | refine LeO.bind ?_ (fun _ => ?_)
theorem pred_Take.mono : ∀ a0 a1 k, LeO (pred_Take.f k a0 a1) (pred_Take.f (k + 1) a0 a1) := by
 intro a0 a1 k
 obtain ⟨ih0, ih1⟩ := pred_Take.mono_l k
 unfold pred_Take.f
 repeat' first
   | (with_reducible exact ih0 _ _ _ _ _)
   | (with_reducible exact ih1 _ _ _ _ _ _ _ _ _ _ _ _ _ _ _)
   | (with_reducible exact octet_TakeUint.mono _ _ _)
   | (with_reducible exact pred_Check.mono _ _)
   | (with_reducible exact pred_take.mono _ _ _)
   | (with_reducible exact LeO.refl _)
   | (with_reducible exact LeO.none _)
   | (with_reducible refine LeO.ite ?_ ?_)
   | (with_reducible refine LeO.bind ?_ (fun _ => ?_))
   | exact ih0 _ _ _ _ _
   | exact ih1 _ _ _ _ _ _ _ _ _ _ _ _ _ _ _
   | exact octet_TakeUint.mono _ _ _
   | exact pred_Check.mono _ _
   | exact pred_take.mono _ _ _
   | exact LeO.none _
   | refine LeO.ite ?_ ?_
   | refine LeO.bind ?_ (fun _ => ?_)
set_option maxHeartbeats 8000000 in
set_option maxRecDepth 100000 in
theorem pred_Take.calls (k : Nat) (A0 : Option Addr) (c0 : Nat) (l0 : List Int) (a1 : Int) (r1 : List (S54)) (r2 : Int) (r3 : Int) (w : World) (hr0 : Kd.C (Kd.int .u8) w A0 l0.length l0) (hc0 : l0.length ≤ c0) (h : pred_Take.f k l0 a1 = some (r1, r2, r3)) :
  Calls Try.prog 12 #[.slice A0 l0.length c0, .int .i64 a1] w fun e w' => ∃ v0_ : Value, e = .returned (.tuple #[v0_, .int .i64 r2, .int .i64 r3]) ∧ Kd.R k54 54 w' w.heap.size (fun _ => True) v0_ r1 ∧ Below w.heap.size w w' := by
 have hu54 := Try.underlying54
 have HR0 := Aside0.mk hr0
 have HC0 := Aside0.mk hc0
 clear hr0 hc0
 have HB := Aside0.mk (Below.refl w.heap.size w)
 have H : ((octet_TakeUint.f k l0 a1).bind fun bt280 => (if bt280.2.2 = 0 then (if bt280.1 > 48 then (some (([] : List (S54)), 0, 6)) else (pred_Take.l0 k l0 bt280.2.1 ([] : List (S54)) (wrap64 (bt280.1)) 0)) else (some (([] : List (S54)), 0, bt280.2.2)))) = some (r1, r2, r3) := h
 clear h
 replace H := Option.bind_eq_some_iff.mp H
 obtain ⟨⟨t280, t281, t282⟩, A30, H⟩ := H
 replace H : (if t282 = 0 then (if t280 > 48 then (some (([] : List (S54)), 0, 6)) else (pred_Take.l0 k l0 t281 ([] : List (S54)) (wrap64 (t280)) 0)) else (some (([] : List (S54)), 0, t282))) = some (r1, r2, r3) := H
 have A3 := Aside0.mk A30
 clear A30
 by_cases c4 : t282 = 0
 ·rw [if_pos c4] at H
  have c4b0 : (t282 == 0) = true := beq_iff_eq.mpr c4
  have c4b1 : (t282 != 0) = false := bne_eq_false_iff_eq.mpr c4
  clear c4
  by_cases c5 : t280 > 48
  ·rw [if_pos c5] at H
   have c5b0 : decide (48 < t280) = true := decide_eq_true c5
   clear c5
   simp only [Option.some.injEq, Prod.mk.injEq] at H
   obtain ⟨rfl, rfl, rfl⟩ := H
   go_enter Try.func12, Try.ntmps12
   go_wp2_with (first | ((with_reducible refine gate_callee (f := 24) rfl ?_); refine goesL_ (some 16) rfl rfl Try.func24 (by kernel_rfl) rfl #[.slice A0 l0.length c0, .int .i64 a1] rfl (Mp) ?_; (with_reducible refine (octet_TakeUint.calls k _ _ l0 a1 t280 t281 t282 _ ?side1 ?side2 A3.out).mono ?_); (case side1 => repeat (first | exact HR0.out | (with_reducible refine Kd.C_alloc ?_ _) | (with_reducible refine Kd.C_drewN ?_ _) | (with_reducible refine Kd.C_drew ?_))); (case side2 => exact HC0.out); rintro e w' ⟨rfl, ⟨nd, rfl⟩⟩; refine ⟨_, rfl, ?_⟩))
   go_ret3
   exact ⟨_, by first | rfl | (simp [errW_none, errW_some] <;> rfl) | (simp [*, errW_none, errW_some] <;> rfl), by first | exact Kd.R_nil _ _ _ _ _ | exact Kd.N_nil _ _ _ _ _ | exact Kd.V_nil _ _ _ _ _ | exact Kd.Q_nil _ _ _ _ _ | exact Kd.S_nil _ _ _ _ _, Bl⟩
  ·rw [if_neg c5] at H
   have c5b0 : decide (48 < t280) = false := decide_eq_false c5
   clear c5
   have H' := Aside0.mk H
   clear H
   go_enter Try.func12, Try.ntmps12
   go_wp2_with (first | ((with_reducible refine gate_callee (f := 24) rfl ?_); refine goesL_ (some 16) rfl rfl Try.func24 (by kernel_rfl) rfl #[.slice A0 l0.length c0, .int .i64 a1] rfl (Mp) ?_; (with_reducible refine (octet_TakeUint.calls k _ _ l0 a1 t280 t281 t282 _ ?side1 ?side2 A3.out).mono ?_); (case side1 => repeat (first | exact HR0.out | (with_reducible refine Kd.C_alloc ?_ _) | (with_reducible refine Kd.C_drewN ?_ _) | (with_reducible refine Kd.C_drew ?_))); (case side2 => exact HC0.out); rintro e w' ⟨rfl, ⟨nd, rfl⟩⟩; refine ⟨_, rfl, ?_⟩))
   go_loopg [8, 10, 27] k (fun kq v8 v10 v27 w' => ∃ (x8_1 : Int) (x10_1 : List (S54)) (x27_1 : Int), v8 = .int .i64 x8_1 ∧ v27 = .int .i64 x27_1 ∧ Aside0 (pred_Take.l0 kq l0 x8_1 x10_1 (wrap64 (t280)) x27_1 = some (r1, r2, r3)) ∧ Aside0 (kq ≤ k) ∧ Aside0 (Kd.R k54 54 w' w.heap.size (fun _ => True) v10 x10_1) ∧ Aside0 (Below w.heap.size w w'))
   case atStart => exact ⟨(t281), (([] : List (S54))), (0), (by first | rfl | (simp; done) | (simp [*]; done)), (by first | rfl | (simp; done) | (simp [*]; done)), H', ⟨Nat.le_refl _⟩, ⟨by first | exact Kd.R_nil _ _ _ _ _ | exact Kd.N_nil _ _ _ _ _ | exact Kd.V_nil _ _ _ _ _ | exact Kd.Q_nil _ _ _ _ _ | exact Kd.S_nil _ _ _ _ _⟩, ⟨Bl⟩⟩
   case round =>
    clear H'
    try clear c4b0
    try clear c4b1
    try clear c5b0
    obtain ⟨x8_1, x10_1, x27_1, rfl, rfl, HA, HK1, HO_10, HB⟩ := hrel
    cases gk with
    | zero => exact absurd HA.out (by simp [pred_Take.l0])
    | succ k1 =>
     have H := HA.out
     clear HA
     simp only [pred_Take.l0] at H
     by_cases c6 : x27_1 < (wrap64 (t280))
     ·rw [if_pos c6] at H
      have c6b0 : decide (x27_1 < (wrap64 (t280))) = true := decide_eq_true c6
      clear c6
      by_cases c7 : x8_1 ≥ (l0.length : Int)
      ·rw [if_pos c7] at H
       have c7b0 : decide ((l0.length : Int) ≤ x8_1) = true := decide_eq_true c7
       clear c7
       simp only [Option.some.injEq, Prod.mk.injEq] at H
       obtain ⟨rfl, rfl, rfl⟩ := H
       go_wp2
       go_ret3
       exact ⟨_, by first | rfl | (simp [errW_none, errW_some] <;> rfl) | (simp [*, errW_none, errW_some] <;> rfl), by first | exact Kd.R_nil _ _ _ _ _ | exact Kd.N_nil _ _ _ _ _ | exact Kd.V_nil _ _ _ _ _ | exact Kd.Q_nil _ _ _ _ _ | exact Kd.S_nil _ _ _ _ _, Bl⟩
      ·rw [if_neg c7] at H
       have c7b0 : decide ((l0.length : Int) ≤ x8_1) = false := decide_eq_false c7
       clear c7
       by_cases c8 : 0 ≤ x8_1
       ·rw [if_pos c8] at H
        have c8b0 : decide (0 ≤ x8_1) = true := decide_eq_true c8
        clear c8
        by_cases c9 : x8_1 < (l0.length : Int)
        ·rw [if_pos c9] at H
         have c9b0 : decide (x8_1 < (l0.length : Int)) = true := decide_eq_true c9
         clear c9
         have HC10 := Aside0.mk H
         clear H
         have p284 : 0 ≤ (x8_1 : Int) := of_decide_eq_true (As)
         have q284 : x8_1 < (l0.length : Int) := of_decide_eq_true (As)
         obtain ⟨ad284, e284, hx284_0⟩ := Kd.at_int HR0.out x8_1 p284 q284
         cases e284
         replace hx284_0 := (HB.out.cell (World.block_lt_of_cell? w _ hx284_0)).trans hx284_0
         replace p284 := eq_true p284
         replace q284 := eq_true q284
         go_upto_region 13 with (first | ((with_reducible refine gate_dst (N := 11) rfl ?_); refine box_event ?hg (N := 11) ?hd (cs := #[.int .i64 0, .string (⟨#[]⟩ : ByteArray), .int .i64 0, .int .i64 0, .int .i64 0, .string (⟨#[]⟩ : ByteArray), .bool false, .complex .f64 0 0, .int .i64 0]) (t := 54) ?hr ?_; (case hd => rfl); (case hg => rfl); (case hr => first | (go_simp; done) | (go_simp; rfl)); intro gb285 hg w11 hbox hb; have n0_ := Aside0.mk (Kd.R_below (Kd.R_elderB (Rw HO_10.out) gb285 (Nat.le_of_eq hg.symm)) hb); have n1_ := Aside0.mk (below_step (Bl) hb); have n2_ := Aside0.mk (hbox); have n3_ := Aside0.mk ((by rw [hg]; exact (below_size (Bl)) : w.heap.size ≤ gb285)); have n4_ := Aside0.mk ((by rw [hg]; exact (below_size (Bl)) : w.heap.size ≤ gb285)); clear HO_10; clear HB; have HO_10 := n0_; have HB := n1_; have BK285 := n2_; have GW285 := n3_; have GE285 := n4_; clear n0_ n1_ n2_ n3_ n4_; clear hb hbox hg; obtain ⟨hcz12_0, hcz12_1, hcz12_2, hcz12_3, hcz12_4, hcz12_5, hcz12_6, hcz12_7, hcz12_8⟩ := cz9 BK285.out; obtain ⟨hfz12_0, hfz12_1, hfz12_2, hfz12_3, hfz12_4, hfz12_5, hfz12_6, hfz12_7, hfz12_8⟩ := fz9 BK285.out))
         (try simp only [Act.put, List.setIfInBounds_toArray, List.set_cons_zero, List.set_cons_succ])
         go_cut [41] (fun v41 wc => ∃ (kq : Nat) (x41_9 : Bool), v41 = .bool x41_9 ∧ Aside0 (pred_Take.j1 kq l0 (wrap64 (x8_1 + 1)) x10_1 (wrap64 (t280)) x27_1 x41_9 (wrap64 (rd l0 x8_1)) (⟨#[]⟩ : ByteArray) 0 0 0 (⟨#[]⟩ : ByteArray) false (⟨0, 0⟩ : Cx) 0 = some (r1, r2, r3)) ∧ Aside0 (kq ≤ k1) ∧ Aside0 (Kd.R k54 54 wc w.heap.size (fun k_ => k_ ≠ gb285) u10 x10_1) ∧ Aside0 (wc.heap[gb285]? = some (.cells #[.int .i64 (wrap64 (rd l0 x8_1)), .string (⟨#[]⟩ : ByteArray), .int .i64 0, .int .i64 0, .int .i64 0, .string (⟨#[]⟩ : ByteArray), .bool false, .complex .f64 0 0, .int .i64 0] 54 (0, 0))) ∧ Aside0 (Below w.heap.size w wc))
         case first =>
          have H := HC10.out
          clear HC10
          by_cases c13 : (wrap64 (rd l0 x8_1)) < 1
          ·rw [if_pos c13] at H
           have c13b0 : decide ((wrap64 (rd l0 x8_1)) < 1) = true := decide_eq_true c13
           clear c13
           (first | rw [c13b0] | (simp only [i64_w, i32_w]; rw [c13b0]) | skip)
           have H' := Aside0.mk H
           clear H
           obtain ⟨hcz14_0, hcz14_1, hcz14_2, hcz14_3, hcz14_4, hcz14_5, hcz14_6, hcz14_7, hcz14_8⟩ := cz9 BK285.out
           obtain ⟨hfz14_0, hfz14_1, hfz14_2, hfz14_3, hfz14_4, hfz14_5, hfz14_6, hfz14_7, hfz14_8⟩ := fz9 BK285.out
           go_wp2
           go_meet
           case rel => exact ⟨_, (true), (by first | rfl | (simp; done) | (simp [*]; done)), H', ⟨by have := HK1.out; first | omega | exact Nat.le_refl _⟩, ⟨by (with_reducible repeat (first | apply Kd.R_alloc | apply Kd.R_drewN | apply Kd.R_drew)); exact Kd.R_mono (Kd.R_far (p := ⟨gb285, 8, none⟩) (Kd.R_far (p := ⟨gb285, 7, none⟩) (Kd.R_far (p := ⟨gb285, 6, none⟩) (Kd.R_far (p := ⟨gb285, 5, none⟩) (Kd.R_far (p := ⟨gb285, 4, none⟩) (Kd.R_far (p := ⟨gb285, 3, none⟩) (Kd.R_far (p := ⟨gb285, 2, none⟩) (Kd.R_far (p := ⟨gb285, 1, none⟩) (Kd.R_far (p := ⟨gb285, 0, none⟩) (Kd.R_mono HO_10.out (fun k_ hk => (⟨hk, hk.2⟩ : _ ∧ k_ ≠ gb285))) (fun _ hk => hk.2) (.int .i64 (wrap64 (rd l0 x8_1)))) (fun _ hk => hk.2) (.string (⟨#[]⟩ : ByteArray))) (fun _ hk => hk.2) (.int .i64 0)) (fun _ hk => hk.2) (.int .i64 0)) (fun _ hk => hk.2) (.int .i64 0)) (fun _ hk => hk.2) (.string (⟨#[]⟩ : ByteArray))) (fun _ hk => hk.2) (.bool false)) (fun _ hk => hk.2) (.complex .f64 0 0)) (fun _ hk => hk.2) (.int .i64 0)) (fun _ hk => hk.1.2)⟩, ⟨by (with_reducible repeat (first | refine blk_drewN ?_ _ | refine blk_drew ?_ | refine blk_alloc ?_ _)); refine blk_put (cs := #[.int .i64 (wrap64 (rd l0 x8_1)), .string (⟨#[]⟩ : ByteArray), .int .i64 0, .int .i64 0, .int .i64 0, .string (⟨#[]⟩ : ByteArray), .bool false, .complex .f64 0 0, .int .i64 0]) ?_ 8 _ rfl; (with_reducible repeat (first | refine blk_drewN ?_ _ | refine blk_drew ?_ | refine blk_alloc ?_ _)); refine blk_put (cs := #[.int .i64 (wrap64 (rd l0 x8_1)), .string (⟨#[]⟩ : ByteArray), .int .i64 0, .int .i64 0, .int .i64 0, .string (⟨#[]⟩ : ByteArray), .bool false, .complex .f64 0 0, .int .i64 0]) ?_ 7 _ rfl; (with_reducible repeat (first | refine blk_drewN ?_ _ | refine blk_drew ?_ | refine blk_alloc ?_ _)); refine blk_put (cs := #[.int .i64 (wrap64 (rd l0 x8_1)), .string (⟨#[]⟩ : ByteArray), .int .i64 0, .int .i64 0, .int .i64 0, .string (⟨#[]⟩ : ByteArray), .bool false, .complex .f64 0 0, .int .i64 0]) ?_ 6 _ rfl; (with_reducible repeat (first | refine blk_drewN ?_ _ | refine blk_drew ?_ | refine blk_alloc ?_ _)); refine blk_put (cs := #[.int .i64 (wrap64 (rd l0 x8_1)), .string (⟨#[]⟩ : ByteArray), .int .i64 0, .int .i64 0, .int .i64 0, .string (⟨#[]⟩ : ByteArray), .bool false, .complex .f64 0 0, .int .i64 0]) ?_ 5 _ rfl; (with_reducible repeat (first | refine blk_drewN ?_ _ | refine blk_drew ?_ | refine blk_alloc ?_ _)); refine blk_put (cs := #[.int .i64 (wrap64 (rd l0 x8_1)), .string (⟨#[]⟩ : ByteArray), .int .i64 0, .int .i64 0, .int .i64 0, .string (⟨#[]⟩ : ByteArray), .bool false, .complex .f64 0 0, .int .i64 0]) ?_ 4 _ rfl; (with_reducible repeat (first | refine blk_drewN ?_ _ | refine blk_drew ?_ | refine blk_alloc ?_ _)); refine blk_put (cs := #[.int .i64 (wrap64 (rd l0 x8_1)), .string (⟨#[]⟩ : ByteArray), .int .i64 0, .int .i64 0, .int .i64 0, .string (⟨#[]⟩ : ByteArray), .bool false, .complex .f64 0 0, .int .i64 0]) ?_ 3 _ rfl; (with_reducible repeat (first | refine blk_drewN ?_ _ | refine blk_drew ?_ | refine blk_alloc ?_ _)); refine blk_put (cs := #[.int .i64 (wrap64 (rd l0 x8_1)), .string (⟨#[]⟩ : ByteArray), .int .i64 0, .int .i64 0, .int .i64 0, .string (⟨#[]⟩ : ByteArray), .bool false, .complex .f64 0 0, .int .i64 0]) ?_ 2 _ rfl; (with_reducible repeat (first | refine blk_drewN ?_ _ | refine blk_drew ?_ | refine blk_alloc ?_ _)); refine blk_put (cs := #[.int .i64 (wrap64 (rd l0 x8_1)), .string (⟨#[]⟩ : ByteArray), .int .i64 0, .int .i64 0, .int .i64 0, .string (⟨#[]⟩ : ByteArray), .bool false, .complex .f64 0 0, .int .i64 0]) ?_ 1 _ rfl; (with_reducible repeat (first | refine blk_drewN ?_ _ | refine blk_drew ?_ | refine blk_alloc ?_ _)); refine blk_put (cs := #[.int .i64 0, .string (⟨#[]⟩ : ByteArray), .int .i64 0, .int .i64 0, .int .i64 0, .string (⟨#[]⟩ : ByteArray), .bool false, .complex .f64 0 0, .int .i64 0]) ?_ 0 _ rfl; (with_reducible repeat (first | refine blk_drewN ?_ _ | refine blk_drew ?_ | refine blk_alloc ?_ _)); exact BK285.out⟩, ⟨Bl⟩⟩
          ·rw [if_neg c13] at H
           have c13b0 : decide ((wrap64 (rd l0 x8_1)) < 1) = false := decide_eq_false c13
           clear c13
           (first | rw [c13b0] | (simp only [i64_w, i32_w]; rw [c13b0]) | skip)
           have H' := Aside0.mk H
           clear H
           obtain ⟨hcz15_0, hcz15_1, hcz15_2, hcz15_3, hcz15_4, hcz15_5, hcz15_6, hcz15_7, hcz15_8⟩ := cz9 BK285.out
           obtain ⟨hfz15_0, hfz15_1, hfz15_2, hfz15_3, hfz15_4, hfz15_5, hfz15_6, hfz15_7, hfz15_8⟩ := fz9 BK285.out
           go_wp2
           go_meet
           case rel => exact ⟨_, (decide ((wrap64 (rd l0 x8_1)) > 6)), (by first | rfl | (simp; done) | (simp [*]; done)), H', ⟨by have := HK1.out; first | omega | exact Nat.le_refl _⟩, ⟨by (with_reducible repeat (first | apply Kd.R_alloc | apply Kd.R_drewN | apply Kd.R_drew)); exact Kd.R_mono (Kd.R_far (p := ⟨gb285, 8, none⟩) (Kd.R_far (p := ⟨gb285, 7, none⟩) (Kd.R_far (p := ⟨gb285, 6, none⟩) (Kd.R_far (p := ⟨gb285, 5, none⟩) (Kd.R_far (p := ⟨gb285, 4, none⟩) (Kd.R_far (p := ⟨gb285, 3, none⟩) (Kd.R_far (p := ⟨gb285, 2, none⟩) (Kd.R_far (p := ⟨gb285, 1, none⟩) (Kd.R_far (p := ⟨gb285, 0, none⟩) (Kd.R_mono HO_10.out (fun k_ hk => (⟨hk, hk.2⟩ : _ ∧ k_ ≠ gb285))) (fun _ hk => hk.2) (.int .i64 (wrap64 (rd l0 x8_1)))) (fun _ hk => hk.2) (.string (⟨#[]⟩ : ByteArray))) (fun _ hk => hk.2) (.int .i64 0)) (fun _ hk => hk.2) (.int .i64 0)) (fun _ hk => hk.2) (.int .i64 0)) (fun _ hk => hk.2) (.string (⟨#[]⟩ : ByteArray))) (fun _ hk => hk.2) (.bool false)) (fun _ hk => hk.2) (.complex .f64 0 0)) (fun _ hk => hk.2) (.int .i64 0)) (fun _ hk => hk.1.2)⟩, ⟨by (with_reducible repeat (first | refine blk_drewN ?_ _ | refine blk_drew ?_ | refine blk_alloc ?_ _)); refine blk_put (cs := #[.int .i64 (wrap64 (rd l0 x8_1)), .string (⟨#[]⟩ : ByteArray), .int .i64 0, .int .i64 0, .int .i64 0, .string (⟨#[]⟩ : ByteArray), .bool false, .complex .f64 0 0, .int .i64 0]) ?_ 8 _ rfl; (with_reducible repeat (first | refine blk_drewN ?_ _ | refine blk_drew ?_ | refine blk_alloc ?_ _)); refine blk_put (cs := #[.int .i64 (wrap64 (rd l0 x8_1)), .string (⟨#[]⟩ : ByteArray), .int .i64 0, .int .i64 0, .int .i64 0, .string (⟨#[]⟩ : ByteArray), .bool false, .complex .f64 0 0, .int .i64 0]) ?_ 7 _ rfl; (with_reducible repeat (first | refine blk_drewN ?_ _ | refine blk_drew ?_ | refine blk_alloc ?_ _)); refine blk_put (cs := #[.int .i64 (wrap64 (rd l0 x8_1)), .string (⟨#[]⟩ : ByteArray), .int .i64 0, .int .i64 0, .int .i64 0, .string (⟨#[]⟩ : ByteArray), .bool false, .complex .f64 0 0, .int .i64 0]) ?_ 6 _ rfl; (with_reducible repeat (first | refine blk_drewN ?_ _ | refine blk_drew ?_ | refine blk_alloc ?_ _)); refine blk_put (cs := #[.int .i64 (wrap64 (rd l0 x8_1)), .string (⟨#[]⟩ : ByteArray), .int .i64 0, .int .i64 0, .int .i64 0, .string (⟨#[]⟩ : ByteArray), .bool false, .complex .f64 0 0, .int .i64 0]) ?_ 5 _ rfl; (with_reducible repeat (first | refine blk_drewN ?_ _ | refine blk_drew ?_ | refine blk_alloc ?_ _)); refine blk_put (cs := #[.int .i64 (wrap64 (rd l0 x8_1)), .string (⟨#[]⟩ : ByteArray), .int .i64 0, .int .i64 0, .int .i64 0, .string (⟨#[]⟩ : ByteArray), .bool false, .complex .f64 0 0, .int .i64 0]) ?_ 4 _ rfl; (with_reducible repeat (first | refine blk_drewN ?_ _ | refine blk_drew ?_ | refine blk_alloc ?_ _)); refine blk_put (cs := #[.int .i64 (wrap64 (rd l0 x8_1)), .string (⟨#[]⟩ : ByteArray), .int .i64 0, .int .i64 0, .int .i64 0, .string (⟨#[]⟩ : ByteArray), .bool false, .complex .f64 0 0, .int .i64 0]) ?_ 3 _ rfl; (with_reducible repeat (first | refine blk_drewN ?_ _ | refine blk_drew ?_ | refine blk_alloc ?_ _)); refine blk_put (cs := #[.int .i64 (wrap64 (rd l0 x8_1)), .string (⟨#[]⟩ : ByteArray), .int .i64 0, .int .i64 0, .int .i64 0, .string (⟨#[]⟩ : ByteArray), .bool false, .complex .f64 0 0, .int .i64 0]) ?_ 2 _ rfl; (with_reducible repeat (first | refine blk_drewN ?_ _ | refine blk_drew ?_ | refine blk_alloc ?_ _)); refine blk_put (cs := #[.int .i64 (wrap64 (rd l0 x8_1)), .string (⟨#[]⟩ : ByteArray), .int .i64 0, .int .i64 0, .int .i64 0, .string (⟨#[]⟩ : ByteArray), .bool false, .complex .f64 0 0, .int .i64 0]) ?_ 1 _ rfl; (with_reducible repeat (first | refine blk_drewN ?_ _ | refine blk_drew ?_ | refine blk_alloc ?_ _)); refine blk_put (cs := #[.int .i64 0, .string (⟨#[]⟩ : ByteArray), .int .i64 0, .int .i64 0, .int .i64 0, .string (⟨#[]⟩ : ByteArray), .bool false, .complex .f64 0 0, .int .i64 0]) ?_ 0 _ rfl; (with_reducible repeat (first | refine blk_drewN ?_ _ | refine blk_drew ?_ | refine blk_alloc ?_ _)); exact BK285.out⟩, ⟨Bl⟩⟩
         case rest =>
          clear HC10
          try clear c6b0
          try clear c7b0
          try clear c8b0
          try clear c9b0
          try clear hcz12_0
          try clear hcz12_1
          try clear hcz12_2
          try clear hcz12_3
          try clear hcz12_4
          try clear hcz12_5
          try clear hcz12_6
          try clear hcz12_7
          try clear hcz12_8
          try clear hfz12_0
          try clear hfz12_1
          try clear hfz12_2
          try clear hfz12_3
          try clear hfz12_4
          try clear hfz12_5
          try clear hfz12_6
          try clear hfz12_7
          try clear hfz12_8
          try clear hx284_0
          try clear p284
          try clear q284
          obtain ⟨kq, x41_9, rfl, HA, HJ9, HO_10, BK285, HB⟩ := hcut
          cases kq with
          | zero => exact absurd HA.out (by simp [pred_Take.j1])
          | succ kj9 =>
           have H := HA.out
           clear HA
           simp only [pred_Take.j1] at H
           by_cases c16 : x41_9 = true
           ·subst c16
            have H1 : (some (([] : List (S54)), 0, 2)) = some (r1, r2, r3) := by rw [if_pos rfl] at H; exact H
            clear H
            have H := H1
            clear H1
            simp only [Option.some.injEq, Prod.mk.injEq] at H
            obtain ⟨rfl, rfl, rfl⟩ := H
            go_wp2
            go_ret3
            exact ⟨_, by first | rfl | (simp [errW_none, errW_some] <;> rfl) | (simp [*, errW_none, errW_some] <;> rfl), by first | exact Kd.R_nil _ _ _ _ _ | exact Kd.N_nil _ _ _ _ _ | exact Kd.V_nil _ _ _ _ _ | exact Kd.Q_nil _ _ _ _ _ | exact Kd.S_nil _ _ _ _ _, Bl⟩
           ·replace c16 := Bool.eq_false_iff.mpr c16
            subst c16
            have H1 : (if (wrap64 (rd l0 x8_1)) = 3 then ((pred_take.f kj9 l0 (wrap64 (x8_1 + 1))).bind fun bt286 => (if bt286.2.2.2.2.2.2.2.2.2.2 = 0 then (if x10_1.length < 1466015503701 then (pred_Take.l0 kj9 l0 bt286.2.2.2.2.2.2.2.2.2.1 (x10_1 ++ [(⟨bt286.1, bt286.2.1, bt286.2.2.1, (⟨bt286.2.2.2.1, bt286.2.2.2.2.1, bt286.2.2.2.2.2.1, bt286.2.2.2.2.2.2.1, bt286.2.2.2.2.2.2.2.1⟩ : S43), bt286.2.2.2.2.2.2.2.2.1⟩ : S54)]) (wrap64 (t280)) (wrap64 (x27_1 + 1))) else (none)) else (some (([] : List (S54)), 0, bt286.2.2.2.2.2.2.2.2.2.2)))) else (if x10_1.length < 1466015503701 then (pred_Take.l0 kj9 l0 (wrap64 (x8_1 + 1)) (x10_1 ++ [(⟨(wrap64 (rd l0 x8_1)), (⟨#[]⟩ : ByteArray), 0, (⟨0, 0, (⟨#[]⟩ : ByteArray), false, (⟨0, 0⟩ : Cx)⟩ : S43), 0⟩ : S54)]) (wrap64 (t280)) (wrap64 (x27_1 + 1))) else (none))) = some (r1, r2, r3) := by rw [if_neg (show ¬ (false = true) by decide)] at H; exact H
            clear H
            have H := H1
            clear H1
            by_cases c17 : (wrap64 (rd l0 x8_1)) = 3
            ·rw [if_pos c17] at H
             have c17b0 : ((wrap64 (rd l0 x8_1)) == 3) = true := beq_iff_eq.mpr c17
             have c17b1 : ((wrap64 (rd l0 x8_1)) != 3) = false := bne_eq_false_iff_eq.mpr c17
             clear c17
             replace H := Option.bind_eq_some_iff.mp H
             obtain ⟨⟨t286, t287, t288, t289, t290, t291, t292, t293, t294, t295, t296⟩, A180, H⟩ := H
             replace H : (if t296 = 0 then (if x10_1.length < 1466015503701 then (pred_Take.l0 kj9 l0 t295 (x10_1 ++ [(⟨t286, t287, t288, (⟨t289, t290, t291, t292, t293⟩ : S43), t294⟩ : S54)]) (wrap64 (t280)) (wrap64 (x27_1 + 1))) else (none)) else (some (([] : List (S54)), 0, t296))) = some (r1, r2, r3) := H
             have A18 := Aside0.mk A180
             clear A180
             by_cases c19 : t296 = 0
             ·rw [if_pos c19] at H
              have c19b0 : (t296 == 0) = true := beq_iff_eq.mpr c19
              have c19b1 : (t296 != 0) = false := bne_eq_false_iff_eq.mpr c19
              clear c19
              by_cases c20 : x10_1.length < 1466015503701
              ·rw [if_pos c20] at H
               have LMc20 := Aside0.mk c20
               clear c20
               obtain ⟨y297, hy297⟩ : ∃ y_ : List (S54), y_ = (x10_1 ++ [(⟨t286, t287, t288, (⟨t289, t290, t291, t292, t293⟩ : S43), t294⟩ : S54)]) := ⟨_, rfl⟩
               replace H : (pred_Take.l0 kj9 l0 t295 y297 (wrap64 (t280)) (wrap64 (x27_1 + 1))) = some (r1, r2, r3) := by first | (rw [hy297]; with_reducible exact H) | (have H2_ := (Option.bind_some _ _).symm.trans H; rw [hy297]; with_reducible exact H2_) | (have H2_ := (Option.bind_some _ _).symm.trans H; with_reducible exact H2_) | with_reducible exact H | (rw [hy297]; exact H) | exact H
               have Ny297 := Aside0.mk hy297
               clear hy297
               have H' := Aside0.mk H
               clear H
               obtain ⟨_, _, _, _, _, _, _, _, _⟩ := cz9 BK285.out
               obtain ⟨_, _, _, _, _, _, _, _, _⟩ := fz9 BK285.out
               go_wp2_with (first | ((with_reducible refine gate_callee (f := 25) rfl ?_); refine goesL_ (some 57) rfl rfl Try.func25 (by kernel_rfl) rfl #[.slice (some ad284) l0.length c0, .int .i64 (wrap64 (x8_1 + 1))] rfl (Mp) ?_; (with_reducible refine (pred_take.calls kj9 _ _ l0 (wrap64 (x8_1 + 1)) t286 t287 t288 t289 t290 t291 t292 t293 t294 t295 t296 _ ?side1 ?side2 A18.out).mono ?_); (case side1 => repeat (first | exact (Kd.C_below HR0.out HB.out) | (with_reducible refine Kd.C_alloc ?_ _) | (with_reducible refine Kd.C_drewN ?_ _) | (with_reducible refine Kd.C_drew ?_))); (case side2 => exact HC0.out); rintro e w22 ⟨rfl, hb⟩; refine ⟨_, rfl, ?_⟩; have n0_ := Aside0.mk (Kd.R_below (Rw HO_10.out) hb); have n1_ := Aside0.mk (blk_below (g := gb285) (o := .cells #[.int .i64 (wrap64 (rd l0 x8_1)), .string (⟨#[]⟩ : ByteArray), .int .i64 0, .int .i64 0, .int .i64 0, .string (⟨#[]⟩ : ByteArray), .bool false, .complex .f64 0 0, .int .i64 0] 54 (0, 0)) (Bk BK285.out) hb); have n2_ := Aside0.mk (below_step (Bl) hb); clear HO_10; clear BK285; clear HB; have HO_10 := n0_; have BK285 := n1_; have HB := n2_; clear n0_ n1_ n2_; (try clear hb); (try clear hb2); (try clear hk); (try clear hi); obtain ⟨_, _, _, _, _, _, _, _, _⟩ := cz9 BK285.out; obtain ⟨_, _, _, _, _, _, _, _, _⟩ := fz9 BK285.out) | ((with_reducible refine gate_builtin (b := .append) (xs := #[.tmp 64, .tmp 66]) rfl ?_); at_builtin; refine Kd.R_append k54 (w0 := w) w.heap.size rfl (.tmp 64) (.tmp 66) 23 54 (.agg #[(.int .i64 0), (.string ⟨#[]⟩), (.int .i64 0), (.int .i64 0), (.int .i64 0), (.string ⟨#[]⟩), (.bool false), (.complex .f64 0 0), (.int .i64 0)]) 96 rfl Try.underlying23 info54 rfl (by decide) (by omega) u10 x10_1 (⟨t286, t287, t288, (⟨t289, t290, t291, t292, t293⟩ : S43), t294⟩ : S54) [.int .i64 t286, .string t287, .int .i64 t288, .int .i64 t289, .int .i64 t290, .string t291, .bool t292, .complex .f64 t293.re t293.im, .int .i64 t294] (fun k_ => k_ ≠ gb285) (fun _ => False) rfl (by first | (go_simp; done) | (go_simp; rfl)) ?aP (fun _ hk => hk.elim) ?aF ?aO ?aB ?aS ?aL ?_; (case aP => exact k54_mkM _ _ _ (⟨t286, t287, t288, (⟨t289, t290, t291, t292, t293⟩ : S43), t294⟩ : S54)); (case aB => exact (Bl)); (case aF => exact (fun k_ hk => Kd.freshB (g := gb285) (o := .cells #[.int .i64 t286, .string t287, .int .i64 t288, .int .i64 t289, .int .i64 t290, .string t291, .bool t292, .complex .f64 t293.re t293.im, .int .i64 t294] 54 (0, 0)) (by (with_reducible repeat (first | refine blk_drewN ?_ _ | refine blk_drew ?_ | refine blk_alloc ?_ _)); refine blk_put (cs := #[.int .i64 t286, .string t287, .int .i64 t288, .int .i64 t289, .int .i64 t290, .string t291, .bool t292, .complex .f64 t293.re t293.im, .int .i64 0]) ?_ 8 _ rfl; (with_reducible repeat (first | refine blk_drewN ?_ _ | refine blk_drew ?_ | refine blk_alloc ?_ _)); refine blk_put (cs := #[.int .i64 t286, .string t287, .int .i64 t288, .int .i64 t289, .int .i64 t290, .string t291, .bool t292, .complex .f64 0 0, .int .i64 0]) ?_ 7 _ rfl; (with_reducible repeat (first | refine blk_drewN ?_ _ | refine blk_drew ?_ | refine blk_alloc ?_ _)); refine blk_put (cs := #[.int .i64 t286, .string t287, .int .i64 t288, .int .i64 t289, .int .i64 t290, .string t291, .bool false, .complex .f64 0 0, .int .i64 0]) ?_ 6 _ rfl; (with_reducible repeat (first | refine blk_drewN ?_ _ | refine blk_drew ?_ | refine blk_alloc ?_ _)); refine blk_put (cs := #[.int .i64 t286, .string t287, .int .i64 t288, .int .i64 t289, .int .i64 t290, .string (⟨#[]⟩ : ByteArray), .bool false, .complex .f64 0 0, .int .i64 0]) ?_ 5 _ rfl; (with_reducible repeat (first | refine blk_drewN ?_ _ | refine blk_drew ?_ | refine blk_alloc ?_ _)); refine blk_put (cs := #[.int .i64 t286, .string t287, .int .i64 t288, .int .i64 t289, .int .i64 0, .string (⟨#[]⟩ : ByteArray), .bool false, .complex .f64 0 0, .int .i64 0]) ?_ 4 _ rfl; (with_reducible repeat (first | refine blk_drewN ?_ _ | refine blk_drew ?_ | refine blk_alloc ?_ _)); refine blk_put (cs := #[.int .i64 t286, .string t287, .int .i64 t288, .int .i64 0, .int .i64 0, .string (⟨#[]⟩ : ByteArray), .bool false, .complex .f64 0 0, .int .i64 0]) ?_ 3 _ rfl; (with_reducible repeat (first | refine blk_drewN ?_ _ | refine blk_drew ?_ | refine blk_alloc ?_ _)); refine blk_put (cs := #[.int .i64 t286, .string t287, .int .i64 0, .int .i64 0, .int .i64 0, .string (⟨#[]⟩ : ByteArray), .bool false, .complex .f64 0 0, .int .i64 0]) ?_ 2 _ rfl; (with_reducible repeat (first | refine blk_drewN ?_ _ | refine blk_drew ?_ | refine blk_alloc ?_ _)); refine blk_put (cs := #[.int .i64 t286, .string (⟨#[]⟩ : ByteArray), .int .i64 0, .int .i64 0, .int .i64 0, .string (⟨#[]⟩ : ByteArray), .bool false, .complex .f64 0 0, .int .i64 0]) ?_ 1 _ rfl; (with_reducible repeat (first | refine blk_drewN ?_ _ | refine blk_drew ?_ | refine blk_alloc ?_ _)); refine blk_put (cs := #[.int .i64 (wrap64 (rd l0 x8_1)), .string (⟨#[]⟩ : ByteArray), .int .i64 0, .int .i64 0, .int .i64 0, .string (⟨#[]⟩ : ByteArray), .bool false, .complex .f64 0 0, .int .i64 0]) ?_ 0 _ rfl; (with_reducible repeat (first | refine blk_drewN ?_ _ | refine blk_drew ?_ | refine blk_alloc ?_ _)); exact BK285.out) k_ hk)); (case aO => exact (by (with_reducible repeat (first | apply Kd.R_alloc | apply Kd.R_drewN | apply Kd.R_drew)); exact Kd.R_mono (Kd.R_far (p := ⟨gb285, 8, none⟩) (Kd.R_far (p := ⟨gb285, 7, none⟩) (Kd.R_far (p := ⟨gb285, 6, none⟩) (Kd.R_far (p := ⟨gb285, 5, none⟩) (Kd.R_far (p := ⟨gb285, 4, none⟩) (Kd.R_far (p := ⟨gb285, 3, none⟩) (Kd.R_far (p := ⟨gb285, 2, none⟩) (Kd.R_far (p := ⟨gb285, 1, none⟩) (Kd.R_far (p := ⟨gb285, 0, none⟩) (Kd.R_mono HO_10.out (fun k_ hk => (⟨hk, hk⟩ : _ ∧ k_ ≠ gb285))) (fun _ hk => hk.2) (.int .i64 t286)) (fun _ hk => hk.2) (.string t287)) (fun _ hk => hk.2) (.int .i64 t288)) (fun _ hk => hk.2) (.int .i64 t289)) (fun _ hk => hk.2) (.int .i64 t290)) (fun _ hk => hk.2) (.string t291)) (fun _ hk => hk.2) (.bool t292)) (fun _ hk => hk.2) (.complex .f64 t293.re t293.im)) (fun _ hk => hk.2) (.int .i64 t294)) (fun _ hk => hk.1))); (case aS => exact (below_size (Bl))); (case aL => have := LMc20.out; omega); intro v298 w24 ho hb hg hat; rw [← Ny297.out] at ho; have n0_ := Aside0.mk (blk_grown (g := gb285) (o := .cells #[.int .i64 t286, .string t287, .int .i64 t288, .int .i64 t289, .int .i64 t290, .string t291, .bool t292, .complex .f64 t293.re t293.im, .int .i64 t294] 54 (0, 0)) (by (with_reducible repeat (first | refine blk_drewN ?_ _ | refine blk_drew ?_ | refine blk_alloc ?_ _)); refine blk_put (cs := #[.int .i64 t286, .string t287, .int .i64 t288, .int .i64 t289, .int .i64 t290, .string t291, .bool t292, .complex .f64 t293.re t293.im, .int .i64 0]) ?_ 8 _ rfl; (with_reducible repeat (first | refine blk_drewN ?_ _ | refine blk_drew ?_ | refine blk_alloc ?_ _)); refine blk_put (cs := #[.int .i64 t286, .string t287, .int .i64 t288, .int .i64 t289, .int .i64 t290, .string t291, .bool t292, .complex .f64 0 0, .int .i64 0]) ?_ 7 _ rfl; (with_reducible repeat (first | refine blk_drewN ?_ _ | refine blk_drew ?_ | refine blk_alloc ?_ _)); refine blk_put (cs := #[.int .i64 t286, .string t287, .int .i64 t288, .int .i64 t289, .int .i64 t290, .string t291, .bool false, .complex .f64 0 0, .int .i64 0]) ?_ 6 _ rfl; (with_reducible repeat (first | refine blk_drewN ?_ _ | refine blk_drew ?_ | refine blk_alloc ?_ _)); refine blk_put (cs := #[.int .i64 t286, .string t287, .int .i64 t288, .int .i64 t289, .int .i64 t290, .string (⟨#[]⟩ : ByteArray), .bool false, .complex .f64 0 0, .int .i64 0]) ?_ 5 _ rfl; (with_reducible repeat (first | refine blk_drewN ?_ _ | refine blk_drew ?_ | refine blk_alloc ?_ _)); refine blk_put (cs := #[.int .i64 t286, .string t287, .int .i64 t288, .int .i64 t289, .int .i64 0, .string (⟨#[]⟩ : ByteArray), .bool false, .complex .f64 0 0, .int .i64 0]) ?_ 4 _ rfl; (with_reducible repeat (first | refine blk_drewN ?_ _ | refine blk_drew ?_ | refine blk_alloc ?_ _)); refine blk_put (cs := #[.int .i64 t286, .string t287, .int .i64 t288, .int .i64 0, .int .i64 0, .string (⟨#[]⟩ : ByteArray), .bool false, .complex .f64 0 0, .int .i64 0]) ?_ 3 _ rfl; (with_reducible repeat (first | refine blk_drewN ?_ _ | refine blk_drew ?_ | refine blk_alloc ?_ _)); refine blk_put (cs := #[.int .i64 t286, .string t287, .int .i64 0, .int .i64 0, .int .i64 0, .string (⟨#[]⟩ : ByteArray), .bool false, .complex .f64 0 0, .int .i64 0]) ?_ 2 _ rfl; (with_reducible repeat (first | refine blk_drewN ?_ _ | refine blk_drew ?_ | refine blk_alloc ?_ _)); refine blk_put (cs := #[.int .i64 t286, .string (⟨#[]⟩ : ByteArray), .int .i64 0, .int .i64 0, .int .i64 0, .string (⟨#[]⟩ : ByteArray), .bool false, .complex .f64 0 0, .int .i64 0]) ?_ 1 _ rfl; (with_reducible repeat (first | refine blk_drewN ?_ _ | refine blk_drew ?_ | refine blk_alloc ?_ _)); refine blk_put (cs := #[.int .i64 (wrap64 (rd l0 x8_1)), .string (⟨#[]⟩ : ByteArray), .int .i64 0, .int .i64 0, .int .i64 0, .string (⟨#[]⟩ : ByteArray), .bool false, .complex .f64 0 0, .int .i64 0]) ?_ 0 _ rfl; (with_reducible repeat (first | refine blk_drewN ?_ _ | refine blk_drew ?_ | refine blk_alloc ?_ _)); exact BK285.out) hg (Kd.R_away HO_10.out (fun _ hk => hk))); have n1_ := Aside0.mk (hb); have n2_ := Aside0.mk (ho); clear BK285; clear HB; clear HO_10; have BK285 := n0_; have HB := n1_; have HO299 := n2_; clear n0_ n1_ n2_; clear ho hb hg hat))
               go_roundg kj9
               case measure => have := HK1.out; have := HJ9.out; omega
               case rel => exact ⟨(t295), (y297), (wrap64 (x27_1 + 1)), (by first | rfl | (simp; done) | (simp [*]; done)), (by first | rfl | (simp; done) | (simp [*]; done)), H', ⟨by have := HK1.out; have := HJ9.out; omega⟩, ⟨by (with_reducible repeat (first | apply Kd.R_alloc | apply Kd.R_drewN | apply Kd.R_drew)); exact Kd.R_mono HO299.out (fun _ hk => trivial)⟩, ⟨Bl⟩⟩
              ·rw [if_neg c20] at H
               exact absurd H (by simp)
             ·rw [if_neg c19] at H
              have c19b0 : (t296 == 0) = false := beq_eq_false_iff_ne.mpr c19
              have c19b1 : (t296 != 0) = true := bne_iff_ne.mpr c19
              simp only [Option.some.injEq, Prod.mk.injEq] at H
              obtain ⟨rfl, rfl, rfl⟩ := H
              obtain ⟨_, _, _, _, _, _, _, _, _⟩ := cz9 BK285.out
              obtain ⟨_, _, _, _, _, _, _, _, _⟩ := fz9 BK285.out
              go_wp2_with (first | ((with_reducible refine gate_callee (f := 25) rfl ?_); refine goesL_ (some 57) rfl rfl Try.func25 (by kernel_rfl) rfl #[.slice (some ad284) l0.length c0, .int .i64 (wrap64 (x8_1 + 1))] rfl (Mp) ?_; (with_reducible refine (pred_take.calls kj9 _ _ l0 (wrap64 (x8_1 + 1)) t286 t287 t288 t289 t290 t291 t292 t293 t294 t295 t296 _ ?side1 ?side2 A18.out).mono ?_); (case side1 => repeat (first | exact (Kd.C_below HR0.out HB.out) | (with_reducible refine Kd.C_alloc ?_ _) | (with_reducible refine Kd.C_drewN ?_ _) | (with_reducible refine Kd.C_drew ?_))); (case side2 => exact HC0.out); rintro e w26 ⟨rfl, hb⟩; refine ⟨_, rfl, ?_⟩; have n0_ := Aside0.mk (Kd.R_below (Rw HO_10.out) hb); have n1_ := Aside0.mk (blk_below (g := gb285) (o := .cells #[.int .i64 (wrap64 (rd l0 x8_1)), .string (⟨#[]⟩ : ByteArray), .int .i64 0, .int .i64 0, .int .i64 0, .string (⟨#[]⟩ : ByteArray), .bool false, .complex .f64 0 0, .int .i64 0] 54 (0, 0)) (Bk BK285.out) hb); have n2_ := Aside0.mk (below_step (Bl) hb); clear HO_10; clear BK285; clear HB; have HO_10 := n0_; have BK285 := n1_; have HB := n2_; clear n0_ n1_ n2_; (try clear hb); (try clear hb2); (try clear hk); (try clear hi); obtain ⟨_, _, _, _, _, _, _, _, _⟩ := cz9 BK285.out; obtain ⟨_, _, _, _, _, _, _, _, _⟩ := fz9 BK285.out))
              go_ret3
              exact ⟨_, by first | rfl | (simp [errW_none, errW_some] <;> rfl) | (simp [*, errW_none, errW_some] <;> rfl), by first | exact Kd.R_nil _ _ _ _ _ | exact Kd.N_nil _ _ _ _ _ | exact Kd.V_nil _ _ _ _ _ | exact Kd.Q_nil _ _ _ _ _ | exact Kd.S_nil _ _ _ _ _, Bl⟩
            ·rw [if_neg c17] at H
             have c17b0 : ((wrap64 (rd l0 x8_1)) == 3) = false := beq_eq_false_iff_ne.mpr c17
             have c17b1 : ((wrap64 (rd l0 x8_1)) != 3) = true := bne_iff_ne.mpr c17
             by_cases c28 : x10_1.length < 1466015503701
             ·rw [if_pos c28] at H
              have LMc28 := Aside0.mk c28
              clear c28
              obtain ⟨y300, hy300⟩ : ∃ y_ : List (S54), y_ = (x10_1 ++ [(⟨(wrap64 (rd l0 x8_1)), (⟨#[]⟩ : ByteArray), 0, (⟨0, 0, (⟨#[]⟩ : ByteArray), false, (⟨0, 0⟩ : Cx)⟩ : S43), 0⟩ : S54)]) := ⟨_, rfl⟩
              replace H : (pred_Take.l0 kj9 l0 (wrap64 (x8_1 + 1)) y300 (wrap64 (t280)) (wrap64 (x27_1 + 1))) = some (r1, r2, r3) := by first | (rw [hy300]; with_reducible exact H) | (have H2_ := (Option.bind_some _ _).symm.trans H; rw [hy300]; with_reducible exact H2_) | (have H2_ := (Option.bind_some _ _).symm.trans H; with_reducible exact H2_) | with_reducible exact H | (rw [hy300]; exact H) | exact H
              have Ny300 := Aside0.mk hy300
              clear hy300
              have H' := Aside0.mk H
              clear H
              obtain ⟨_, _, _, _, _, _, _, _, _⟩ := cz9 BK285.out
              obtain ⟨_, _, _, _, _, _, _, _, _⟩ := fz9 BK285.out
              go_wp2_with (first | ((with_reducible refine gate_builtin (b := .append) (xs := #[.tmp 64, .tmp 66]) rfl ?_); at_builtin; refine Kd.R_append k54 (w0 := w) w.heap.size rfl (.tmp 64) (.tmp 66) 23 54 (.agg #[(.int .i64 0), (.string ⟨#[]⟩), (.int .i64 0), (.int .i64 0), (.int .i64 0), (.string ⟨#[]⟩), (.bool false), (.complex .f64 0 0), (.int .i64 0)]) 96 rfl Try.underlying23 info54 rfl (by decide) (by omega) u10 x10_1 (⟨(wrap64 (rd l0 x8_1)), (⟨#[]⟩ : ByteArray), 0, (⟨0, 0, (⟨#[]⟩ : ByteArray), false, (⟨0, 0⟩ : Cx)⟩ : S43), 0⟩ : S54) [.int .i64 (wrap64 (rd l0 x8_1)), .string (⟨#[]⟩ : ByteArray), .int .i64 0, .int .i64 0, .int .i64 0, .string (⟨#[]⟩ : ByteArray), .bool false, .complex .f64 0 0, .int .i64 0] (fun k_ => k_ ≠ gb285) (fun _ => False) rfl rfl ?aP (fun _ hk => hk.elim) ?aF ?aO ?aB ?aS ?aL ?_; (case aP => exact k54_mkM _ _ _ (⟨(wrap64 (rd l0 x8_1)), (⟨#[]⟩ : ByteArray), 0, (⟨0, 0, (⟨#[]⟩ : ByteArray), false, (⟨0, 0⟩ : Cx)⟩ : S43), 0⟩ : S54)); (case aB => exact (Bl)); (case aF => exact (fun k_ hk => Kd.freshB (g := gb285) (o := .cells #[.int .i64 (wrap64 (rd l0 x8_1)), .string (⟨#[]⟩ : ByteArray), .int .i64 0, .int .i64 0, .int .i64 0, .string (⟨#[]⟩ : ByteArray), .bool false, .complex .f64 0 0, .int .i64 0] 54 (0, 0)) (Bk BK285.out) k_ hk)); (case aO => exact (Rw HO_10.out)); (case aS => exact (below_size (Bl))); (case aL => have := LMc28.out; omega); intro v301 w30 ho hb hg hat; rw [← Ny300.out] at ho; have n0_ := Aside0.mk (blk_grown (g := gb285) (o := .cells #[.int .i64 (wrap64 (rd l0 x8_1)), .string (⟨#[]⟩ : ByteArray), .int .i64 0, .int .i64 0, .int .i64 0, .string (⟨#[]⟩ : ByteArray), .bool false, .complex .f64 0 0, .int .i64 0] 54 (0, 0)) (Bk BK285.out) hg (Kd.R_away HO_10.out (fun _ hk => hk))); have n1_ := Aside0.mk (hb); have n2_ := Aside0.mk (ho); clear BK285; clear HB; clear HO_10; have BK285 := n0_; have HB := n1_; have HO302 := n2_; clear n0_ n1_ n2_; clear ho hb hg hat))
              go_roundg kj9
              case measure => have := HK1.out; have := HJ9.out; omega
              case rel => exact ⟨((wrap64 (x8_1 + 1))), (y300), (wrap64 (x27_1 + 1)), (by first | rfl | (simp; done) | (simp [*]; done)), (by first | rfl | (simp; done) | (simp [*]; done)), H', ⟨by have := HK1.out; have := HJ9.out; omega⟩, ⟨by (with_reducible repeat (first | apply Kd.R_alloc | apply Kd.R_drewN | apply Kd.R_drew)); exact Kd.R_mono HO302.out (fun _ hk => trivial)⟩, ⟨Bl⟩⟩
             ·rw [if_neg c28] at H
              exact absurd H (by simp)
        ·rw [if_neg c9] at H
         exact absurd H (by simp)
       ·rw [if_neg c8] at H
        exact absurd H (by simp)
     ·rw [if_neg c6] at H
      have c6b0 : decide (x27_1 < (wrap64 (t280))) = false := decide_eq_false c6
      clear c6
      replace H := Option.bind_eq_some_iff.mp H
      obtain ⟨t283, A310, H⟩ := H
      replace H : (if t283 = 0 then (some (x10_1, x8_1, 0)) else (some (([] : List (S54)), 0, t283))) = some (r1, r2, r3) := H
      have A31 := Aside0.mk A310
      clear A310
      by_cases c32 : t283 = 0
      ·rw [if_pos c32] at H
       have c32b0 : (t283 == 0) = true := beq_iff_eq.mpr c32
       have c32b1 : (t283 != 0) = false := bne_eq_false_iff_eq.mpr c32
       clear c32
       simp only [Option.some.injEq, Prod.mk.injEq] at H
       obtain ⟨rfl, rfl, rfl⟩ := H
       obtain ⟨Ao33, co33, eo33⟩ := Kd.R_slice HO_10.out
       subst eo33
       go_wp2_with (first | ((with_reducible refine gate_callee (f := 11) rfl ?_); refine goesL_ (some 70) rfl rfl Try.func11 (by kernel_rfl) rfl #[.slice Ao33 x10_1.length co33] rfl (Mp) ?_; (with_reducible refine (pred_Check.calls k1 _ _ x10_1 t283 _ ?side1 ?side2 A31.out).mono ?_); (case side1 => repeat (first | exact (Kd.R_reads' HO_10.out).2.2 | (with_reducible refine Kd.C_alloc ?_ _) | (with_reducible refine Kd.C_drewN ?_ _) | (with_reducible refine Kd.C_drew ?_))); (case side2 => exact (Kd.R_reads' HO_10.out).2.1); rintro e w34 ⟨rfl, hb⟩; refine ⟨_, rfl, ?_⟩; have n0_ := Aside0.mk (Kd.R_below (Rw HO_10.out) hb); have n1_ := Aside0.mk (below_step (Bl) hb); clear HO_10; clear HB; have HO_10 := n0_; have HB := n1_; clear n0_ n1_; (try clear hb); (try clear hb2); (try clear hk); (try clear hi)))
       go_ret3
       exact ⟨_, by first | rfl | (simp [errW_none, errW_some] <;> rfl) | (simp [*, errW_none, errW_some] <;> rfl), by (with_reducible repeat (first | apply Kd.R_alloc | apply Kd.R_drewN | apply Kd.R_drew)); exact HO_10.out, Bl⟩
      ·rw [if_neg c32] at H
       have c32b0 : (t283 == 0) = false := beq_eq_false_iff_ne.mpr c32
       have c32b1 : (t283 != 0) = true := bne_iff_ne.mpr c32
       simp only [Option.some.injEq, Prod.mk.injEq] at H
       obtain ⟨rfl, rfl, rfl⟩ := H
       obtain ⟨Ao35, co35, eo35⟩ := Kd.R_slice HO_10.out
       subst eo35
       go_wp2_with (first | ((with_reducible refine gate_callee (f := 11) rfl ?_); refine goesL_ (some 70) rfl rfl Try.func11 (by kernel_rfl) rfl #[.slice Ao35 x10_1.length co35] rfl (Mp) ?_; (with_reducible refine (pred_Check.calls k1 _ _ x10_1 t283 _ ?side1 ?side2 A31.out).mono ?_); (case side1 => repeat (first | exact (Kd.R_reads' HO_10.out).2.2 | (with_reducible refine Kd.C_alloc ?_ _) | (with_reducible refine Kd.C_drewN ?_ _) | (with_reducible refine Kd.C_drew ?_))); (case side2 => exact (Kd.R_reads' HO_10.out).2.1); rintro e w36 ⟨rfl, hb⟩; refine ⟨_, rfl, ?_⟩; have n0_ := Aside0.mk (Kd.R_below (Rw HO_10.out) hb); have n1_ := Aside0.mk (below_step (Bl) hb); clear HO_10; clear HB; have HO_10 := n0_; have HB := n1_; clear n0_ n1_; (try clear hb); (try clear hb2); (try clear hk); (try clear hi)))
       go_ret3
       exact ⟨_, by first | rfl | (simp [errW_none, errW_some] <;> rfl) | (simp [*, errW_none, errW_some] <;> rfl), by first | exact Kd.R_nil _ _ _ _ _ | exact Kd.N_nil _ _ _ _ _ | exact Kd.V_nil _ _ _ _ _ | exact Kd.Q_nil _ _ _ _ _ | exact Kd.S_nil _ _ _ _ _, Bl⟩
 ·rw [if_neg c4] at H
  have c4b0 : (t282 == 0) = false := beq_eq_false_iff_ne.mpr c4
  have c4b1 : (t282 != 0) = true := bne_iff_ne.mpr c4
  simp only [Option.some.injEq, Prod.mk.injEq] at H
  obtain ⟨rfl, rfl, rfl⟩ := H
  go_enter Try.func12, Try.ntmps12
  go_wp2_with (first | ((with_reducible refine gate_callee (f := 24) rfl ?_); refine goesL_ (some 16) rfl rfl Try.func24 (by kernel_rfl) rfl #[.slice A0 l0.length c0, .int .i64 a1] rfl (Mp) ?_; (with_reducible refine (octet_TakeUint.calls k _ _ l0 a1 t280 t281 t282 _ ?side1 ?side2 A3.out).mono ?_); (case side1 => repeat (first | exact HR0.out | (with_reducible refine Kd.C_alloc ?_ _) | (with_reducible refine Kd.C_drewN ?_ _) | (with_reducible refine Kd.C_drew ?_))); (case side2 => exact HC0.out); rintro e w' ⟨rfl, ⟨nd, rfl⟩⟩; refine ⟨_, rfl, ?_⟩))
  go_ret3
  exact ⟨_, by first | rfl | (simp [errW_none, errW_some] <;> rfl) | (simp [*, errW_none, errW_some] <;> rfl), by first | exact Kd.R_nil _ _ _ _ _ | exact Kd.N_nil _ _ _ _ _ | exact Kd.V_nil _ _ _ _ _ | exact Kd.Q_nil _ _ _ _ _ | exact Kd.S_nil _ _ _ _ _, Bl⟩

end Go.Proofs.Ytmgljgmieomngaa.Q
