/- Functions of the program as Lean functions, each with its walk: that the Go code comes to just these answers, whatever the memory. Written by a program of this claim (wip/tools). -/
import Derived.Test.YtmgljgmieomngaaMc
import Derived.Test.YtmgljgmieomngaaQx0
import Derived.Test.YtmgljgmieomngaaQx2
import Derived.Test.YtmgljgmieomngaaQx3
import Derived.Test.YtmgljgmieomngaaQx6
import Derived.Test.YtmgljgmieomngaaQx7
namespace Go.Proofs.Ytmgljgmieomngaa.Q
open Go.RowKit Go.Proofs.YtmgljgmieomngaaW.PrintWords Go.Proofs.YtmgljgmieomngaaW.PrintLast Go.Proofs.YtmgljgmieomngaaW.PrintMore
attribute [local go_sem] run_ftoi isSome_setCell bytesLess_total run_store_complex run_store_float max2_int min2_int max_two min_two max_three min_three max_four min_four   -- for this text's walks alone
set_option linter.unusedVariables false
set_option linter.unusedSimpArgs false

/-! ### pred_atom: function 23 -/
def pred_atom.j0 : Nat → Bool → Int → ByteArray → Int → Int → Int → ByteArray → Bool → Cx → Int → Option (Int)
 | 0, _, _, _, _, _, _, _, _, _, _ => none
 | k + 1, x9, x110000, x110001, x110002, x110003, x110004, x110005, x110006, x110007, x110008 => if x9 = true then (some 2) else ((pred_bare.f x110002).bind fun t111 => (if t111 = true then (some 0) else ((value_Check.f k x110003 x110004 x110005 x110006 x110007).bind fun t112 => (if t112 = 0 then ((pred_kind.f k x110002 x110003).bind fun t113 => (if t113 = true then (if x110002 = 10 then (if x110008 < 0 then (some 2) else (if x110008 > 1048576 then (some 2) else (some 0))) else (some 0)) else (some 12))) else (some t112)))))
def pred_atom.f (k : Nat) (a0_0 : Int) (a0_1 : ByteArray) (a0_2 : Int) (a0_3 : Int) (a0_4 : Int) (a0_5 : ByteArray) (a0_6 : Bool) (a0_7 : Cx) (a0_8 : Int) : Option (Int) := (event_Name.f k a0_1).bind fun t110 => (if t110 = true then (if a0_2 < 1 then (pred_atom.j0 k true a0_0 a0_1 a0_2 a0_3 a0_4 a0_5 a0_6 a0_7 a0_8) else (pred_atom.j0 k (decide (a0_2 > 10)) a0_0 a0_1 a0_2 a0_3 a0_4 a0_5 a0_6 a0_7 a0_8)) else (some 11))
theorem pred_atom.mono_l : ∀ k, (∀ y0 y1 y2 y3 y4 y5 y6 y7 y8 y9, LeO (pred_atom.j0 k y0 y1 y2 y3 y4 y5 y6 y7 y8 y9) (pred_atom.j0 (k + 1) y0 y1 y2 y3 y4 y5 y6 y7 y8 y9))
 | 0 => fun _ _ _ _ _ _ _ _ _ _ r h => by simp [pred_atom.j0] at h
 | k + 1 => by
  have ih0 := pred_atom.mono_l k
  ·intro y0 y1 y2 y3 y4 y5 y6 y7 y8 y9
   unfold pred_atom.j0
   repeat' first
   | (with_reducible exact ih0 _ _ _ _ _ _ _ _ _ _)
   | (with_reducible exact event_Name.mono _ _)
   | (with_reducible exact pred_kind.mono _ _ _)
   | (with_reducible exact value_Check.mono _ _ _ _ _ _)
   | (with_reducible exact LeO.refl _)
   | (with_reducible exact LeO.none _)
   | (with_reducible refine LeO.ite ?_ ?_)
   | (with_reducible refine LeO.bind ?_ (fun _ => ?_))
   | exact ih0 _ _ _ _ _ _ _ _ _ _
   | exact event_Name.mono _ _
   | exact pred_kind.mono _ _ _
   | exact value_Check.mono _ _ _ _ _ _
   | exact LeO.none _
   | refine LeO.ite ?_ ?_
   | refine LeO.bind ?_ (fun _ => ?_)
theorem pred_atom.mono : ∀ a0 a1 a2 a3 a4 a5 a6 a7 a8 k, LeO (pred_atom.f k a0 a1 a2 a3 a4 a5 a6 a7 a8) (pred_atom.f (k + 1) a0 a1 a2 a3 a4 a5 a6 a7 a8) := by
 intro a0 a1 a2 a3 a4 a5 a6 a7 a8 k
 have ih0 := pred_atom.mono_l k
 unfold pred_atom.f
 repeat' first
   | (with_reducible exact ih0 _ _ _ _ _ _ _ _ _ _)
   | (with_reducible exact event_Name.mono _ _)
   | (with_reducible exact pred_kind.mono _ _ _)
   | (with_reducible exact value_Check.mono _ _ _ _ _ _)
   | (with_reducible exact LeO.refl _)
   | (with_reducible exact LeO.none _)
   | (with_reducible refine LeO.ite ?_ ?_)
   | (with_reducible refine LeO.bind ?_ (fun _ => ?_))
   | exact ih0 _ _ _ _ _ _ _ _ _ _
   | exact event_Name.mono _ _
   | exact pred_kind.mono _ _ _
   | exact value_Check.mono _ _ _ _ _ _
   | exact LeO.none _
   | refine LeO.ite ?_ ?_
   | refine LeO.bind ?_ (fun _ => ?_)
set_option maxHeartbeats 8000000 in
set_option maxRecDepth 100000 in
theorem pred_atom.calls (k : Nat) (a0_0 : Int) (a0_1 : ByteArray) (a0_2 : Int) (a0_3 : Int) (a0_4 : Int) (a0_5 : ByteArray) (a0_6 : Bool) (a0_7 : Cx) (a0_8 : Int) (r : Int) (w : World) (h : pred_atom.f k a0_0 a0_1 a0_2 a0_3 a0_4 a0_5 a0_6 a0_7 a0_8 = some r) :
  Calls Try.prog 23 #[.agg #[.int .i64 a0_0, .string a0_1, .int .i64 a0_2, .int .i64 a0_3, .int .i64 a0_4, .string a0_5, .bool a0_6, .complex .f64 a0_7.re a0_7.im, .int .i64 a0_8]] w fun e w' => e = .returned (.int .i64 r) ∧ Below w.heap.size w w' := by
 have hu54 := Try.underlying54
 have hu43 := Try.underlying43
 have HB := Aside0.mk (Below.refl w.heap.size w)
 have H : ((event_Name.f k a0_1).bind fun t110 => (if t110 = true then (if a0_2 < 1 then (pred_atom.j0 k true a0_0 a0_1 a0_2 a0_3 a0_4 a0_5 a0_6 a0_7 a0_8) else (pred_atom.j0 k (decide (a0_2 > 10)) a0_0 a0_1 a0_2 a0_3 a0_4 a0_5 a0_6 a0_7 a0_8)) else (some 11))) = some r := h
 clear h
 replace H := Option.bind_eq_some_iff.mp H
 obtain ⟨t110, A20, H⟩ := H
 replace H : (if t110 = true then (if a0_2 < 1 then (pred_atom.j0 k true a0_0 a0_1 a0_2 a0_3 a0_4 a0_5 a0_6 a0_7 a0_8) else (pred_atom.j0 k (decide (a0_2 > 10)) a0_0 a0_1 a0_2 a0_3 a0_4 a0_5 a0_6 a0_7 a0_8)) else (some 11)) = some r := H
 have A2 := Aside0.mk A20
 clear A20
 by_cases c3 : t110 = true
 ·subst c3
  have H1 : (if a0_2 < 1 then (pred_atom.j0 k true a0_0 a0_1 a0_2 a0_3 a0_4 a0_5 a0_6 a0_7 a0_8) else (pred_atom.j0 k (decide (a0_2 > 10)) a0_0 a0_1 a0_2 a0_3 a0_4 a0_5 a0_6 a0_7 a0_8)) = some r := by rw [if_pos rfl] at H; exact H
  clear H
  have H := H1
  clear H1
  have HC4 := Aside0.mk H
  clear H
  go_enter Try.func23, Try.ntmps23
  go_upto_region 3 with (first | ((with_reducible refine gate_dst (N := 1) rfl ?_); refine box_event ?hg (N := 1) ?hd (cs := #[.int .i64 a0_0, .string a0_1, .int .i64 a0_2, .int .i64 a0_3, .int .i64 a0_4, .string a0_5, .bool a0_6, .complex .f64 a0_7.re a0_7.im, .int .i64 a0_8]) (t := 54) ?hr ?_; (case hd => rfl); (case hg => rfl); (case hr => first | (go_simp; done) | (go_simp; rfl)); intro gb109 hg w5 hbox hb; have n0_ := Aside0.mk (below_step (Bl) hb); have n1_ := Aside0.mk (hbox); have n2_ := Aside0.mk ((by rw [hg]; exact (below_size (Bl)) : w.heap.size ≤ gb109)); have n3_ := Aside0.mk ((by rw [hg]; exact (below_size (Bl)) : w.heap.size ≤ gb109)); clear HB; have HB := n0_; have BK109 := n1_; have GW109 := n2_; have GE109 := n3_; clear n0_ n1_ n2_ n3_; clear hb hbox hg; obtain ⟨hcz6_0, hcz6_1, hcz6_2, hcz6_3, hcz6_4, hcz6_5, hcz6_6, hcz6_7, hcz6_8⟩ := cz9 BK109.out; obtain ⟨hfz6_0, hfz6_1, hfz6_2, hfz6_3, hfz6_4, hfz6_5, hfz6_6, hfz6_7, hfz6_8⟩ := fz9 BK109.out) | ((with_reducible refine gate_callee (f := 44) rfl ?_); refine goesL_ (some 7) rfl rfl Try.func44 (by kernel_rfl) rfl #[.string a0_1] rfl (Mp) ?_; (with_reducible refine (event_Name.calls k a0_1 true _ A2.out).mono ?_); rintro e w' ⟨rfl, ⟨nd, rfl⟩⟩; refine ⟨_, rfl, ?_⟩))
  (try simp only [Act.put, List.setIfInBounds_toArray, List.set_cons_zero, List.set_cons_succ])
  go_cut [9] (fun v9 wc => ∃ (kq : Nat) (x9_3 : Bool), v9 = .bool x9_3 ∧ Aside0 (pred_atom.j0 kq x9_3 a0_0 a0_1 a0_2 a0_3 a0_4 a0_5 a0_6 a0_7 a0_8 = some r) ∧ Aside0 (kq ≤ k) ∧ Aside0 (wc.heap[gb109]? = some (.cells #[.int .i64 a0_0, .string a0_1, .int .i64 a0_2, .int .i64 a0_3, .int .i64 a0_4, .string a0_5, .bool a0_6, .complex .f64 a0_7.re a0_7.im, .int .i64 a0_8] 54 (0, 0))) ∧ Aside0 (Below w.heap.size w wc))
  case first =>
   have H := HC4.out
   clear HC4
   by_cases c7 : a0_2 < 1
   ·rw [if_pos c7] at H
    have c7b0 : decide (a0_2 < 1) = true := decide_eq_true c7
    clear c7
    (first | rw [c7b0] | (simp only [i64_w, i32_w]; rw [c7b0]) | skip)
    have H' := Aside0.mk H
    clear H
    obtain ⟨_, _, _, _, _, _, _, _, _⟩ := cz9 BK109.out
    obtain ⟨_, _, _, _, _, _, _, _, _⟩ := fz9 BK109.out
    go_wp2
    go_meet
    case rel => exact ⟨_, (true), (by first | rfl | (simp; done) | (simp [*]; done)), H', ⟨by first | omega | exact Nat.le_refl _⟩, ⟨Bk BK109.out⟩, ⟨Bl⟩⟩
   ·rw [if_neg c7] at H
    have c7b0 : decide (a0_2 < 1) = false := decide_eq_false c7
    clear c7
    (first | rw [c7b0] | (simp only [i64_w, i32_w]; rw [c7b0]) | skip)
    have H' := Aside0.mk H
    clear H
    obtain ⟨_, _, _, _, _, _, _, _, _⟩ := cz9 BK109.out
    obtain ⟨_, _, _, _, _, _, _, _, _⟩ := fz9 BK109.out
    go_wp2
    go_meet
    case rel => exact ⟨_, (decide (a0_2 > 10)), (by first | rfl | (simp; done) | (simp [*]; done)), H', ⟨by first | omega | exact Nat.le_refl _⟩, ⟨Bk BK109.out⟩, ⟨Bl⟩⟩
  case rest =>
   clear HC4
   try clear hcz6_0
   try clear hcz6_1
   try clear hcz6_2
   try clear hcz6_3
   try clear hcz6_4
   try clear hcz6_5
   try clear hcz6_6
   try clear hcz6_7
   try clear hcz6_8
   try clear hfz6_0
   try clear hfz6_1
   try clear hfz6_2
   try clear hfz6_3
   try clear hfz6_4
   try clear hfz6_5
   try clear hfz6_6
   try clear hfz6_7
   try clear hfz6_8
   obtain ⟨kq, x9_3, rfl, HA, HJ3, BK109, HB⟩ := hcut
   cases kq with
   | zero => exact absurd HA.out (by simp [pred_atom.j0])
   | succ kj3 =>
    have H := HA.out
    clear HA
    simp only [pred_atom.j0] at H
    by_cases c10 : x9_3 = true
    ·subst c10
     have H1 : (some 2) = some r := by rw [if_pos rfl] at H; exact H
     clear H
     have H := H1
     clear H1
     obtain rfl := Option.some.inj H
     go_wp2
     go_ret
     exact ⟨by first | rfl | (simp [errW_none, errW_some] <;> rfl) | (simp [*, errW_none, errW_some] <;> rfl), Bl⟩
    ·replace c10 := Bool.eq_false_iff.mpr c10
     subst c10
     have H1 : ((pred_bare.f a0_2).bind fun t111 => (if t111 = true then (some 0) else ((value_Check.f kj3 a0_3 a0_4 a0_5 a0_6 a0_7).bind fun t112 => (if t112 = 0 then ((pred_kind.f kj3 a0_2 a0_3).bind fun t113 => (if t113 = true then (if a0_2 = 10 then (if a0_8 < 0 then (some 2) else (if a0_8 > 1048576 then (some 2) else (some 0))) else (some 0)) else (some 12))) else (some t112))))) = some r := by rw [if_neg (show ¬ (false = true) by decide)] at H; exact H
     clear H
     have H := H1
     clear H1
     replace H := Option.bind_eq_some_iff.mp H
     obtain ⟨t111, A110, H⟩ := H
     replace H : (if t111 = true then (some 0) else ((value_Check.f kj3 a0_3 a0_4 a0_5 a0_6 a0_7).bind fun t112 => (if t112 = 0 then ((pred_kind.f kj3 a0_2 a0_3).bind fun t113 => (if t113 = true then (if a0_2 = 10 then (if a0_8 < 0 then (some 2) else (if a0_8 > 1048576 then (some 2) else (some 0))) else (some 0)) else (some 12))) else (some t112)))) = some r := H
     have A11 := Aside0.mk A110
     clear A110
     by_cases c12 : t111 = true
     ·subst c12
      have H1 : (some 0) = some r := by rw [if_pos rfl] at H; exact H
      clear H
      have H := H1
      clear H1
      obtain rfl := Option.some.inj H
      obtain ⟨_, _, _, _, _, _, _, _, _⟩ := cz9 BK109.out
      obtain ⟨_, _, _, _, _, _, _, _, _⟩ := fz9 BK109.out
      go_wp2_with (first | ((with_reducible refine gate_callee (f := 31) rfl ?_); refine goesL_ (some 21) rfl rfl Try.func31 (by kernel_rfl) rfl #[.int .i64 a0_2] rfl (Mp) ?_; (with_reducible refine (pred_bare.calls a0_2 true _ A11.out).mono ?_); rintro e w' ⟨rfl, ⟨nd, rfl⟩⟩; refine ⟨_, rfl, ?_⟩))
      go_ret
      exact ⟨by first | rfl | (simp [errW_none, errW_some] <;> rfl) | (simp [*, errW_none, errW_some] <;> rfl), Bl⟩
     ·replace c12 := Bool.eq_false_iff.mpr c12
      subst c12
      have H1 : ((value_Check.f kj3 a0_3 a0_4 a0_5 a0_6 a0_7).bind fun t112 => (if t112 = 0 then ((pred_kind.f kj3 a0_2 a0_3).bind fun t113 => (if t113 = true then (if a0_2 = 10 then (if a0_8 < 0 then (some 2) else (if a0_8 > 1048576 then (some 2) else (some 0))) else (some 0)) else (some 12))) else (some t112))) = some r := by rw [if_neg (show ¬ (false = true) by decide)] at H; exact H
      clear H
      have H := H1
      clear H1
      replace H := Option.bind_eq_some_iff.mp H
      obtain ⟨t112, A140, H⟩ := H
      replace H : (if t112 = 0 then ((pred_kind.f kj3 a0_2 a0_3).bind fun t113 => (if t113 = true then (if a0_2 = 10 then (if a0_8 < 0 then (some 2) else (if a0_8 > 1048576 then (some 2) else (some 0))) else (some 0)) else (some 12))) else (some t112)) = some r := H
      have A14 := Aside0.mk A140
      clear A140
      by_cases c15 : t112 = 0
      ·rw [if_pos c15] at H
       have c15b0 : (t112 == 0) = true := beq_iff_eq.mpr c15
       have c15b1 : (t112 != 0) = false := bne_eq_false_iff_eq.mpr c15
       clear c15
       replace H := Option.bind_eq_some_iff.mp H
       obtain ⟨t113, A160, H⟩ := H
       replace H : (if t113 = true then (if a0_2 = 10 then (if a0_8 < 0 then (some 2) else (if a0_8 > 1048576 then (some 2) else (some 0))) else (some 0)) else (some 12)) = some r := H
       have A16 := Aside0.mk A160
       clear A160
       by_cases c17 : t113 = true
       ·subst c17
        have H1 : (if a0_2 = 10 then (if a0_8 < 0 then (some 2) else (if a0_8 > 1048576 then (some 2) else (some 0))) else (some 0)) = some r := by rw [if_pos rfl] at H; exact H
        clear H
        have H := H1
        clear H1
        by_cases c18 : a0_2 = 10
        ·rw [if_pos c18] at H
         have c18b0 : (a0_2 == 10) = true := beq_iff_eq.mpr c18
         have c18b1 : (a0_2 != 10) = false := bne_eq_false_iff_eq.mpr c18
         clear c18
         by_cases c19 : a0_8 < 0
         ·rw [if_pos c19] at H
          have c19b0 : decide (a0_8 < 0) = true := decide_eq_true c19
          clear c19
          obtain rfl := Option.some.inj H
          obtain ⟨_, _, _, _, _, _, _, _, _⟩ := cz9 BK109.out
          obtain ⟨_, _, _, _, _, _, _, _, _⟩ := fz9 BK109.out
          go_wp2_with (first | ((with_reducible refine gate_callee (f := 31) rfl ?_); refine goesL_ (some 21) rfl rfl Try.func31 (by kernel_rfl) rfl #[.int .i64 a0_2] rfl (Mp) ?_; (with_reducible refine (pred_bare.calls a0_2 false _ A11.out).mono ?_); rintro e w' ⟨rfl, ⟨nd, rfl⟩⟩; refine ⟨_, rfl, ?_⟩) | ((with_reducible refine gate_callee (f := 45) rfl ?_); refine goesL_ (some 24) rfl rfl Try.func45 (by kernel_rfl) rfl #[.agg #[.int .i64 a0_3, .int .i64 a0_4, .string a0_5, .bool a0_6, .complex .f64 a0_7.re a0_7.im]] rfl (Mp) ?_; (with_reducible refine (value_Check.calls kj3 a0_3 a0_4 a0_5 a0_6 a0_7 t112 _ A14.out).mono ?_); rintro e w21 ⟨rfl, hb⟩; refine ⟨_, rfl, ?_⟩; have n0_ := Aside0.mk (blk_below (g := gb109) (o := .cells #[.int .i64 a0_0, .string a0_1, .int .i64 a0_2, .int .i64 a0_3, .int .i64 a0_4, .string a0_5, .bool a0_6, .complex .f64 a0_7.re a0_7.im, .int .i64 a0_8] 54 (0, 0)) (Bk BK109.out) hb); have n1_ := Aside0.mk (below_step (Bl) hb); clear BK109; clear HB; have BK109 := n0_; have HB := n1_; clear n0_ n1_; (try clear hb); (try clear hb2); (try clear hk); (try clear hi); obtain ⟨_, _, _, _, _, _, _, _, _⟩ := cz9 BK109.out; obtain ⟨_, _, _, _, _, _, _, _, _⟩ := fz9 BK109.out) | ((with_reducible refine gate_callee (f := 46) rfl ?_); refine goesL_ (some 33) rfl rfl Try.func46 (by kernel_rfl) rfl #[.int .i64 a0_2, .int .i64 a0_3] rfl (Mp) ?_; (with_reducible refine (pred_kind.calls kj3 a0_2 a0_3 true _ A16.out).mono ?_); rintro e w' ⟨rfl, ⟨nd, rfl⟩⟩; refine ⟨_, rfl, ?_⟩))
          go_ret
          exact ⟨by first | rfl | (simp [errW_none, errW_some] <;> rfl) | (simp [*, errW_none, errW_some] <;> rfl), Bl⟩
         ·rw [if_neg c19] at H
          have c19b0 : decide (a0_8 < 0) = false := decide_eq_false c19
          clear c19
          by_cases c23 : a0_8 > 1048576
          ·rw [if_pos c23] at H
           have c23b0 : decide (1048576 < a0_8) = true := decide_eq_true c23
           clear c23
           obtain rfl := Option.some.inj H
           obtain ⟨_, _, _, _, _, _, _, _, _⟩ := cz9 BK109.out
           obtain ⟨_, _, _, _, _, _, _, _, _⟩ := fz9 BK109.out
           go_wp2_with (first | ((with_reducible refine gate_callee (f := 31) rfl ?_); refine goesL_ (some 21) rfl rfl Try.func31 (by kernel_rfl) rfl #[.int .i64 a0_2] rfl (Mp) ?_; (with_reducible refine (pred_bare.calls a0_2 false _ A11.out).mono ?_); rintro e w' ⟨rfl, ⟨nd, rfl⟩⟩; refine ⟨_, rfl, ?_⟩) | ((with_reducible refine gate_callee (f := 45) rfl ?_); refine goesL_ (some 24) rfl rfl Try.func45 (by kernel_rfl) rfl #[.agg #[.int .i64 a0_3, .int .i64 a0_4, .string a0_5, .bool a0_6, .complex .f64 a0_7.re a0_7.im]] rfl (Mp) ?_; (with_reducible refine (value_Check.calls kj3 a0_3 a0_4 a0_5 a0_6 a0_7 t112 _ A14.out).mono ?_); rintro e w25 ⟨rfl, hb⟩; refine ⟨_, rfl, ?_⟩; have n0_ := Aside0.mk (blk_below (g := gb109) (o := .cells #[.int .i64 a0_0, .string a0_1, .int .i64 a0_2, .int .i64 a0_3, .int .i64 a0_4, .string a0_5, .bool a0_6, .complex .f64 a0_7.re a0_7.im, .int .i64 a0_8] 54 (0, 0)) (Bk BK109.out) hb); have n1_ := Aside0.mk (below_step (Bl) hb); clear BK109; clear HB; have BK109 := n0_; have HB := n1_; clear n0_ n1_; (try clear hb); (try clear hb2); (try clear hk); (try clear hi); obtain ⟨_, _, _, _, _, _, _, _, _⟩ := cz9 BK109.out; obtain ⟨_, _, _, _, _, _, _, _, _⟩ := fz9 BK109.out) | ((with_reducible refine gate_callee (f := 46) rfl ?_); refine goesL_ (some 33) rfl rfl Try.func46 (by kernel_rfl) rfl #[.int .i64 a0_2, .int .i64 a0_3] rfl (Mp) ?_; (with_reducible refine (pred_kind.calls kj3 a0_2 a0_3 true _ A16.out).mono ?_); rintro e w' ⟨rfl, ⟨nd, rfl⟩⟩; refine ⟨_, rfl, ?_⟩))
           go_ret
           exact ⟨by first | rfl | (simp [errW_none, errW_some] <;> rfl) | (simp [*, errW_none, errW_some] <;> rfl), Bl⟩
          ·rw [if_neg c23] at H
           have c23b0 : decide (1048576 < a0_8) = false := decide_eq_false c23
           clear c23
           obtain rfl := Option.some.inj H
           obtain ⟨_, _, _, _, _, _, _, _, _⟩ := cz9 BK109.out
           obtain ⟨_, _, _, _, _, _, _, _, _⟩ := fz9 BK109.out
           go_wp2_with (first | ((with_reducible refine gate_callee (f := 31) rfl ?_); refine goesL_ (some 21) rfl rfl Try.func31 (by kernel_rfl) rfl #[.int .i64 a0_2] rfl (Mp) ?_; (with_reducible refine (pred_bare.calls a0_2 false _ A11.out).mono ?_); rintro e w' ⟨rfl, ⟨nd, rfl⟩⟩; refine ⟨_, rfl, ?_⟩) | ((with_reducible refine gate_callee (f := 45) rfl ?_); refine goesL_ (some 24) rfl rfl Try.func45 (by kernel_rfl) rfl #[.agg #[.int .i64 a0_3, .int .i64 a0_4, .string a0_5, .bool a0_6, .complex .f64 a0_7.re a0_7.im]] rfl (Mp) ?_; (with_reducible refine (value_Check.calls kj3 a0_3 a0_4 a0_5 a0_6 a0_7 t112 _ A14.out).mono ?_); rintro e w28 ⟨rfl, hb⟩; refine ⟨_, rfl, ?_⟩; have n0_ := Aside0.mk (blk_below (g := gb109) (o := .cells #[.int .i64 a0_0, .string a0_1, .int .i64 a0_2, .int .i64 a0_3, .int .i64 a0_4, .string a0_5, .bool a0_6, .complex .f64 a0_7.re a0_7.im, .int .i64 a0_8] 54 (0, 0)) (Bk BK109.out) hb); have n1_ := Aside0.mk (below_step (Bl) hb); clear BK109; clear HB; have BK109 := n0_; have HB := n1_; clear n0_ n1_; (try clear hb); (try clear hb2); (try clear hk); (try clear hi); obtain ⟨_, _, _, _, _, _, _, _, _⟩ := cz9 BK109.out; obtain ⟨_, _, _, _, _, _, _, _, _⟩ := fz9 BK109.out) | ((with_reducible refine gate_callee (f := 46) rfl ?_); refine goesL_ (some 33) rfl rfl Try.func46 (by kernel_rfl) rfl #[.int .i64 a0_2, .int .i64 a0_3] rfl (Mp) ?_; (with_reducible refine (pred_kind.calls kj3 a0_2 a0_3 true _ A16.out).mono ?_); rintro e w' ⟨rfl, ⟨nd, rfl⟩⟩; refine ⟨_, rfl, ?_⟩))
           go_ret
           exact ⟨by first | rfl | (simp [errW_none, errW_some] <;> rfl) | (simp [*, errW_none, errW_some] <;> rfl), Bl⟩
        ·rw [if_neg c18] at H
         have c18b0 : (a0_2 == 10) = false := beq_eq_false_iff_ne.mpr c18
         have c18b1 : (a0_2 != 10) = true := bne_iff_ne.mpr c18
         obtain rfl := Option.some.inj H
         obtain ⟨_, _, _, _, _, _, _, _, _⟩ := cz9 BK109.out
         obtain ⟨_, _, _, _, _, _, _, _, _⟩ := fz9 BK109.out
         go_wp2_with (first | ((with_reducible refine gate_callee (f := 31) rfl ?_); refine goesL_ (some 21) rfl rfl Try.func31 (by kernel_rfl) rfl #[.int .i64 a0_2] rfl (Mp) ?_; (with_reducible refine (pred_bare.calls a0_2 false _ A11.out).mono ?_); rintro e w' ⟨rfl, ⟨nd, rfl⟩⟩; refine ⟨_, rfl, ?_⟩) | ((with_reducible refine gate_callee (f := 45) rfl ?_); refine goesL_ (some 24) rfl rfl Try.func45 (by kernel_rfl) rfl #[.agg #[.int .i64 a0_3, .int .i64 a0_4, .string a0_5, .bool a0_6, .complex .f64 a0_7.re a0_7.im]] rfl (Mp) ?_; (with_reducible refine (value_Check.calls kj3 a0_3 a0_4 a0_5 a0_6 a0_7 t112 _ A14.out).mono ?_); rintro e w31 ⟨rfl, hb⟩; refine ⟨_, rfl, ?_⟩; have n0_ := Aside0.mk (blk_below (g := gb109) (o := .cells #[.int .i64 a0_0, .string a0_1, .int .i64 a0_2, .int .i64 a0_3, .int .i64 a0_4, .string a0_5, .bool a0_6, .complex .f64 a0_7.re a0_7.im, .int .i64 a0_8] 54 (0, 0)) (Bk BK109.out) hb); have n1_ := Aside0.mk (below_step (Bl) hb); clear BK109; clear HB; have BK109 := n0_; have HB := n1_; clear n0_ n1_; (try clear hb); (try clear hb2); (try clear hk); (try clear hi); obtain ⟨_, _, _, _, _, _, _, _, _⟩ := cz9 BK109.out; obtain ⟨_, _, _, _, _, _, _, _, _⟩ := fz9 BK109.out) | ((with_reducible refine gate_callee (f := 46) rfl ?_); refine goesL_ (some 33) rfl rfl Try.func46 (by kernel_rfl) rfl #[.int .i64 a0_2, .int .i64 a0_3] rfl (Mp) ?_; (with_reducible refine (pred_kind.calls kj3 a0_2 a0_3 true _ A16.out).mono ?_); rintro e w' ⟨rfl, ⟨nd, rfl⟩⟩; refine ⟨_, rfl, ?_⟩))
         go_ret
         exact ⟨by first | rfl | (simp [errW_none, errW_some] <;> rfl) | (simp [*, errW_none, errW_some] <;> rfl), Bl⟩
       ·replace c17 := Bool.eq_false_iff.mpr c17
        subst c17
        have H1 : (some 12) = some r := by rw [if_neg (show ¬ (false = true) by decide)] at H; exact H
        clear H
        have H := H1
        clear H1
        obtain rfl := Option.some.inj H
        obtain ⟨_, _, _, _, _, _, _, _, _⟩ := cz9 BK109.out
        obtain ⟨_, _, _, _, _, _, _, _, _⟩ := fz9 BK109.out
        go_wp2_with (first | ((with_reducible refine gate_callee (f := 31) rfl ?_); refine goesL_ (some 21) rfl rfl Try.func31 (by kernel_rfl) rfl #[.int .i64 a0_2] rfl (Mp) ?_; (with_reducible refine (pred_bare.calls a0_2 false _ A11.out).mono ?_); rintro e w' ⟨rfl, ⟨nd, rfl⟩⟩; refine ⟨_, rfl, ?_⟩) | ((with_reducible refine gate_callee (f := 45) rfl ?_); refine goesL_ (some 24) rfl rfl Try.func45 (by kernel_rfl) rfl #[.agg #[.int .i64 a0_3, .int .i64 a0_4, .string a0_5, .bool a0_6, .complex .f64 a0_7.re a0_7.im]] rfl (Mp) ?_; (with_reducible refine (value_Check.calls kj3 a0_3 a0_4 a0_5 a0_6 a0_7 t112 _ A14.out).mono ?_); rintro e w34 ⟨rfl, hb⟩; refine ⟨_, rfl, ?_⟩; have n0_ := Aside0.mk (blk_below (g := gb109) (o := .cells #[.int .i64 a0_0, .string a0_1, .int .i64 a0_2, .int .i64 a0_3, .int .i64 a0_4, .string a0_5, .bool a0_6, .complex .f64 a0_7.re a0_7.im, .int .i64 a0_8] 54 (0, 0)) (Bk BK109.out) hb); have n1_ := Aside0.mk (below_step (Bl) hb); clear BK109; clear HB; have BK109 := n0_; have HB := n1_; clear n0_ n1_; (try clear hb); (try clear hb2); (try clear hk); (try clear hi); obtain ⟨_, _, _, _, _, _, _, _, _⟩ := cz9 BK109.out; obtain ⟨_, _, _, _, _, _, _, _, _⟩ := fz9 BK109.out) | ((with_reducible refine gate_callee (f := 46) rfl ?_); refine goesL_ (some 33) rfl rfl Try.func46 (by kernel_rfl) rfl #[.int .i64 a0_2, .int .i64 a0_3] rfl (Mp) ?_; (with_reducible refine (pred_kind.calls kj3 a0_2 a0_3 false _ A16.out).mono ?_); rintro e w' ⟨rfl, ⟨nd, rfl⟩⟩; refine ⟨_, rfl, ?_⟩))
        go_ret
        exact ⟨by first | rfl | (simp [errW_none, errW_some] <;> rfl) | (simp [*, errW_none, errW_some] <;> rfl), Bl⟩
      ·rw [if_neg c15] at H
       have c15b0 : (t112 == 0) = false := beq_eq_false_iff_ne.mpr c15
       have c15b1 : (t112 != 0) = true := bne_iff_ne.mpr c15
       obtain rfl := Option.some.inj H
       obtain ⟨_, _, _, _, _, _, _, _, _⟩ := cz9 BK109.out
       obtain ⟨_, _, _, _, _, _, _, _, _⟩ := fz9 BK109.out
       go_wp2_with (first | ((with_reducible refine gate_callee (f := 31) rfl ?_); refine goesL_ (some 21) rfl rfl Try.func31 (by kernel_rfl) rfl #[.int .i64 a0_2] rfl (Mp) ?_; (with_reducible refine (pred_bare.calls a0_2 false _ A11.out).mono ?_); rintro e w' ⟨rfl, ⟨nd, rfl⟩⟩; refine ⟨_, rfl, ?_⟩) | ((with_reducible refine gate_callee (f := 45) rfl ?_); refine goesL_ (some 24) rfl rfl Try.func45 (by kernel_rfl) rfl #[.agg #[.int .i64 a0_3, .int .i64 a0_4, .string a0_5, .bool a0_6, .complex .f64 a0_7.re a0_7.im]] rfl (Mp) ?_; (with_reducible refine (value_Check.calls kj3 a0_3 a0_4 a0_5 a0_6 a0_7 t112 _ A14.out).mono ?_); rintro e w37 ⟨rfl, hb⟩; refine ⟨_, rfl, ?_⟩; have n0_ := Aside0.mk (blk_below (g := gb109) (o := .cells #[.int .i64 a0_0, .string a0_1, .int .i64 a0_2, .int .i64 a0_3, .int .i64 a0_4, .string a0_5, .bool a0_6, .complex .f64 a0_7.re a0_7.im, .int .i64 a0_8] 54 (0, 0)) (Bk BK109.out) hb); have n1_ := Aside0.mk (below_step (Bl) hb); clear BK109; clear HB; have BK109 := n0_; have HB := n1_; clear n0_ n1_; (try clear hb); (try clear hb2); (try clear hk); (try clear hi)))
       go_ret
       exact ⟨by first | rfl | (simp [errW_none, errW_some] <;> rfl) | (simp [*, errW_none, errW_some] <;> rfl), Bl⟩
 ·replace c3 := Bool.eq_false_iff.mpr c3
  subst c3
  have H1 : (some 11) = some r := by rw [if_neg (show ¬ (false = true) by decide)] at H; exact H
  clear H
  have H := H1
  clear H1
  obtain rfl := Option.some.inj H
  go_enter Try.func23, Try.ntmps23
  go_wp2_with (first | ((with_reducible refine gate_dst (N := 1) rfl ?_); refine box_event ?hg (N := 1) ?hd (cs := #[.int .i64 a0_0, .string a0_1, .int .i64 a0_2, .int .i64 a0_3, .int .i64 a0_4, .string a0_5, .bool a0_6, .complex .f64 a0_7.re a0_7.im, .int .i64 a0_8]) (t := 54) ?hr ?_; (case hd => rfl); (case hg => rfl); (case hr => first | (go_simp; done) | (go_simp; rfl)); intro gb109 hg w38 hbox hb; have n0_ := Aside0.mk (below_step (Bl) hb); have n1_ := Aside0.mk (hbox); have n2_ := Aside0.mk ((by rw [hg]; exact (below_size (Bl)) : w.heap.size ≤ gb109)); have n3_ := Aside0.mk ((by rw [hg]; exact (below_size (Bl)) : w.heap.size ≤ gb109)); clear HB; have HB := n0_; have BK109 := n1_; have GW109 := n2_; have GE109 := n3_; clear n0_ n1_ n2_ n3_; clear hb hbox hg; obtain ⟨_, _, _, _, _, _, _, _, _⟩ := cz9 BK109.out; obtain ⟨_, _, _, _, _, _, _, _, _⟩ := fz9 BK109.out) | ((with_reducible refine gate_callee (f := 44) rfl ?_); refine goesL_ (some 7) rfl rfl Try.func44 (by kernel_rfl) rfl #[.string a0_1] rfl (Mp) ?_; (with_reducible refine (event_Name.calls k a0_1 false _ A2.out).mono ?_); rintro e w' ⟨rfl, ⟨nd, rfl⟩⟩; refine ⟨_, rfl, ?_⟩))
  go_ret
  exact ⟨by first | rfl | (simp [errW_none, errW_some] <;> rfl) | (simp [*, errW_none, errW_some] <;> rfl), Bl⟩

end Go.Proofs.Ytmgljgmieomngaa.Q
