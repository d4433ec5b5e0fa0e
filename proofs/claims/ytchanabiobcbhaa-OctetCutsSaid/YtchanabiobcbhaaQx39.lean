/- Functions of the program as Lean functions, each with its walk: that the Go code comes to just these answers, whatever the memory. Written by a program of this claim (wip/tools). -/
import Derived.Test.YtchanabiobcbhaaQx0
import Derived.Test.YtchanabiobcbhaaQx4
import Derived.Test.YtchanabiobcbhaaQx6
import Derived.Test.YtchanabiobcbhaaQx16
import Derived.Test.YtchanabiobcbhaaQx17
import Derived.Test.YtchanabiobcbhaaQx24
import Derived.Test.YtchanabiobcbhaaQx27
import Derived.Test.YtchanabiobcbhaaQx32
import Derived.Test.YtchanabiobcbhaaQx34
namespace Go.Proofs.Ytchanabiobcbhaa.Q
open Go.RowKit Go.Proofs.YtchanabiobcbhaaW.PrintWords Go.Proofs.YtchanabiobcbhaaW.PrintLast Go.Proofs.YtchanabiobcbhaaW.PrintMore
attribute [local go_sem] max2_int min2_int max_two min_two max_three min_three max_four min_four   -- for this text's walks alone
set_option linter.unusedVariables false
set_option linter.unusedSimpArgs false

/-! ### grapevinelaw02_OctetCuts: function 16 -/
mutual
def grapevinelaw02_OctetCuts.j0 : Nat → List Int → Bool → List (List Int) → Int → Option (Bool)
  | 0, _, _, _, _ => none
  | k + 1, x11, x61, x428000, x428001 => if x61 = true then (if (x11.length : Int) = 0 then (none) else (if 0 ≤ (Int.tmod (wrap64 (x428001)) (x11.length : Int)) then (if (Int.tmod (wrap64 (x428001)) (x11.length : Int)) ≤ (x11.length : Int) then ((octet_TakeText.f k (x11.take ((Int.tmod (wrap64 (x428001)) (x11.length : Int)) : Int).toNat) 0).bind fun bt456 => (if bt456.2.2 = 3 then (grapevinelaw02_OctetCuts.j1 k x428000 x428001) else (some false))) else (none)) else (none))) else (grapevinelaw02_OctetCuts.j1 k x428000 x428001)
def grapevinelaw02_OctetCuts.j1 : Nat → List (List Int) → Int → Option (Bool)
  | 0, _, _ => none
  | k + 1, x428000, x428001 => (octet_Join.f k x428000).bind fun bt459 => (if bt459.2 = 0 then (if (bt459.1.length : Int) > 0 then (if (bt459.1.length : Int) = 0 then (none) else (if 0 ≤ (Int.tmod (wrap64 (x428001)) (bt459.1.length : Int)) then (if (Int.tmod (wrap64 (x428001)) (bt459.1.length : Int)) ≤ (bt459.1.length : Int) then ((octet_TakeJoin.f k (bt459.1.take ((Int.tmod (wrap64 (x428001)) (bt459.1.length : Int)) : Int).toNat) 0).bind fun bt467 => (some (bt467.2.2 == 3))) else (none)) else (none))) else (some true)) else (some true))
end
def grapevinelaw02_OctetCuts.f (k : Nat) (a0 : Int) (a1 : ByteArray) (l2_0 : List (List Int)) (a2_1 : Int) : Option (Bool) := (octet_Int.f k a0).bind fun t428 => (if (mx 1 (t428.length : Int)) = 0 then (none) else (if 0 ≤ (Int.tmod (wrap64 (a2_1)) (mx 1 (t428.length : Int))) then (if (Int.tmod (wrap64 (a2_1)) (mx 1 (t428.length : Int))) ≤ (t428.length : Int) then ((octet_TakeInt.f k (t428.take ((Int.tmod (wrap64 (a2_1)) (mx 1 (t428.length : Int))) : Int).toNat) 0).bind fun bt435 => (if bt435.2.2 = 3 then ((octet_Key.f k a0).bind fun t438 => (if 0 ≤ (Int.tmod (wrap64 (a2_1)) 8) then (if (Int.tmod (wrap64 (a2_1)) 8) ≤ (t438.length : Int) then ((octet_TakeKey.f k (t438.take ((Int.tmod (wrap64 (a2_1)) 8) : Int).toNat) 0).bind fun bt445 => (if bt445.2.2 = 3 then ((octet_Text.f k a1).bind fun bt448 => (if bt448.2 = 0 then (grapevinelaw02_OctetCuts.j0 k bt448.1 (decide ((bt448.1.length : Int) > 0)) l2_0 a2_1) else (grapevinelaw02_OctetCuts.j0 k bt448.1 false l2_0 a2_1))) else (some false))) else (none)) else (none))) else (some false))) else (none)) else (none)))
theorem grapevinelaw02_OctetCuts.mono_l : ∀ k, (∀ y0 y1 y2 y3, LeO (grapevinelaw02_OctetCuts.j0 k y0 y1 y2 y3) (grapevinelaw02_OctetCuts.j0 (k + 1) y0 y1 y2 y3)) ∧ (∀ y0 y1, LeO (grapevinelaw02_OctetCuts.j1 k y0 y1) (grapevinelaw02_OctetCuts.j1 (k + 1) y0 y1))
  | 0 => ⟨fun _ _ _ _ r h => by simp [grapevinelaw02_OctetCuts.j0] at h, fun _ _ r h => by simp [grapevinelaw02_OctetCuts.j1] at h⟩
  | k + 1 => by
    obtain ⟨ih0, ih1⟩ := grapevinelaw02_OctetCuts.mono_l k
    refine ⟨?_, ?_⟩
    · intro y0 y1 y2 y3
      unfold grapevinelaw02_OctetCuts.j0
      repeat' first
      | (with_reducible exact ih0 _ _ _ _)
      | (with_reducible exact ih1 _ _)
      | (with_reducible exact octet_Int.mono _ _)
      | (with_reducible exact octet_Join.mono _ _)
      | (with_reducible exact octet_Key.mono _ _)
      | (with_reducible exact octet_TakeInt.mono _ _ _)
      | (with_reducible exact octet_TakeJoin.mono _ _ _)
      | (with_reducible exact octet_TakeKey.mono _ _ _)
      | (with_reducible exact octet_TakeText.mono _ _ _)
      | (with_reducible exact octet_Text.mono _ _)
      | (with_reducible exact LeO.refl _)
      | (with_reducible exact LeO.none _)
      | (with_reducible refine LeO.ite ?_ ?_)
      | (with_reducible refine LeO.bind ?_ (fun _ => ?_))
      | exact ih0 _ _ _ _
      | exact ih1 _ _
      | exact octet_Int.mono _ _
      | exact octet_Join.mono _ _
      | exact octet_Key.mono _ _
      | exact octet_TakeInt.mono _ _ _
      | exact octet_TakeJoin.mono _ _ _
      | exact octet_TakeKey.mono _ _ _
      | exact octet_TakeText.mono _ _ _
      | exact octet_Text.mono _ _
      | exact LeO.none _
      | refine LeO.ite ?_ ?_
      | refine LeO.bind ?_ (fun _ => ?_)
    · intro y0 y1
      unfold grapevinelaw02_OctetCuts.j1
      repeat' first
      | (with_reducible exact ih0 _ _ _ _)
      | (with_reducible exact ih1 _ _)
      | (with_reducible exact octet_Int.mono _ _)
      | (with_reducible exact octet_Join.mono _ _)
      | (with_reducible exact octet_Key.mono _ _)
      | (with_reducible exact octet_TakeInt.mono _ _ _)
      | (with_reducible exact octet_TakeJoin.mono _ _ _)
      | (with_reducible exact octet_TakeKey.mono _ _ _)
      | (with_reducible exact octet_TakeText.mono _ _ _)
      | (with_reducible exact octet_Text.mono _ _)
      | (with_reducible exact LeO.refl _)
      | (with_reducible exact LeO.none _)
      | (with_reducible refine LeO.ite ?_ ?_)
      | (with_reducible refine LeO.bind ?_ (fun _ => ?_))
      | exact ih0 _ _ _ _
      | exact ih1 _ _
      | exact octet_Int.mono _ _
      | exact octet_Join.mono _ _
      | exact octet_Key.mono _ _
      | exact octet_TakeInt.mono _ _ _
      | exact octet_TakeJoin.mono _ _ _
      | exact octet_TakeKey.mono _ _ _
      | exact octet_TakeText.mono _ _ _
      | exact octet_Text.mono _ _
      | exact LeO.none _
      | refine LeO.ite ?_ ?_
      | refine LeO.bind ?_ (fun _ => ?_)
theorem grapevinelaw02_OctetCuts.mono : ∀ a0 a1 a2 a3 k, LeO (grapevinelaw02_OctetCuts.f k a0 a1 a2 a3) (grapevinelaw02_OctetCuts.f (k + 1) a0 a1 a2 a3) := by
  intro a0 a1 a2 a3 k
  obtain ⟨ih0, ih1⟩ := grapevinelaw02_OctetCuts.mono_l k
  unfold grapevinelaw02_OctetCuts.f
  repeat' first
      | (with_reducible exact ih0 _ _ _ _)
      | (with_reducible exact ih1 _ _)
      | (with_reducible exact octet_Int.mono _ _)
      | (with_reducible exact octet_Join.mono _ _)
      | (with_reducible exact octet_Key.mono _ _)
      | (with_reducible exact octet_TakeInt.mono _ _ _)
      | (with_reducible exact octet_TakeJoin.mono _ _ _)
      | (with_reducible exact octet_TakeKey.mono _ _ _)
      | (with_reducible exact octet_TakeText.mono _ _ _)
      | (with_reducible exact octet_Text.mono _ _)
      | (with_reducible exact LeO.refl _)
      | (with_reducible exact LeO.none _)
      | (with_reducible refine LeO.ite ?_ ?_)
      | (with_reducible refine LeO.bind ?_ (fun _ => ?_))
      | exact ih0 _ _ _ _
      | exact ih1 _ _
      | exact octet_Int.mono _ _
      | exact octet_Join.mono _ _
      | exact octet_Key.mono _ _
      | exact octet_TakeInt.mono _ _ _
      | exact octet_TakeJoin.mono _ _ _
      | exact octet_TakeKey.mono _ _ _
      | exact octet_TakeText.mono _ _ _
      | exact octet_Text.mono _ _
      | exact LeO.none _
      | refine LeO.ite ?_ ?_
      | refine LeO.bind ?_ (fun _ => ?_)
def grapevinelaw02_OctetCuts.T5 : Bool × List (List Nat × List Nat) := (true, [([], []), ([0], [0]), ([], []), ([2], [2]), ([3], [3]), ([4], [4]), ([1, 5], [1, 5]), ([6, 1], [6]), ([7], [7]), ([8], [8]), ([8], [8]), ([8], [8]), ([11, 7, 0, 1, 2, 3, 4, 5, 6, 7, 8, 9, 10, 11], [11])])
def grapevinelaw02_OctetCuts.B5 : List Nat := [0, 1, 0, 4, 12, 28, 63, 127, 255, 511, 511, 511, 4095]
theorem grapevinelaw02_OctetCuts.tab5 : rtab .any (opsOf Try.f16 5) = grapevinelaw02_OctetCuts.T5 := by kernel_rfl
theorem grapevinelaw02_OctetCuts.bits5 : waitsOk grapevinelaw02_OctetCuts.T5.2 grapevinelaw02_OctetCuts.B5 = true := by kernel_rfl
set_option maxHeartbeats 8000000 in
set_option maxRecDepth 100000 in
theorem grapevinelaw02_OctetCuts.calls (k : Nat) (a0 : Int) (a1 : ByteArray) (A2_0 : Option Addr) (c2_0 : Nat) (l2_0 : List (List Int)) (a2_1 : Int) (r : Bool) (w : World) (hr2_0 : Kd.C (Kd.slice 5 (Kd.int .u8)) w A2_0 l2_0.length l2_0) (hc2_0 : l2_0.length ≤ c2_0) (h : grapevinelaw02_OctetCuts.f k a0 a1 l2_0 a2_1 = some r) :
    Calls Try.prog 16 #[.int .i64 a0, .string a1, .agg #[.slice A2_0 l2_0.length c2_0, .int .u16 a2_1]] w fun e w' => e = .returned (.bool r) ∧ Below w.heap.size w w' := by
  have hu57 := Try.underlying57
  have HR2_0 := Aside0.mk hr2_0
  have HC2_0 := Aside0.mk hc2_0
  clear hr2_0 hc2_0
  have HB := Aside0.mk (Below.refl w.heap.size w)
  have H : ((octet_Int.f k a0).bind fun t428 => (if (mx 1 (t428.length : Int)) = 0 then (none) else (if 0 ≤ (Int.tmod (wrap64 (a2_1)) (mx 1 (t428.length : Int))) then (if (Int.tmod (wrap64 (a2_1)) (mx 1 (t428.length : Int))) ≤ (t428.length : Int) then ((octet_TakeInt.f k (t428.take ((Int.tmod (wrap64 (a2_1)) (mx 1 (t428.length : Int))) : Int).toNat) 0).bind fun bt435 => (if bt435.2.2 = 3 then ((octet_Key.f k a0).bind fun t438 => (if 0 ≤ (Int.tmod (wrap64 (a2_1)) 8) then (if (Int.tmod (wrap64 (a2_1)) 8) ≤ (t438.length : Int) then ((octet_TakeKey.f k (t438.take ((Int.tmod (wrap64 (a2_1)) 8) : Int).toNat) 0).bind fun bt445 => (if bt445.2.2 = 3 then ((octet_Text.f k a1).bind fun bt448 => (if bt448.2 = 0 then (grapevinelaw02_OctetCuts.j0 k bt448.1 (decide ((bt448.1.length : Int) > 0)) l2_0 a2_1) else (grapevinelaw02_OctetCuts.j0 k bt448.1 false l2_0 a2_1))) else (some false))) else (none)) else (none))) else (some false))) else (none)) else (none)))) = some r := h
  clear h
  replace H := Option.bind_eq_some_iff.mp H
  obtain ⟨t428, A40, H⟩ := H
  replace H : (if (mx 1 (t428.length : Int)) = 0 then (none) else (if 0 ≤ (Int.tmod (wrap64 (a2_1)) (mx 1 (t428.length : Int))) then (if (Int.tmod (wrap64 (a2_1)) (mx 1 (t428.length : Int))) ≤ (t428.length : Int) then ((octet_TakeInt.f k (t428.take ((Int.tmod (wrap64 (a2_1)) (mx 1 (t428.length : Int))) : Int).toNat) 0).bind fun bt435 => (if bt435.2.2 = 3 then ((octet_Key.f k a0).bind fun t438 => (if 0 ≤ (Int.tmod (wrap64 (a2_1)) 8) then (if (Int.tmod (wrap64 (a2_1)) 8) ≤ (t438.length : Int) then ((octet_TakeKey.f k (t438.take ((Int.tmod (wrap64 (a2_1)) 8) : Int).toNat) 0).bind fun bt445 => (if bt445.2.2 = 3 then ((octet_Text.f k a1).bind fun bt448 => (if bt448.2 = 0 then (grapevinelaw02_OctetCuts.j0 k bt448.1 (decide ((bt448.1.length : Int) > 0)) l2_0 a2_1) else (grapevinelaw02_OctetCuts.j0 k bt448.1 false l2_0 a2_1))) else (some false))) else (none)) else (none))) else (some false))) else (none)) else (none))) = some r := H
  have A4 := Aside0.mk A40
  clear A40
  obtain ⟨ji5, hji5⟩ : ∃ j_ : Int, (mx 1 (t428.length : Int)) = j_ := ⟨_, rfl⟩
  replace H : (if (ji5) = 0 then (none) else (if 0 ≤ (Int.tmod (wrap64 (a2_1)) (ji5)) then (if (Int.tmod (wrap64 (a2_1)) (ji5)) ≤ (t428.length : Int) then ((octet_TakeInt.f k (t428.take ((Int.tmod (wrap64 (a2_1)) (ji5)) : Int).toNat) 0).bind fun bt435 => (if bt435.2.2 = 3 then ((octet_Key.f k a0).bind fun t438 => (if 0 ≤ (Int.tmod (wrap64 (a2_1)) 8) then (if (Int.tmod (wrap64 (a2_1)) 8) ≤ (t438.length : Int) then ((octet_TakeKey.f k (t438.take ((Int.tmod (wrap64 (a2_1)) 8) : Int).toNat) 0).bind fun bt445 => (if bt445.2.2 = 3 then ((octet_Text.f k a1).bind fun bt448 => (if bt448.2 = 0 then (grapevinelaw02_OctetCuts.j0 k bt448.1 (decide ((bt448.1.length : Int) > 0)) l2_0 a2_1) else (grapevinelaw02_OctetCuts.j0 k bt448.1 false l2_0 a2_1))) else (some false))) else (none)) else (none))) else (some false))) else (none)) else (none))) = some r := by first | (rw [hji5] at H; exact H) | (simp only [hji5] at H ⊢; exact H)
  (try rw [hji5] at A4)
  (try (have hji5l : 1 ≤ ji5 := by (rw [← hji5]; unfold mx; (repeat' split) <;> omega)))
  (try (have hji5m : 0 ≤ ji5 := by omega))
  have hji5_ : (if 1 < (t428.length : Int) then (t428.length : Int) else 1) = ji5 := hji5
  by_cases c6 : (ji5) = 0
  · rw [if_pos c6] at H
    exact absurd H (by simp)
  · rw [if_neg c6] at H
    have c6b0 : ((ji5) == 0) = false := beq_eq_false_iff_ne.mpr c6
    have c6b1 : ((ji5) != 0) = true := bne_iff_ne.mpr c6
    obtain ⟨ji7, hji7⟩ : ∃ j_ : Int, (Int.tmod (wrap64 (a2_1)) (ji5)) = j_ := ⟨_, rfl⟩
    replace H : (if 0 ≤ (ji7) then (if (ji7) ≤ (t428.length : Int) then ((octet_TakeInt.f k (t428.take ((ji7) : Int).toNat) 0).bind fun bt435 => (if bt435.2.2 = 3 then ((octet_Key.f k a0).bind fun t438 => (if 0 ≤ (Int.tmod (wrap64 (a2_1)) 8) then (if (Int.tmod (wrap64 (a2_1)) 8) ≤ (t438.length : Int) then ((octet_TakeKey.f k (t438.take ((Int.tmod (wrap64 (a2_1)) 8) : Int).toNat) 0).bind fun bt445 => (if bt445.2.2 = 3 then ((octet_Text.f k a1).bind fun bt448 => (if bt448.2 = 0 then (grapevinelaw02_OctetCuts.j0 k bt448.1 (decide ((bt448.1.length : Int) > 0)) l2_0 a2_1) else (grapevinelaw02_OctetCuts.j0 k bt448.1 false l2_0 a2_1))) else (some false))) else (none)) else (none))) else (some false))) else (none)) else (none)) = some r := by first | (rw [hji7] at H; exact H) | (simp only [hji7] at H ⊢; exact H)
    (try rw [hji7] at A4)
    by_cases c8 : 0 ≤ (ji7)
    · rw [if_pos c8] at H
      have c8b0 := eq_true c8
      have c8b1 : decide (0 ≤ (ji7)) = true := decide_eq_true c8
      clear c8
      by_cases c9 : (ji7) ≤ (t428.length : Int)
      · rw [if_pos c9] at H
        have c9b0 := eq_true c9
        have c9b1 : decide ((ji7) ≤ (t428.length : Int)) = true := decide_eq_true c9
        clear c9
        obtain ⟨y431, hy431⟩ : ∃ y_ : List Int, y_ = (t428.take ((ji7) : Int).toNat) := ⟨_, rfl⟩
        replace H : ((octet_TakeInt.f k y431 0).bind fun bt435 => (if bt435.2.2 = 3 then ((octet_Key.f k a0).bind fun t438 => (if 0 ≤ (Int.tmod (wrap64 (a2_1)) 8) then (if (Int.tmod (wrap64 (a2_1)) 8) ≤ (t438.length : Int) then ((octet_TakeKey.f k (t438.take ((Int.tmod (wrap64 (a2_1)) 8) : Int).toNat) 0).bind fun bt445 => (if bt445.2.2 = 3 then ((octet_Text.f k a1).bind fun bt448 => (if bt448.2 = 0 then (grapevinelaw02_OctetCuts.j0 k bt448.1 (decide ((bt448.1.length : Int) > 0)) l2_0 a2_1) else (grapevinelaw02_OctetCuts.j0 k bt448.1 false l2_0 a2_1))) else (some false))) else (none)) else (none))) else (some false))) = some r := by first | (rw [hy431]; with_reducible exact H) | (have H2_ := (Option.bind_some _ _).symm.trans H; rw [hy431]; with_reducible exact H2_) | (have H2_ := (Option.bind_some _ _).symm.trans H; with_reducible exact H2_) | with_reducible exact H | (rw [hy431]; exact H) | exact H
        have Ny431 := Aside0.mk hy431
        clear hy431
        replace H := Option.bind_eq_some_iff.mp H
        obtain ⟨⟨t435, t436, t437⟩, A100, H⟩ := H
        replace H : (if t437 = 3 then ((octet_Key.f k a0).bind fun t438 => (if 0 ≤ (Int.tmod (wrap64 (a2_1)) 8) then (if (Int.tmod (wrap64 (a2_1)) 8) ≤ (t438.length : Int) then ((octet_TakeKey.f k (t438.take ((Int.tmod (wrap64 (a2_1)) 8) : Int).toNat) 0).bind fun bt445 => (if bt445.2.2 = 3 then ((octet_Text.f k a1).bind fun bt448 => (if bt448.2 = 0 then (grapevinelaw02_OctetCuts.j0 k bt448.1 (decide ((bt448.1.length : Int) > 0)) l2_0 a2_1) else (grapevinelaw02_OctetCuts.j0 k bt448.1 false l2_0 a2_1))) else (some false))) else (none)) else (none))) else (some false)) = some r := H
        have A10 := Aside0.mk A100
        clear A100
        by_cases c11 : t437 = 3
        · rw [if_pos c11] at H
          have c11b0 : (t437 == 3) = true := beq_iff_eq.mpr c11
          have c11b1 : (t437 != 3) = false := bne_eq_false_iff_eq.mpr c11
          clear c11
          replace H := Option.bind_eq_some_iff.mp H
          obtain ⟨t438, A120, H⟩ := H
          replace H : (if 0 ≤ (Int.tmod (wrap64 (a2_1)) 8) then (if (Int.tmod (wrap64 (a2_1)) 8) ≤ (t438.length : Int) then ((octet_TakeKey.f k (t438.take ((Int.tmod (wrap64 (a2_1)) 8) : Int).toNat) 0).bind fun bt445 => (if bt445.2.2 = 3 then ((octet_Text.f k a1).bind fun bt448 => (if bt448.2 = 0 then (grapevinelaw02_OctetCuts.j0 k bt448.1 (decide ((bt448.1.length : Int) > 0)) l2_0 a2_1) else (grapevinelaw02_OctetCuts.j0 k bt448.1 false l2_0 a2_1))) else (some false))) else (none)) else (none)) = some r := H
          have A12 := Aside0.mk A120
          clear A120
          obtain ⟨ji13, hji13⟩ : ∃ j_ : Int, (Int.tmod (wrap64 (a2_1)) 8) = j_ := ⟨_, rfl⟩
          replace H : (if 0 ≤ (ji13) then (if (ji13) ≤ (t438.length : Int) then ((octet_TakeKey.f k (t438.take ((ji13) : Int).toNat) 0).bind fun bt445 => (if bt445.2.2 = 3 then ((octet_Text.f k a1).bind fun bt448 => (if bt448.2 = 0 then (grapevinelaw02_OctetCuts.j0 k bt448.1 (decide ((bt448.1.length : Int) > 0)) l2_0 a2_1) else (grapevinelaw02_OctetCuts.j0 k bt448.1 false l2_0 a2_1))) else (some false))) else (none)) else (none)) = some r := by first | (rw [hji13] at H; exact H) | (simp only [hji13] at H ⊢; exact H)
          (try rw [hji13] at A4)
          (try rw [hji13] at A10)
          (try rw [hji13] at A12)
          by_cases c14 : 0 ≤ (ji13)
          · rw [if_pos c14] at H
            have c14b0 := eq_true c14
            have c14b1 : decide (0 ≤ (ji13)) = true := decide_eq_true c14
            clear c14
            by_cases c15 : (ji13) ≤ (t438.length : Int)
            · rw [if_pos c15] at H
              have c15b0 := eq_true c15
              have c15b1 : decide ((ji13) ≤ (t438.length : Int)) = true := decide_eq_true c15
              clear c15
              obtain ⟨y441, hy441⟩ : ∃ y_ : List Int, y_ = (t438.take ((ji13) : Int).toNat) := ⟨_, rfl⟩
              replace H : ((octet_TakeKey.f k y441 0).bind fun bt445 => (if bt445.2.2 = 3 then ((octet_Text.f k a1).bind fun bt448 => (if bt448.2 = 0 then (grapevinelaw02_OctetCuts.j0 k bt448.1 (decide ((bt448.1.length : Int) > 0)) l2_0 a2_1) else (grapevinelaw02_OctetCuts.j0 k bt448.1 false l2_0 a2_1))) else (some false))) = some r := by first | (rw [hy441]; with_reducible exact H) | (have H2_ := (Option.bind_some _ _).symm.trans H; rw [hy441]; with_reducible exact H2_) | (have H2_ := (Option.bind_some _ _).symm.trans H; with_reducible exact H2_) | with_reducible exact H | (rw [hy441]; exact H) | exact H
              have Ny441 := Aside0.mk hy441
              clear hy441
              replace H := Option.bind_eq_some_iff.mp H
              obtain ⟨⟨t445, t446, t447⟩, A160, H⟩ := H
              replace H : (if t447 = 3 then ((octet_Text.f k a1).bind fun bt448 => (if bt448.2 = 0 then (grapevinelaw02_OctetCuts.j0 k bt448.1 (decide ((bt448.1.length : Int) > 0)) l2_0 a2_1) else (grapevinelaw02_OctetCuts.j0 k bt448.1 false l2_0 a2_1))) else (some false)) = some r := H
              have A16 := Aside0.mk A160
              clear A160
              by_cases c17 : t447 = 3
              · rw [if_pos c17] at H
                have c17b0 : (t447 == 3) = true := beq_iff_eq.mpr c17
                have c17b1 : (t447 != 3) = false := bne_eq_false_iff_eq.mpr c17
                clear c17
                replace H := Option.bind_eq_some_iff.mp H
                obtain ⟨⟨t448, t449⟩, A180, H⟩ := H
                replace H : (if t449 = 0 then (grapevinelaw02_OctetCuts.j0 k t448 (decide ((t448.length : Int) > 0)) l2_0 a2_1) else (grapevinelaw02_OctetCuts.j0 k t448 false l2_0 a2_1)) = some r := H
                have A18 := Aside0.mk A180
                clear A180
                have HC19 := Aside0.mk H
                clear H
                go_enter Try.func16, Try.ntmps16
                try go_wp2_with (first | ((with_reducible refine gate_dst (N := 5) rfl ?_); (try (refine gate_guard (by rfl) ?_; dsimp only)); refine box_event ?hg (N := 5) ?hd (cs := #[.slice A2_0 l2_0.length c2_0, .int .u16 a2_1]) (t := 57) ?hr ?_; (case hd => rfl); (case hg => rfl); (case hr => first | (go_simp; done) | (go_simp; rfl)); intro gb427 hg w20 hbox hb; have n0_ := Aside0.mk (below_step (by repeat (first | (with_reducible first | exact HB.out | apply below_alloc | apply pw_below_drewN | apply below_drew1) | exact HB.out)) hb); have n1_ := Aside0.mk (hbox); have n2_ := Aside0.mk ((by rw [hg]; exact (below_size (by repeat (first | (with_reducible first | exact HB.out | apply below_alloc | apply pw_below_drewN | apply below_drew1) | exact HB.out))) : w.heap.size ≤ gb427)); have n3_ := Aside0.mk ((by rw [hg]; exact (below_size (by repeat (first | (with_reducible first | exact HB.out | apply below_alloc | apply pw_below_drewN | apply below_drew1) | exact HB.out))) : w.heap.size ≤ gb427)); clear HB; have HB := n0_; have BK427 := n1_; have GW427 := n2_; have GE427 := n3_; clear n0_ n1_ n2_ n3_; clear hb hbox hg) | ((with_reducible refine gate_callee (f := 27) rfl ?_); refine goesL_ (some 19) rfl rfl Try.func27 (by kernel_rfl) rfl #[.int .i64 a0] rfl (by (try simp only [List.map_toArray, List.map_cons, List.map_nil]); first | done | rfl | (simp only [List.length_drop, List.length_take]; rfl)) ?_; (with_reducible refine (octet_Int.calls k a0 t428 _ A4.out).mono ?_); rintro e w21 ⟨v429, rfl, ho0, hb⟩; refine ⟨_, rfl, ?_⟩; have n0_ := Aside0.mk (Kd.R_lower ho0 (below_size (by repeat (first | (with_reducible first | exact HB.out | apply below_alloc | apply pw_below_drewN | apply below_drew1 | refine below_set ?_ GE427.out) | exact HB.out)))); have n1_ := Aside0.mk (blk_below (g := gb427) (o := .cells #[.slice A2_0 l2_0.length c2_0, .int .u16 a2_1] 57 (0, 0)) (by (with_reducible repeat (first | refine blk_drewN ?_ _ | refine blk_drew ?_ | refine blk_alloc ?_ _)); exact BK427.out) hb); have n2_ := Aside0.mk (below_step (by repeat (first | (with_reducible first | exact HB.out | apply below_alloc | apply pw_below_drewN | apply below_drew1 | refine below_set ?_ GE427.out) | exact HB.out)) hb); clear BK427; clear HB; have HO430 := n0_; have BK427 := n1_; have HB := n2_; clear n0_ n1_ n2_; (try clear hb); (try clear hb2); (try clear hk); (try clear hi); (try clear ho0); have hcz22_0 : w21.cell? ⟨gb427, 0, none⟩ = some (.slice A2_0 l2_0.length c2_0) := (blk_cell BK427.out 0).trans rfl; have hcz22_1 : w21.cell? ⟨gb427, 1, none⟩ = some (.int .u16 a2_1) := (blk_cell BK427.out 1).trans rfl; have hfz22_0 := blk_frozen BK427.out 0; have hfz22_1 := blk_frozen BK427.out 1; obtain ⟨Ao23, co23, eo23⟩ := Kd.R_slice HO430.out; subst eo23; have q24 : ((ji7) : Int) ≤ ((t428.length : Int) : Int) := of_decide_eq_true (by first | (with_reducible assumption) | assumption); obtain ⟨i024, hi024, _, hsz24, _⟩ := info_parts info5; have hroom24 : t428.length ≤ co23 := (Kd.R_reads' HO430.out).2.1; have hC24 : Kd.C (Kd.int .u8) _ Ao23 t428.length t428 := (Kd.R_reads' HO430.out).2.2; have hcut24 := cut_to (P := Try.prog) 23 5 .i64 Try.underlying23 hi024 Ao23 t428.length co23 (ji7) (of_decide_eq_true (by first | (with_reducible assumption) | assumption)) q24 hroom24; have hr24 := Kd.C_take (m := ((ji7) : Int).toNat) hC24 (by omega); have hy24 : y431.length = ((ji7) : Int).toNat := (by rw [Ny431.out, List.length_take]; omega); rw [← Ny431.out] at hr24; rw [← hy24] at hcut24; have HR434 := Aside0.mk hr24; have HC434 := Aside0.mk (show y431.length ≤ co23 from by omega); clear hr24 hC24 hroom24 hi024 hsz24; have KY24 := Aside0.mk hy24; clear hy24; have KL24 := Aside0.mk (show ((ji7) : Int).toNat ≤ t428.length from by omega); replace q24 := eq_true q24) | ((with_reducible refine gate_callee (f := 26) rfl ?_); refine goesL_ (some 30) rfl rfl Try.func26 (by kernel_rfl) rfl #[.slice Ao23 y431.length co23, .int .i64 0] rfl (by (try simp only [List.map_toArray, List.map_cons, List.map_nil]); first | done | rfl | (simp only [List.length_drop, List.length_take]; rfl)) ?_; (with_reducible refine (octet_TakeInt.calls k _ _ y431 0 t435 t436 t437 _ ?side1 ?side2 A10.out).mono ?_); (case side1 => repeat (first | exact (by repeat (first | (with_reducible exact HR434.out) | (with_reducible refine Kd.C_alloc ?_ _) | (with_reducible refine Kd.C_drewN ?_ _) | (with_reducible refine Kd.C_drew ?_) | exact HR434.out)) | (with_reducible refine Kd.C_alloc ?_ _) | (with_reducible refine Kd.C_drewN ?_ _) | (with_reducible refine Kd.C_drew ?_))); (case side2 => exact HC434.out); rintro e w' ⟨rfl, ⟨nd, rfl⟩⟩; refine ⟨_, rfl, ?_⟩))
                (try (rw [drewN_self w21]; generalize hq_ : World.drewN w21 _ = w21; have n0_ : Aside0 (Kd.R (Kd.int .u8) 5 w21 w.heap.size (fun _ => True) (.slice Ao23 t428.length co23) t428) := ⟨by rw [← hq_]; exact (by (with_reducible repeat (first | apply Kd.R_alloc | apply Kd.R_drewN | apply Kd.R_drew)); exact HO430.out)⟩; have n1_ : Aside0 (w21.heap[gb427]? = some (.cells #[.slice A2_0 l2_0.length c2_0, .int .u16 a2_1] 57 (0, 0))) := ⟨by rw [← hq_]; exact (by (with_reducible repeat (first | refine blk_drewN ?_ _ | refine blk_drew ?_ | refine blk_alloc ?_ _)); exact BK427.out)⟩; have n2_ : Aside0 (Below w.heap.size w w21) := ⟨by rw [← hq_]; exact (by repeat (first | (with_reducible first | exact HB.out | apply below_alloc | apply pw_below_drewN | apply below_drew1 | refine below_set ?_ GE427.out) | exact HB.out))⟩; have n3_ : Aside0 (Kd.C (Kd.int .u8) w21 Ao23 y431.length y431) := ⟨by rw [← hq_]; exact (by repeat (first | (with_reducible exact HR434.out) | (with_reducible refine Kd.C_alloc ?_ _) | (with_reducible refine Kd.C_drewN ?_ _) | (with_reducible refine Kd.C_drew ?_) | exact HR434.out))⟩; clear HO430 BK427 HB HR434 hq_; have HO430 := n0_; have BK427 := n1_; have HB := n2_; have HR434 := n3_; clear n0_ n1_ n2_ n3_))
                have n0_ := Aside0.mk (Kd.R_drew HO430.out)
                have n1_ := Aside0.mk (blk_drew BK427.out)
                have n2_ := Aside0.mk (Kd.C_drew HR434.out)
                have n3_ := Aside0.mk (below_drew1 HB.out)
                clear HO430
                clear BK427
                clear HR434
                clear HB
                have HO430 := n0_
                have BK427 := n1_
                have HR434 := n2_
                have HB := n3_
                clear n0_ n1_ n2_ n3_
                refine start_ (n := 13) (S := fun w' => w'.cell? ⟨gb427, 0, none⟩ = some (.slice A2_0 l2_0.length c2_0) ∧ w'.cell? ⟨gb427, 1, none⟩ = some (.int .u16 a2_1)) (ds := []) #[false, false, false, false, false, false, false, false, false, false, false, false, false] (by kernel_rfl) rfl rfl ⟨(blk_cell BK427.out 0).trans rfl, (blk_cell BK427.out 1).trans rfl⟩ (fun hHeld => ?_); refine with_tabW grapevinelaw02_OctetCuts.tab5 grapevinelaw02_OctetCuts.bits5 (fun HT_ HW_ => ?_)
                generalize w21.drew = w25 at HO430 BK427 HR434 HB hHeld ⊢
                refine pure_ (i := 0) (N := some 37) (v := ?_) (a' := ?_) #[true, false, false, false, false, false, false, false, false, false, false, false, false] rfl rfl (any_of HT_.out (by kernel_rfl)) (fun _ _ _ h => h) (Or.inl ⟨by rfl, ?_⟩) ?_ ?_
                rotate_left
                · intro w'
                  go_simp
                  with_reducible rfl
                rotate_left
                · simp only [Act.put, List.setIfInBounds_toArray, List.set_cons_zero, List.set_cons_succ, i64_w, i32_w]
                  rfl
                refine pure_ (i := 2) (N := some 39) (v := ?_) (a' := ?_) #[true, false, true, false, false, false, false, false, false, false, false, false, false] rfl rfl (any_of HT_.out (by kernel_rfl)) (fun _ _ _ h => h) (Or.inl ⟨by rfl, ?_⟩) ?_ ?_
                rotate_left
                · intro w'
                  go_simp
                  with_reducible rfl
                rotate_left
                · simp only [Act.put, List.setIfInBounds_toArray, List.set_cons_zero, List.set_cons_succ, i64_w, i32_w]
                  rfl
                refine take_ (i := 3) (N := some 40) (v := ?_) (a' := ?_) #[true, false, true, true, false, false, false, false, false, false, false, false, false] rfl rfl (take_ofW HT_.out HW_.out (by kernel_rfl)) (fun _ _ _ h => h) (Or.inl ⟨by rfl, ?_⟩) hHeld ?_ ?_
                rotate_left
                · rintro w' ⟨s0, s1⟩
                  go_simp
                  with_reducible rfl
                rotate_left
                · simp only [Act.put, List.setIfInBounds_toArray, List.set_cons_zero, List.set_cons_succ, i64_w, i32_w]
                  rfl
                refine pure_ (i := 4) (N := some 41) (v := ?_) (a' := ?_) #[true, false, true, true, true, false, false, false, false, false, false, false, false] rfl rfl (any_of HT_.out (by kernel_rfl)) (fun _ _ _ h => h) (Or.inl ⟨by rfl, ?_⟩) ?_ ?_
                rotate_left
                · intro w'
                  go_simp
                  with_reducible rfl
                rotate_left
                · simp only [Act.put, List.setIfInBounds_toArray, List.set_cons_zero, List.set_cons_succ, i64_w, i32_w]
                  rfl
                refine pure_ (i := 5) (N := some 42) (v := ?_) (a' := ?_) #[true, false, true, true, true, true, false, false, false, false, false, false, false] rfl rfl (any_of HT_.out (by kernel_rfl)) (fun _ _ _ h => h) (Or.inl ⟨by rfl, ?_⟩) ?_ ?_
                rotate_left
                · intro w'
                  go_simp
                  with_reducible rfl
                rotate_left
                · simp only [Act.put, List.setIfInBounds_toArray, List.set_cons_zero, List.set_cons_succ, i64_w, i32_w]
                  rfl
                refine one_ (i := 1) (N := some 38) #[true, true, true, true, true, true, false, false, false, false, false, false, false] rfl rfl (one_of HT_.out (by kernel_rfl)) (by decide) (fun K hK => ?_)
                refine goes_ Try.func19 (by kernel_rfl) rfl #[.int .i64 a0] (by rfl) rfl rfl (by (try simp only [List.map_toArray, List.map_cons, List.map_nil]); first | done | rfl | (simp only [List.length_drop, List.length_take]; rfl)) ?_
                with_reducible refine (octet_Key.calls k a0 t438 _ A12.out).mono ?_
                rintro e w26 ⟨v439, rfl, ho0, hb⟩
                refine ⟨_, rfl, ?_⟩
                have n0_ := Aside0.mk (Kd.R_elder' (by (with_reducible repeat (first | apply Kd.R_alloc | apply Kd.R_drewN | apply Kd.R_drew)); exact HO430.out) (Kd.R_base ho0) hb)
                have n1_ := Aside0.mk (Kd.R_lower (Kd.R_new' ho0 (Kd.R_lt (by (with_reducible repeat (first | apply Kd.R_alloc | apply Kd.R_drewN | apply Kd.R_drew)); exact HO430.out))) (below_size (by repeat (first | (with_reducible first | exact HB.out | apply below_alloc | apply pw_below_drewN | apply below_drew1 | refine below_set ?_ GE427.out) | exact HB.out))))
                have n2_ := Aside0.mk (blk_below (g := gb427) (o := .cells #[.slice A2_0 l2_0.length c2_0, .int .u16 a2_1] 57 (0, 0)) (by (with_reducible repeat (first | refine blk_drewN ?_ _ | refine blk_drew ?_ | refine blk_alloc ?_ _)); exact BK427.out) hb)
                have n3_ := Aside0.mk (Kd.C_below (by repeat (first | (with_reducible exact HR434.out) | (with_reducible refine Kd.C_alloc ?_ _) | (with_reducible refine Kd.C_drewN ?_ _) | (with_reducible refine Kd.C_drew ?_) | exact HR434.out)) hb)
                have n4_ := Aside0.mk (below_step (by repeat (first | (with_reducible first | exact HB.out | apply below_alloc | apply pw_below_drewN | apply below_drew1 | refine below_set ?_ GE427.out) | exact HB.out)) hb)
                clear HO430
                clear BK427
                clear HR434
                clear HB
                have HO430 := n0_
                have HO440 := n1_
                have BK427 := n2_
                have HR434 := n3_
                have HB := n4_
                clear n0_ n1_ n2_ n3_ n4_
                (try clear hb)
                (try clear hb2)
                (try clear hk)
                (try clear hi)
                (try clear ho0)
                obtain ⟨Ao28, co28, eo28⟩ := Kd.R_slice HO440.out
                (first | subst eo28 | (injection eo28 with f1_ f2_ f3_; have f4_ := f1_.symm; have f5_ := f3_.symm; clear f1_ f2_ f3_; subst f4_; subst f5_))
                have q27 : ((ji13) : Int) ≤ ((t438.length : Int) : Int) := of_decide_eq_true (by first | (with_reducible assumption) | assumption)
                obtain ⟨i027, hi027, _, hsz27, _⟩ := info_parts info5
                have hroom27 : t438.length ≤ co28 := (Kd.R_reads' HO440.out).2.1
                have hC27 : Kd.C (Kd.int .u8) _ Ao28 t438.length t438 := (Kd.R_reads' HO440.out).2.2
                have hcut27 := cut_to (P := Try.prog) 23 5 .i64 Try.underlying23 hi027 Ao28 t438.length co28 (ji13) (of_decide_eq_true (by first | (with_reducible assumption) | assumption)) q27 hroom27
                have hr27 := Kd.C_take (m := ((ji13) : Int).toNat) hC27 (by omega)
                have hy27 : y441.length = ((ji13) : Int).toNat := (by rw [Ny441.out, List.length_take]; omega)
                rw [← Ny441.out] at hr27
                rw [← hy27] at hcut27
                have HR444 := Aside0.mk hr27
                have HC444 := Aside0.mk (show y441.length ≤ co28 from by omega)
                clear hr27 hC27 hroom27 hi027 hsz27
                have KY27 := Aside0.mk hy27
                clear hy27
                have KL27 := Aside0.mk (show ((ji13) : Int).toNat ≤ t438.length from by omega)
                replace q27 := eq_true q27
                refine hK.out _ _ ⟨(blk_cell BK427.out 0).trans rfl, (blk_cell BK427.out 1).trans rfl⟩ (fun hHeld => ?_)
                clear hK K
                refine norm_ (a' := ?_) ?_ ?_
                rotate_left
                · show Act.put _ (some 38) _ = _
                  simp only [Act.put, List.setIfInBounds_toArray, List.set_cons_zero, List.set_cons_succ, i64_w, i32_w]
                  rfl
                refine pure_ (i := 6) (N := some 43) (v := ?_) (a' := ?_) #[true, true, true, true, true, true, true, false, false, false, false, false, false] rfl rfl (any_of HT_.out (by kernel_rfl)) (fun _ _ _ h => h) (Or.inl ⟨by rfl, ?_⟩) ?_ ?_
                rotate_left
                · intro w'
                  go_simp
                  with_reducible rfl
                rotate_left
                · simp only [Act.put, List.setIfInBounds_toArray, List.set_cons_zero, List.set_cons_succ, i64_w, i32_w]
                  rfl
                refine one_ (i := 7) (N := some 44) #[true, true, true, true, true, true, true, true, false, false, false, false, false] rfl rfl (one_of HT_.out (by kernel_rfl)) (by decide) (fun K hK => ?_)
                refine goes_ Try.func20 (by kernel_rfl) rfl #[.slice Ao28 y441.length co28, .int .i64 0] (by rfl) rfl rfl (by (try simp only [List.map_toArray, List.map_cons, List.map_nil]); first | done | rfl | (simp only [List.length_drop, List.length_take]; rfl)) ?_
                with_reducible refine (octet_TakeKey.calls k _ _ y441 0 t445 t446 t447 _ ?side1 ?side2 A16.out).mono ?_
                (case side1 => repeat (first | exact (by repeat (first | (with_reducible exact HR444.out) | (with_reducible refine Kd.C_alloc ?_ _) | (with_reducible refine Kd.C_drewN ?_ _) | (with_reducible refine Kd.C_drew ?_) | exact HR444.out)) | (with_reducible refine Kd.C_alloc ?_ _) | (with_reducible refine Kd.C_drewN ?_ _) | (with_reducible refine Kd.C_drew ?_)))
                (case side2 => exact HC444.out)
                rintro e w' ⟨rfl, ⟨nd, rfl⟩⟩
                refine ⟨_, rfl, ?_⟩
                refine hK.out _ _ ⟨(blk_cell BK427.out 0).trans rfl, (blk_cell BK427.out 1).trans rfl⟩ (fun hHeld => ?_)
                clear hK K
                refine norm_ (a' := ?_) ?_ ?_
                rotate_left
                · show Act.put _ (some 44) _ = _
                  simp only [Act.put, List.setIfInBounds_toArray, List.set_cons_zero, List.set_cons_succ, i64_w, i32_w]
                  rfl
                refine pure_ (i := 8) (N := some 36) (v := ?_) (a' := ?_) #[true, true, true, true, true, true, true, true, true, false, false, false, false] rfl rfl (any_of HT_.out (by kernel_rfl)) (fun _ _ _ h => h) (Or.inl ⟨by rfl, ?_⟩) ?_ ?_
                rotate_left
                · intro w'
                  go_simp
                  with_reducible rfl
                rotate_left
                · simp only [Act.put, List.setIfInBounds_toArray, List.set_cons_zero, List.set_cons_succ, i64_w, i32_w]
                  rfl
                refine pure_ (i := 9) (N := some 45) (v := ?_) (a' := ?_) #[true, true, true, true, true, true, true, true, true, true, false, false, false] rfl rfl (any_of HT_.out (by kernel_rfl)) (fun _ _ _ h => h) (Or.inl ⟨by rfl, ?_⟩) ?_ ?_
                rotate_left
                · intro w'
                  go_simp
                  with_reducible rfl
                rotate_left
                · simp only [Act.put, List.setIfInBounds_toArray, List.set_cons_zero, List.set_cons_succ, i64_w, i32_w]
                  rfl
                refine pure_ (i := 10) (N := some 46) (v := ?_) (a' := ?_) #[true, true, true, true, true, true, true, true, true, true, true, false, false] rfl rfl (any_of HT_.out (by kernel_rfl)) (fun _ _ _ h => h) (Or.inl ⟨by rfl, ?_⟩) ?_ ?_
                rotate_left
                · intro w'
                  go_simp
                  with_reducible rfl
                rotate_left
                · simp only [Act.put, List.setIfInBounds_toArray, List.set_cons_zero, List.set_cons_succ, i64_w, i32_w]
                  rfl
                refine pure_ (i := 11) (N := some 47) (v := ?_) (a' := ?_) #[true, true, true, true, true, true, true, true, true, true, true, true, false] rfl rfl (any_of HT_.out (by kernel_rfl)) (fun _ _ _ h => h) (Or.inl ⟨by rfl, ?_⟩) ?_ ?_
                rotate_left
                · intro w'
                  go_simp
                  with_reducible rfl
                rotate_left
                · simp only [Act.put, List.setIfInBounds_toArray, List.set_cons_zero, List.set_cons_succ, i64_w, i32_w]
                  rfl
                refine pure_ (i := 12) (N := some 10) (v := ?_) (a' := ?_) #[true, true, true, true, true, true, true, true, true, true, true, true, true] rfl rfl (any_of HT_.out (by kernel_rfl)) (fun _ _ _ h => h) (Or.inl ⟨by rfl, ?_⟩) ?_ ?_
                rotate_left
                · intro w'
                  go_simp
                  with_reducible rfl
                rotate_left
                · simp only [Act.put, List.setIfInBounds_toArray, List.set_cons_zero, List.set_cons_succ, i64_w, i32_w]
                  rfl
                refine done_ (done_of HT_.out (by kernel_rfl)) ?_
                go_upto_region 9 with (first | ((with_reducible refine gate_callee (f := 30) rfl ?_); refine goesL_ (some 52) rfl rfl Try.func30 (by kernel_rfl) rfl #[.string a1] rfl (by (try simp only [List.map_toArray, List.map_cons, List.map_nil]); first | done | rfl | (simp only [List.length_drop, List.length_take]; rfl)) ?_; (with_reducible refine (octet_Text.calls k a1 t448 t449 _ A18.out).mono ?_); rintro e w29 ⟨v450, rfl, ho0, hb⟩; refine ⟨_, rfl, ?_⟩; have n0_ := Aside0.mk (Kd.R_elder' (by (with_reducible repeat (first | apply Kd.R_alloc | apply Kd.R_drewN | apply Kd.R_drew)); exact HO430.out) (Kd.R_base ho0) hb); have n1_ := Aside0.mk (Kd.R_elder' (by (with_reducible repeat (first | apply Kd.R_alloc | apply Kd.R_drewN | apply Kd.R_drew)); exact HO440.out) (Kd.R_base ho0) hb); have n2_ := Aside0.mk (Kd.R_lower (Kd.R_new' (Kd.R_new' ho0 (Kd.R_lt (by (with_reducible repeat (first | apply Kd.R_alloc | apply Kd.R_drewN | apply Kd.R_drew)); exact HO430.out))) (Kd.R_lt (by (with_reducible repeat (first | apply Kd.R_alloc | apply Kd.R_drewN | apply Kd.R_drew)); exact HO440.out))) (below_size (by repeat (first | (with_reducible first | exact HB.out | apply below_alloc | apply pw_below_drewN | apply below_drew1 | refine below_set ?_ GE427.out) | exact HB.out)))); have n3_ := Aside0.mk (blk_below (g := gb427) (o := .cells #[.slice A2_0 l2_0.length c2_0, .int .u16 a2_1] 57 (0, 0)) (by (with_reducible repeat (first | refine blk_drewN ?_ _ | refine blk_drew ?_ | refine blk_alloc ?_ _)); exact BK427.out) hb); have n4_ := Aside0.mk (Kd.C_below (by repeat (first | (with_reducible exact HR434.out) | (with_reducible refine Kd.C_alloc ?_ _) | (with_reducible refine Kd.C_drewN ?_ _) | (with_reducible refine Kd.C_drew ?_) | exact HR434.out)) hb); have n5_ := Aside0.mk (Kd.C_below (by repeat (first | (with_reducible exact HR444.out) | (with_reducible refine Kd.C_alloc ?_ _) | (with_reducible refine Kd.C_drewN ?_ _) | (with_reducible refine Kd.C_drew ?_) | exact HR444.out)) hb); have n6_ := Aside0.mk (below_step (by repeat (first | (with_reducible first | exact HB.out | apply below_alloc | apply pw_below_drewN | apply below_drew1 | refine below_set ?_ GE427.out) | exact HB.out)) hb); clear HO430; clear HO440; clear BK427; clear HR434; clear HR444; clear HB; have HO430 := n0_; have HO440 := n1_; have HO451 := n2_; have BK427 := n3_; have HR434 := n4_; have HR444 := n5_; have HB := n6_; clear n0_ n1_ n2_ n3_ n4_ n5_ n6_; (try clear hb); (try clear hb2); (try clear hk); (try clear hi); (try clear ho0)))
                (try simp only [Act.put, List.setIfInBounds_toArray, List.set_cons_zero, List.set_cons_succ])
                go_cut [61] (fun v61 wc => ∃ (kq : Nat) (x61_18 : Bool), v61 = .bool x61_18 ∧ Aside0 (grapevinelaw02_OctetCuts.j0 kq t448 x61_18 l2_0 a2_1 = some r) ∧ Aside0 (kq ≤ k) ∧ Aside0 (Kd.R (Kd.int .u8) 5 wc w.heap.size (fun _ => True) v450 t448) ∧ Aside0 (wc.heap[gb427]? = some (.cells #[(.slice A2_0 l2_0.length c2_0), .int .u16 a2_1] 57 (0, 0))) ∧ Aside0 (Below w.heap.size w wc))
                case first =>
                  have H := HC19.out
                  clear HC19
                  by_cases c30 : t449 = 0
                  · rw [if_pos c30] at H
                    have c30b0 : (t449 == 0) = true := beq_iff_eq.mpr c30
                    have c30b1 : (t449 != 0) = false := bne_eq_false_iff_eq.mpr c30
                    clear c30
                    (first | rw [c30b0] | (simp only [i64_w, i32_w]; rw [c30b0]) | skip)
                    have H' := Aside0.mk H
                    clear H
                    obtain ⟨Ao31, co31, eo31⟩ := Kd.R_slice HO451.out
                    subst eo31
                    go_wp2
                    go_meet
                    case rel => exact ⟨_, (decide ((t448.length : Int) > 0)), (by first | rfl | (simp; done) | (simp [*]; done)), H', ⟨by first | omega | exact Nat.le_refl _⟩, ⟨by (with_reducible repeat (first | apply Kd.R_alloc | apply Kd.R_drewN | apply Kd.R_drew)); exact Kd.R_mono HO451.out (fun _ hk => trivial)⟩, ⟨by (with_reducible repeat (first | refine blk_drewN ?_ _ | refine blk_drew ?_ | refine blk_alloc ?_ _)); exact BK427.out⟩, ⟨by repeat (first | (with_reducible first | exact HB.out | apply below_alloc | apply pw_below_drewN | apply below_drew1 | refine below_set ?_ GE427.out) | exact HB.out)⟩⟩
                  · rw [if_neg c30] at H
                    have c30b0 : (t449 == 0) = false := beq_eq_false_iff_ne.mpr c30
                    have c30b1 : (t449 != 0) = true := bne_iff_ne.mpr c30
                    (first | rw [c30b0] | (simp only [i64_w, i32_w]; rw [c30b0]) | skip)
                    have H' := Aside0.mk H
                    clear H
                    go_wp2
                    go_meet
                    case rel => exact ⟨_, (false), (by first | rfl | (simp; done) | (simp [*]; done)), H', ⟨by first | omega | exact Nat.le_refl _⟩, ⟨by (with_reducible repeat (first | apply Kd.R_alloc | apply Kd.R_drewN | apply Kd.R_drew)); exact Kd.R_mono HO451.out (fun _ hk => trivial)⟩, ⟨by (with_reducible repeat (first | refine blk_drewN ?_ _ | refine blk_drew ?_ | refine blk_alloc ?_ _)); exact BK427.out⟩, ⟨by repeat (first | (with_reducible first | exact HB.out | apply below_alloc | apply pw_below_drewN | apply below_drew1 | refine below_set ?_ GE427.out) | exact HB.out)⟩⟩
                case rest =>
                  clear HC19
                  try clear c1
                  try clear c2
                  try clear p2
                  try clear q2
                  try clear c3
                  try clear c6
                  try clear c6b0
                  try clear c6b1
                  try clear p6
                  try clear c8
                  try clear c8b0
                  try clear c8b1
                  try clear c9
                  try clear c9b0
                  try clear c9b1
                  try clear c11
                  try clear c11b0
                  try clear c11b1
                  try clear c14
                  try clear c14b0
                  try clear c14b1
                  try clear c15
                  try clear c15b0
                  try clear c15b1
                  try clear c16
                  try clear c17
                  try clear c17b0
                  try clear c17b1
                  try clear c19
                  try clear c20
                  try clear q24
                  try clear c26
                  try clear c27
                  try clear q27
                  try clear c30
                  try clear c30b0
                  try clear c30b1
                  try clear hcz22_0
                  try clear hcz22_1
                  try clear hfz22_0
                  try clear hfz22_1
                  try clear q24
                  try clear q27
                  obtain ⟨kq, x61_18, rfl, HA, HJ18, HO_11, BK427, HB⟩ := hcut
                  cases kq with
                  | zero => exact absurd HA.out (by simp [grapevinelaw02_OctetCuts.j0])
                  | succ kj18 =>
                    have H := HA.out
                    clear HA
                    simp only [grapevinelaw02_OctetCuts.j0] at H
                    have HC32 := Aside0.mk H
                    clear H
                    go_upto_if 61 with (fail)
                    go_cut [] (fun wc => ∃ (kq : Nat), Aside0 (grapevinelaw02_OctetCuts.j1 kq l2_0 a2_1 = some r) ∧ Aside0 (kq ≤ kj18) ∧ Aside0 (wc.heap[gb427]? = some (.cells #[(.slice A2_0 l2_0.length c2_0), .int .u16 a2_1] 57 (0, 0))) ∧ Aside0 (Below w.heap.size w wc))
                    case first =>
                      have H := HC32.out
                      clear HC32
                      by_cases c33 : x61_18 = true
                      · subst c33
                        have H1 : (if (t448.length : Int) = 0 then (none) else (if 0 ≤ (Int.tmod (wrap64 (a2_1)) (t448.length : Int)) then (if (Int.tmod (wrap64 (a2_1)) (t448.length : Int)) ≤ (t448.length : Int) then ((octet_TakeText.f kj18 (t448.take ((Int.tmod (wrap64 (a2_1)) (t448.length : Int)) : Int).toNat) 0).bind fun bt456 => (if bt456.2.2 = 3 then (grapevinelaw02_OctetCuts.j1 kj18 l2_0 a2_1) else (some false))) else (none)) else (none))) = some r := by rw [if_pos rfl] at H; exact H
                        clear H
                        have H := H1
                        clear H1
                        by_cases c34 : (t448.length : Int) = 0
                        · rw [if_pos c34] at H
                          exact absurd H (by simp)
                        · rw [if_neg c34] at H
                          have c34b0 : ((t448.length : Int) == 0) = false := beq_eq_false_iff_ne.mpr c34
                          have c34b1 : ((t448.length : Int) != 0) = true := bne_iff_ne.mpr c34
                          have c34b2 : ¬ (t448 = []) := fun h_ => c34 (by rw [h_]; rfl)
                          (first | rw [c34b0] | (simp only [i64_w, i32_w]; rw [c34b0]) | skip)
                          obtain ⟨ji35, hji35⟩ : ∃ j_ : Int, (Int.tmod (wrap64 (a2_1)) (t448.length : Int)) = j_ := ⟨_, rfl⟩
                          replace H : (if 0 ≤ (ji35) then (if (ji35) ≤ (t448.length : Int) then ((octet_TakeText.f kj18 (t448.take ((ji35) : Int).toNat) 0).bind fun bt456 => (if bt456.2.2 = 3 then (grapevinelaw02_OctetCuts.j1 kj18 l2_0 a2_1) else (some false))) else (none)) else (none)) = some r := by first | (rw [hji35] at H; exact H) | (simp only [hji35] at H ⊢; exact H)
                          by_cases c36 : 0 ≤ (ji35)
                          · rw [if_pos c36] at H
                            have c36b0 := eq_true c36
                            have c36b1 : decide (0 ≤ (ji35)) = true := decide_eq_true c36
                            clear c36
                            by_cases c37 : (ji35) ≤ (t448.length : Int)
                            · rw [if_pos c37] at H
                              have c37b0 := eq_true c37
                              have c37b1 : decide ((ji35) ≤ (t448.length : Int)) = true := decide_eq_true c37
                              clear c37
                              obtain ⟨y452, hy452⟩ : ∃ y_ : List Int, y_ = (t448.take ((ji35) : Int).toNat) := ⟨_, rfl⟩
                              replace H : ((octet_TakeText.f kj18 y452 0).bind fun bt456 => (if bt456.2.2 = 3 then (grapevinelaw02_OctetCuts.j1 kj18 l2_0 a2_1) else (some false))) = some r := by first | (rw [hy452]; with_reducible exact H) | (have H2_ := (Option.bind_some _ _).symm.trans H; rw [hy452]; with_reducible exact H2_) | (have H2_ := (Option.bind_some _ _).symm.trans H; with_reducible exact H2_) | with_reducible exact H | (rw [hy452]; exact H) | exact H
                              have Ny452 := Aside0.mk hy452
                              clear hy452
                              replace H := Option.bind_eq_some_iff.mp H
                              obtain ⟨⟨t456, t457, t458⟩, A380, H⟩ := H
                              replace H : (if t458 = 3 then (grapevinelaw02_OctetCuts.j1 kj18 l2_0 a2_1) else (some false)) = some r := H
                              have A38 := Aside0.mk A380
                              clear A380
                              by_cases c39 : t458 = 3
                              · rw [if_pos c39] at H
                                have c39b0 : (t458 == 3) = true := beq_iff_eq.mpr c39
                                have c39b1 : (t458 != 3) = false := bne_eq_false_iff_eq.mpr c39
                                clear c39
                                have H' := Aside0.mk H
                                clear H
                                have hcz40_0 : wc.cell? ⟨gb427, 0, none⟩ = some (.slice A2_0 l2_0.length c2_0) := (blk_cell BK427.out 0).trans rfl
                                have hcz40_1 : wc.cell? ⟨gb427, 1, none⟩ = some (.int .u16 a2_1) := (blk_cell BK427.out 1).trans rfl
                                have hfz40_0 := blk_frozen BK427.out 0
                                have hfz40_1 := blk_frozen BK427.out 1
                                obtain ⟨Ao41, co41, eo41⟩ := Kd.R_slice HO_11.out
                                subst eo41
                                have q42 : ((ji35) : Int) ≤ ((t448.length : Int) : Int) := of_decide_eq_true (by first | (with_reducible assumption) | assumption)
                                obtain ⟨i042, hi042, _, hsz42, _⟩ := info_parts info5
                                have hroom42 : t448.length ≤ co41 := (Kd.R_reads' HO_11.out).2.1
                                have hC42 : Kd.C (Kd.int .u8) _ Ao41 t448.length t448 := (Kd.R_reads' HO_11.out).2.2
                                have hcut42 := cut_to (P := Try.prog) 23 5 .i64 Try.underlying23 hi042 Ao41 t448.length co41 (ji35) (of_decide_eq_true (by first | (with_reducible assumption) | assumption)) q42 hroom42
                                have hr42 := Kd.C_take (m := ((ji35) : Int).toNat) hC42 (by omega)
                                have hy42 : y452.length = ((ji35) : Int).toNat := (by rw [Ny452.out, List.length_take]; omega)
                                rw [← Ny452.out] at hr42
                                rw [← hy42] at hcut42
                                have HR455 := Aside0.mk hr42
                                have HC455 := Aside0.mk (show y452.length ≤ co41 from by omega)
                                clear hr42 hC42 hroom42 hi042 hsz42
                                have KY42 := Aside0.mk hy42
                                clear hy42
                                have KL42 := Aside0.mk (show ((ji35) : Int).toNat ≤ t448.length from by omega)
                                replace q42 := eq_true q42
                                go_wp2_with (first | ((with_reducible refine gate_callee (f := 32) rfl ?_); refine goesL_ (some 71) rfl rfl Try.func32 (by kernel_rfl) rfl #[.slice Ao41 y452.length co41, .int .i64 0] rfl (by (try simp only [List.map_toArray, List.map_cons, List.map_nil]); first | done | rfl | (simp only [List.length_drop, List.length_take]; rfl)) ?_; (with_reducible refine (octet_TakeText.calls kj18 _ _ y452 0 t456 t457 t458 _ ?side1 ?side2 A38.out).mono ?_); (case side1 => repeat (first | exact (by repeat (first | (with_reducible exact HR455.out) | (with_reducible refine Kd.C_alloc ?_ _) | (with_reducible refine Kd.C_drewN ?_ _) | (with_reducible refine Kd.C_drew ?_) | exact HR455.out)) | (with_reducible refine Kd.C_alloc ?_ _) | (with_reducible refine Kd.C_drewN ?_ _) | (with_reducible refine Kd.C_drew ?_))); (case side2 => exact HC455.out); rintro e w' ⟨rfl, ⟨nd, rfl⟩⟩; refine ⟨_, rfl, ?_⟩))
                                go_meet
                                case rel => exact ⟨_, H', ⟨by have := HJ18.out; first | omega | exact Nat.le_refl _⟩, ⟨by (with_reducible repeat (first | refine blk_drewN ?_ _ | refine blk_drew ?_ | refine blk_alloc ?_ _)); exact BK427.out⟩, ⟨by repeat (first | (with_reducible first | exact HB.out | apply below_alloc | apply pw_below_drewN | apply below_drew1 | refine below_set ?_ GE427.out) | exact HB.out)⟩⟩
                              · rw [if_neg c39] at H
                                have c39b0 : (t458 == 3) = false := beq_eq_false_iff_ne.mpr c39
                                have c39b1 : (t458 != 3) = true := bne_iff_ne.mpr c39
                                obtain rfl := Option.some.inj H
                                have hcz43_0 : wc.cell? ⟨gb427, 0, none⟩ = some (.slice A2_0 l2_0.length c2_0) := (blk_cell BK427.out 0).trans rfl
                                have hcz43_1 : wc.cell? ⟨gb427, 1, none⟩ = some (.int .u16 a2_1) := (blk_cell BK427.out 1).trans rfl
                                have hfz43_0 := blk_frozen BK427.out 0
                                have hfz43_1 := blk_frozen BK427.out 1
                                obtain ⟨Ao44, co44, eo44⟩ := Kd.R_slice HO_11.out
                                subst eo44
                                have q45 : ((ji35) : Int) ≤ ((t448.length : Int) : Int) := of_decide_eq_true (by first | (with_reducible assumption) | assumption)
                                obtain ⟨i045, hi045, _, hsz45, _⟩ := info_parts info5
                                have hroom45 : t448.length ≤ co44 := (Kd.R_reads' HO_11.out).2.1
                                have hC45 : Kd.C (Kd.int .u8) _ Ao44 t448.length t448 := (Kd.R_reads' HO_11.out).2.2
                                have hcut45 := cut_to (P := Try.prog) 23 5 .i64 Try.underlying23 hi045 Ao44 t448.length co44 (ji35) (of_decide_eq_true (by first | (with_reducible assumption) | assumption)) q45 hroom45
                                have hr45 := Kd.C_take (m := ((ji35) : Int).toNat) hC45 (by omega)
                                have hy45 : y452.length = ((ji35) : Int).toNat := (by rw [Ny452.out, List.length_take]; omega)
                                rw [← Ny452.out] at hr45
                                rw [← hy45] at hcut45
                                have HR455 := Aside0.mk hr45
                                have HC455 := Aside0.mk (show y452.length ≤ co44 from by omega)
                                clear hr45 hC45 hroom45 hi045 hsz45
                                have KY45 := Aside0.mk hy45
                                clear hy45
                                have KL45 := Aside0.mk (show ((ji35) : Int).toNat ≤ t448.length from by omega)
                                replace q45 := eq_true q45
                                go_wp2_with (first | ((with_reducible refine gate_callee (f := 32) rfl ?_); refine goesL_ (some 71) rfl rfl Try.func32 (by kernel_rfl) rfl #[.slice Ao44 y452.length co44, .int .i64 0] rfl (by (try simp only [List.map_toArray, List.map_cons, List.map_nil]); first | done | rfl | (simp only [List.length_drop, List.length_take]; rfl)) ?_; (with_reducible refine (octet_TakeText.calls kj18 _ _ y452 0 t456 t457 t458 _ ?side1 ?side2 A38.out).mono ?_); (case side1 => repeat (first | exact (by repeat (first | (with_reducible exact HR455.out) | (with_reducible refine Kd.C_alloc ?_ _) | (with_reducible refine Kd.C_drewN ?_ _) | (with_reducible refine Kd.C_drew ?_) | exact HR455.out)) | (with_reducible refine Kd.C_alloc ?_ _) | (with_reducible refine Kd.C_drewN ?_ _) | (with_reducible refine Kd.C_drew ?_))); (case side2 => exact HC455.out); rintro e w' ⟨rfl, ⟨nd, rfl⟩⟩; refine ⟨_, rfl, ?_⟩))
                                go_ret
                                exact ⟨by first | rfl | (simp [errW_none, errW_some] <;> rfl) | (simp only [← hji5, ← hji7, ← hji13, ← hji35]; first | rfl | (simp [errW_none, errW_some] <;> rfl)) | (simp [*, errW_none, errW_some] <;> rfl), by repeat (first | (with_reducible first | exact HB.out | apply below_alloc | apply pw_below_drewN | apply below_drew1 | refine below_set ?_ GE427.out) | exact HB.out)⟩
                            · rw [if_neg c37] at H
                              exact absurd H (by simp)
                          · rw [if_neg c36] at H
                            exact absurd H (by simp)
                      · replace c33 := Bool.eq_false_iff.mpr c33
                        subst c33
                        have H1 : (grapevinelaw02_OctetCuts.j1 kj18 l2_0 a2_1) = some r := by rw [if_neg (show ¬ (false = true) by decide)] at H; exact H
                        clear H
                        have H := H1
                        clear H1
                        have H' := Aside0.mk H
                        clear H
                        go_wp2
                        go_meet
                        case rel => exact ⟨_, H', ⟨by have := HJ18.out; first | omega | exact Nat.le_refl _⟩, ⟨by (with_reducible repeat (first | refine blk_drewN ?_ _ | refine blk_drew ?_ | refine blk_alloc ?_ _)); exact BK427.out⟩, ⟨by repeat (first | (with_reducible first | exact HB.out | apply below_alloc | apply pw_below_drewN | apply below_drew1 | refine below_set ?_ GE427.out) | exact HB.out)⟩⟩
                    case rest =>
                      clear HC32
                      try clear c1
                      try clear c2
                      try clear p2
                      try clear q2
                      try clear c3
                      try clear q4
                      try clear c6
                      try clear c6b0
                      try clear c6b1
                      try clear p6
                      try clear c8
                      try clear c8b0
                      try clear c8b1
                      try clear c9
                      try clear c9b0
                      try clear c9b1
                      try clear c11
                      try clear c11b0
                      try clear c11b1
                      try clear c14
                      try clear c14b0
                      try clear c14b1
                      try clear c15
                      try clear c15b0
                      try clear c15b1
                      try clear c16
                      try clear c17
                      try clear c17b0
                      try clear c17b1
                      try clear c19
                      try clear c20
                      try clear q24
                      try clear c26
                      try clear c27
                      try clear q27
                      try clear c30
                      try clear c30b0
                      try clear c30b1
                      try clear c32
                      try clear c33
                      try clear c34
                      try clear c34b0
                      try clear c34b1
                      try clear c34b2
                      try clear c36
                      try clear c36b0
                      try clear c36b1
                      try clear c37
                      try clear c37b0
                      try clear c37b1
                      try clear c39
                      try clear c39b0
                      try clear c39b1
                      try clear q42
                      try clear q45
                      try clear hcz22_0
                      try clear hcz22_1
                      try clear hcz40_0
                      try clear hcz40_1
                      try clear hcz43_0
                      try clear hcz43_1
                      try clear hfz22_0
                      try clear hfz22_1
                      try clear hfz40_0
                      try clear hfz40_1
                      try clear hfz43_0
                      try clear hfz43_1
                      try clear p2
                      try clear p6
                      try clear q2
                      try clear q24
                      try clear q27
                      try clear q42
                      try clear q45
                      obtain ⟨kq, HA, HJ31, BK427, HB⟩ := hcut
                      cases kq with
                      | zero => exact absurd HA.out (by simp [grapevinelaw02_OctetCuts.j1])
                      | succ kj31 =>
                        have H := HA.out
                        clear HA
                        simp only [grapevinelaw02_OctetCuts.j1] at H
                        replace H := Option.bind_eq_some_iff.mp H
                        obtain ⟨⟨t459, t460⟩, A460, H⟩ := H
                        replace H : (if t460 = 0 then (if (t459.length : Int) > 0 then (if (t459.length : Int) = 0 then (none) else (if 0 ≤ (Int.tmod (wrap64 (a2_1)) (t459.length : Int)) then (if (Int.tmod (wrap64 (a2_1)) (t459.length : Int)) ≤ (t459.length : Int) then ((octet_TakeJoin.f kj31 (t459.take ((Int.tmod (wrap64 (a2_1)) (t459.length : Int)) : Int).toNat) 0).bind fun bt467 => (some (bt467.2.2 == 3))) else (none)) else (none))) else (some true)) else (some true)) = some r := H
                        have A46 := Aside0.mk A460
                        clear A460
                        by_cases c47 : t460 = 0
                        · rw [if_pos c47] at H
                          have c47b0 : (t460 == 0) = true := beq_iff_eq.mpr c47
                          have c47b1 : (t460 != 0) = false := bne_eq_false_iff_eq.mpr c47
                          clear c47
                          by_cases c48 : (t459.length : Int) > 0
                          · rw [if_pos c48] at H
                            have c48b0 : decide (0 < (t459.length : Int)) = true := decide_eq_true c48
                            have c48b1 : decide (0 < t459.length) = true := decide_eq_true (by omega)
                            clear c48
                            by_cases c49 : (t459.length : Int) = 0
                            · rw [if_pos c49] at H
                              exact absurd H (by simp)
                            · rw [if_neg c49] at H
                              have c49b0 : ((t459.length : Int) == 0) = false := beq_eq_false_iff_ne.mpr c49
                              have c49b1 : ((t459.length : Int) != 0) = true := bne_iff_ne.mpr c49
                              have c49b2 : ¬ (t459 = []) := fun h_ => c49 (by rw [h_]; rfl)
                              obtain ⟨ji50, hji50⟩ : ∃ j_ : Int, (Int.tmod (wrap64 (a2_1)) (t459.length : Int)) = j_ := ⟨_, rfl⟩
                              replace H : (if 0 ≤ (ji50) then (if (ji50) ≤ (t459.length : Int) then ((octet_TakeJoin.f kj31 (t459.take ((ji50) : Int).toNat) 0).bind fun bt467 => (some (bt467.2.2 == 3))) else (none)) else (none)) = some r := by first | (rw [hji50] at H; exact H) | (simp only [hji50] at H ⊢; exact H)
                              (try rw [hji50] at A46)
                              by_cases c51 : 0 ≤ (ji50)
                              · rw [if_pos c51] at H
                                have c51b0 := eq_true c51
                                have c51b1 : decide (0 ≤ (ji50)) = true := decide_eq_true c51
                                clear c51
                                by_cases c52 : (ji50) ≤ (t459.length : Int)
                                · rw [if_pos c52] at H
                                  have c52b0 := eq_true c52
                                  have c52b1 : decide ((ji50) ≤ (t459.length : Int)) = true := decide_eq_true c52
                                  clear c52
                                  obtain ⟨y463, hy463⟩ : ∃ y_ : List Int, y_ = (t459.take ((ji50) : Int).toNat) := ⟨_, rfl⟩
                                  replace H : ((octet_TakeJoin.f kj31 y463 0).bind fun bt467 => (some (bt467.2.2 == 3))) = some r := by first | (rw [hy463]; with_reducible exact H) | (have H2_ := (Option.bind_some _ _).symm.trans H; rw [hy463]; with_reducible exact H2_) | (have H2_ := (Option.bind_some _ _).symm.trans H; with_reducible exact H2_) | with_reducible exact H | (rw [hy463]; exact H) | exact H
                                  have Ny463 := Aside0.mk hy463
                                  clear hy463
                                  replace H := Option.bind_eq_some_iff.mp H
                                  obtain ⟨⟨t467, t468, t469⟩, A530, H⟩ := H
                                  replace H : (some (t469 == 3)) = some r := H
                                  have A53 := Aside0.mk A530
                                  clear A530
                                  obtain rfl := Option.some.inj H
                                  have hcz54_0 : wc.cell? ⟨gb427, 0, none⟩ = some (.slice A2_0 l2_0.length c2_0) := (blk_cell BK427.out 0).trans rfl
                                  have hcz54_1 : wc.cell? ⟨gb427, 1, none⟩ = some (.int .u16 a2_1) := (blk_cell BK427.out 1).trans rfl
                                  have hfz54_0 := blk_frozen BK427.out 0
                                  have hfz54_1 := blk_frozen BK427.out 1
                                  go_wp2_with (first | ((with_reducible refine gate_callee (f := 34) rfl ?_); refine goesL_ (some 80) rfl rfl Try.func34 (by kernel_rfl) rfl #[.slice A2_0 l2_0.length c2_0] rfl (by (try simp only [List.map_toArray, List.map_cons, List.map_nil]); first | done | rfl | (simp only [List.length_drop, List.length_take]; rfl)) ?_; (with_reducible refine (octet_Join.calls kj31 _ _ l2_0 t459 t460 _ ?side1 ?side2 A46.out).mono ?_); (case side1 => repeat (first | exact (Kd.C_below HR2_0.out HB.out) | (with_reducible refine Kd.C_alloc ?_ _) | (with_reducible refine Kd.C_drewN ?_ _) | (with_reducible refine Kd.C_drew ?_))); (case side2 => exact HC2_0.out); rintro e w55 ⟨v461, rfl, ho0, hb⟩; refine ⟨_, rfl, ?_⟩; have n0_ := Aside0.mk (Kd.R_lower ho0 (below_size (by repeat (first | (with_reducible first | exact HB.out | apply below_alloc | apply pw_below_drewN | apply below_drew1 | refine below_set ?_ GE427.out) | exact HB.out)))); have n1_ := Aside0.mk (blk_below (g := gb427) (o := .cells #[.slice A2_0 l2_0.length c2_0, .int .u16 a2_1] 57 (0, 0)) (by (with_reducible repeat (first | refine blk_drewN ?_ _ | refine blk_drew ?_ | refine blk_alloc ?_ _)); exact BK427.out) hb); have n2_ := Aside0.mk (below_step (by repeat (first | (with_reducible first | exact HB.out | apply below_alloc | apply pw_below_drewN | apply below_drew1 | refine below_set ?_ GE427.out) | exact HB.out)) hb); clear BK427; clear HB; have HO462 := n0_; have BK427 := n1_; have HB := n2_; clear n0_ n1_ n2_; (try clear hb); (try clear hb2); (try clear hk); (try clear hi); (try clear ho0); obtain ⟨Ao56, co56, eo56⟩ := Kd.R_slice HO462.out; subst eo56; have hcz57_0 : w55.cell? ⟨gb427, 0, none⟩ = some (.slice A2_0 l2_0.length c2_0) := (blk_cell BK427.out 0).trans rfl; have hcz57_1 : w55.cell? ⟨gb427, 1, none⟩ = some (.int .u16 a2_1) := (blk_cell BK427.out 1).trans rfl; have hfz57_0 := blk_frozen BK427.out 0; have hfz57_1 := blk_frozen BK427.out 1; have q58 : ((ji50) : Int) ≤ ((t459.length : Int) : Int) := of_decide_eq_true (by first | (with_reducible assumption) | assumption); obtain ⟨i058, hi058, _, hsz58, _⟩ := info_parts info5; have hroom58 : t459.length ≤ co56 := (Kd.R_reads' HO462.out).2.1; have hC58 : Kd.C (Kd.int .u8) _ Ao56 t459.length t459 := (Kd.R_reads' HO462.out).2.2; have hcut58 := cut_to (P := Try.prog) 23 5 .i64 Try.underlying23 hi058 Ao56 t459.length co56 (ji50) (of_decide_eq_true (by first | (with_reducible assumption) | assumption)) q58 hroom58; have hr58 := Kd.C_take (m := ((ji50) : Int).toNat) hC58 (by omega); have hy58 : y463.length = ((ji50) : Int).toNat := (by rw [Ny463.out, List.length_take]; omega); rw [← Ny463.out] at hr58; rw [← hy58] at hcut58; have HR466 := Aside0.mk hr58; have HC466 := Aside0.mk (show y463.length ≤ co56 from by omega); clear hr58 hC58 hroom58 hi058 hsz58; have KY58 := Aside0.mk hy58; clear hy58; have KL58 := Aside0.mk (show ((ji50) : Int).toNat ≤ t459.length from by omega); replace q58 := eq_true q58) | ((with_reducible refine gate_callee (f := 36) rfl ?_); refine goesL_ (some 99) rfl rfl Try.func36 (by kernel_rfl) rfl #[.slice Ao56 y463.length co56, .int .i64 0] rfl (by (try simp only [List.map_toArray, List.map_cons, List.map_nil]); first | done | rfl | (simp only [List.length_drop, List.length_take]; rfl)) ?_; (with_reducible refine (octet_TakeJoin.calls kj31 _ _ y463 0 t467 t468 t469 _ ?side1 ?side2 A53.out).mono ?_); (case side1 => repeat (first | exact (by repeat (first | (with_reducible exact HR466.out) | (with_reducible refine Kd.C_alloc ?_ _) | (with_reducible refine Kd.C_drewN ?_ _) | (with_reducible refine Kd.C_drew ?_) | exact HR466.out)) | (with_reducible refine Kd.C_alloc ?_ _) | (with_reducible refine Kd.C_drewN ?_ _) | (with_reducible refine Kd.C_drew ?_))); (case side2 => exact HC466.out); rintro e w59 ⟨v470, rfl, ho0, hb⟩; refine ⟨_, rfl, ?_⟩; have n0_ := Aside0.mk (Kd.R_below (by (with_reducible repeat (first | apply Kd.R_alloc | apply Kd.R_drewN | apply Kd.R_drew)); exact HO462.out) hb); have n1_ := Aside0.mk (Kd.S_lower (Kd.S_new' ho0 (Kd.R_lt (by (with_reducible repeat (first | apply Kd.R_alloc | apply Kd.R_drewN | apply Kd.R_drew)); exact HO462.out))) (below_size (by repeat (first | (with_reducible first | exact HB.out | apply below_alloc | apply pw_below_drewN | apply below_drew1 | refine below_set ?_ GE427.out) | exact HB.out)))); have n2_ := Aside0.mk (blk_below (g := gb427) (o := .cells #[.slice A2_0 l2_0.length c2_0, .int .u16 a2_1] 57 (0, 0)) (by (with_reducible repeat (first | refine blk_drewN ?_ _ | refine blk_drew ?_ | refine blk_alloc ?_ _)); exact BK427.out) hb); have n3_ := Aside0.mk (Kd.C_below (by repeat (first | (with_reducible exact HR466.out) | (with_reducible refine Kd.C_alloc ?_ _) | (with_reducible refine Kd.C_drewN ?_ _) | (with_reducible refine Kd.C_drew ?_) | exact HR466.out)) hb); have n4_ := Aside0.mk (below_step (by repeat (first | (with_reducible first | exact HB.out | apply below_alloc | apply pw_below_drewN | apply below_drew1 | refine below_set ?_ GE427.out) | exact HB.out)) hb); clear HO462; clear BK427; clear HR466; clear HB; have HO462 := n0_; have HO471 := n1_; have BK427 := n2_; have HR466 := n3_; have HB := n4_; clear n0_ n1_ n2_ n3_ n4_; (try clear hb); (try clear hb2); (try clear hk); (try clear hi); (try clear ho0)))
                                  go_ret
                                  exact ⟨by first | rfl | (simp [errW_none, errW_some] <;> rfl) | (simp only [← hji5, ← hji7, ← hji13, ← hji50]; first | rfl | (simp [errW_none, errW_some] <;> rfl)) | (simp [*, errW_none, errW_some] <;> rfl), by repeat (first | (with_reducible first | exact HB.out | apply below_alloc | apply pw_below_drewN | apply below_drew1 | refine below_set ?_ GE427.out) | exact HB.out)⟩
                                · rw [if_neg c52] at H
                                  exact absurd H (by simp)
                              · rw [if_neg c51] at H
                                exact absurd H (by simp)
                          · rw [if_neg c48] at H
                            have c48b0 : decide (0 < (t459.length : Int)) = false := decide_eq_false c48
                            have c48b1 : decide (0 < t459.length) = false := decide_eq_false (by omega)
                            clear c48
                            obtain rfl := Option.some.inj H
                            have hcz60_0 : wc.cell? ⟨gb427, 0, none⟩ = some (.slice A2_0 l2_0.length c2_0) := (blk_cell BK427.out 0).trans rfl
                            have hcz60_1 : wc.cell? ⟨gb427, 1, none⟩ = some (.int .u16 a2_1) := (blk_cell BK427.out 1).trans rfl
                            have hfz60_0 := blk_frozen BK427.out 0
                            have hfz60_1 := blk_frozen BK427.out 1
                            go_wp2_with (first | ((with_reducible refine gate_callee (f := 34) rfl ?_); refine goesL_ (some 80) rfl rfl Try.func34 (by kernel_rfl) rfl #[.slice A2_0 l2_0.length c2_0] rfl (by (try simp only [List.map_toArray, List.map_cons, List.map_nil]); first | done | rfl | (simp only [List.length_drop, List.length_take]; rfl)) ?_; (with_reducible refine (octet_Join.calls kj31 _ _ l2_0 t459 t460 _ ?side1 ?side2 A46.out).mono ?_); (case side1 => repeat (first | exact (Kd.C_below HR2_0.out HB.out) | (with_reducible refine Kd.C_alloc ?_ _) | (with_reducible refine Kd.C_drewN ?_ _) | (with_reducible refine Kd.C_drew ?_))); (case side2 => exact HC2_0.out); rintro e w61 ⟨v461, rfl, ho0, hb⟩; refine ⟨_, rfl, ?_⟩; have n0_ := Aside0.mk (Kd.R_lower ho0 (below_size (by repeat (first | (with_reducible first | exact HB.out | apply below_alloc | apply pw_below_drewN | apply below_drew1 | refine below_set ?_ GE427.out) | exact HB.out)))); have n1_ := Aside0.mk (blk_below (g := gb427) (o := .cells #[.slice A2_0 l2_0.length c2_0, .int .u16 a2_1] 57 (0, 0)) (by (with_reducible repeat (first | refine blk_drewN ?_ _ | refine blk_drew ?_ | refine blk_alloc ?_ _)); exact BK427.out) hb); have n2_ := Aside0.mk (below_step (by repeat (first | (with_reducible first | exact HB.out | apply below_alloc | apply pw_below_drewN | apply below_drew1 | refine below_set ?_ GE427.out) | exact HB.out)) hb); clear BK427; clear HB; have HO462 := n0_; have BK427 := n1_; have HB := n2_; clear n0_ n1_ n2_; (try clear hb); (try clear hb2); (try clear hk); (try clear hi); (try clear ho0); obtain ⟨Ao62, co62, eo62⟩ := Kd.R_slice HO462.out; subst eo62))
                            go_ret
                            exact ⟨by first | rfl | (simp [errW_none, errW_some] <;> rfl) | (simp only [← hji5, ← hji7, ← hji13]; first | rfl | (simp [errW_none, errW_some] <;> rfl)) | (simp [*, errW_none, errW_some] <;> rfl), by repeat (first | (with_reducible first | exact HB.out | apply below_alloc | apply pw_below_drewN | apply below_drew1 | refine below_set ?_ GE427.out) | exact HB.out)⟩
                        · rw [if_neg c47] at H
                          have c47b0 : (t460 == 0) = false := beq_eq_false_iff_ne.mpr c47
                          have c47b1 : (t460 != 0) = true := bne_iff_ne.mpr c47
                          obtain rfl := Option.some.inj H
                          have hcz63_0 : wc.cell? ⟨gb427, 0, none⟩ = some (.slice A2_0 l2_0.length c2_0) := (blk_cell BK427.out 0).trans rfl
                          have hcz63_1 : wc.cell? ⟨gb427, 1, none⟩ = some (.int .u16 a2_1) := (blk_cell BK427.out 1).trans rfl
                          have hfz63_0 := blk_frozen BK427.out 0
                          have hfz63_1 := blk_frozen BK427.out 1
                          go_wp2_with (first | ((with_reducible refine gate_callee (f := 34) rfl ?_); refine goesL_ (some 80) rfl rfl Try.func34 (by kernel_rfl) rfl #[.slice A2_0 l2_0.length c2_0] rfl (by (try simp only [List.map_toArray, List.map_cons, List.map_nil]); first | done | rfl | (simp only [List.length_drop, List.length_take]; rfl)) ?_; (with_reducible refine (octet_Join.calls kj31 _ _ l2_0 t459 t460 _ ?side1 ?side2 A46.out).mono ?_); (case side1 => repeat (first | exact (Kd.C_below HR2_0.out HB.out) | (with_reducible refine Kd.C_alloc ?_ _) | (with_reducible refine Kd.C_drewN ?_ _) | (with_reducible refine Kd.C_drew ?_))); (case side2 => exact HC2_0.out); rintro e w64 ⟨v461, rfl, ho0, hb⟩; refine ⟨_, rfl, ?_⟩; have n0_ := Aside0.mk (Kd.R_lower ho0 (below_size (by repeat (first | (with_reducible first | exact HB.out | apply below_alloc | apply pw_below_drewN | apply below_drew1 | refine below_set ?_ GE427.out) | exact HB.out)))); have n1_ := Aside0.mk (blk_below (g := gb427) (o := .cells #[.slice A2_0 l2_0.length c2_0, .int .u16 a2_1] 57 (0, 0)) (by (with_reducible repeat (first | refine blk_drewN ?_ _ | refine blk_drew ?_ | refine blk_alloc ?_ _)); exact BK427.out) hb); have n2_ := Aside0.mk (below_step (by repeat (first | (with_reducible first | exact HB.out | apply below_alloc | apply pw_below_drewN | apply below_drew1 | refine below_set ?_ GE427.out) | exact HB.out)) hb); clear BK427; clear HB; have HO462 := n0_; have BK427 := n1_; have HB := n2_; clear n0_ n1_ n2_; (try clear hb); (try clear hb2); (try clear hk); (try clear hi); (try clear ho0)))
                          go_ret
                          exact ⟨by first | rfl | (simp [errW_none, errW_some] <;> rfl) | (simp only [← hji5, ← hji7, ← hji13]; first | rfl | (simp [errW_none, errW_some] <;> rfl)) | (simp [*, errW_none, errW_some] <;> rfl), by repeat (first | (with_reducible first | exact HB.out | apply below_alloc | apply pw_below_drewN | apply below_drew1 | refine below_set ?_ GE427.out) | exact HB.out)⟩
              · rw [if_neg c17] at H
                have c17b0 : (t447 == 3) = false := beq_eq_false_iff_ne.mpr c17
                have c17b1 : (t447 != 3) = true := bne_iff_ne.mpr c17
                obtain rfl := Option.some.inj H
                go_enter Try.func16, Try.ntmps16
                try go_wp2_with (first | ((with_reducible refine gate_dst (N := 5) rfl ?_); (try (refine gate_guard (by rfl) ?_; dsimp only)); refine box_event ?hg (N := 5) ?hd (cs := #[.slice A2_0 l2_0.length c2_0, .int .u16 a2_1]) (t := 57) ?hr ?_; (case hd => rfl); (case hg => rfl); (case hr => first | (go_simp; done) | (go_simp; rfl)); intro gb427 hg w65 hbox hb; have n0_ := Aside0.mk (below_step (by repeat (first | (with_reducible first | exact HB.out | apply below_alloc | apply pw_below_drewN | apply below_drew1) | exact HB.out)) hb); have n1_ := Aside0.mk (hbox); have n2_ := Aside0.mk ((by rw [hg]; exact (below_size (by repeat (first | (with_reducible first | exact HB.out | apply below_alloc | apply pw_below_drewN | apply below_drew1) | exact HB.out))) : w.heap.size ≤ gb427)); have n3_ := Aside0.mk ((by rw [hg]; exact (below_size (by repeat (first | (with_reducible first | exact HB.out | apply below_alloc | apply pw_below_drewN | apply below_drew1) | exact HB.out))) : w.heap.size ≤ gb427)); clear HB; have HB := n0_; have BK427 := n1_; have GW427 := n2_; have GE427 := n3_; clear n0_ n1_ n2_ n3_; clear hb hbox hg) | ((with_reducible refine gate_callee (f := 27) rfl ?_); refine goesL_ (some 19) rfl rfl Try.func27 (by kernel_rfl) rfl #[.int .i64 a0] rfl (by (try simp only [List.map_toArray, List.map_cons, List.map_nil]); first | done | rfl | (simp only [List.length_drop, List.length_take]; rfl)) ?_; (with_reducible refine (octet_Int.calls k a0 t428 _ A4.out).mono ?_); rintro e w66 ⟨v429, rfl, ho0, hb⟩; refine ⟨_, rfl, ?_⟩; have n0_ := Aside0.mk (Kd.R_lower ho0 (below_size (by repeat (first | (with_reducible first | exact HB.out | apply below_alloc | apply pw_below_drewN | apply below_drew1 | refine below_set ?_ GE427.out) | exact HB.out)))); have n1_ := Aside0.mk (blk_below (g := gb427) (o := .cells #[.slice A2_0 l2_0.length c2_0, .int .u16 a2_1] 57 (0, 0)) (by (with_reducible repeat (first | refine blk_drewN ?_ _ | refine blk_drew ?_ | refine blk_alloc ?_ _)); exact BK427.out) hb); have n2_ := Aside0.mk (below_step (by repeat (first | (with_reducible first | exact HB.out | apply below_alloc | apply pw_below_drewN | apply below_drew1 | refine below_set ?_ GE427.out) | exact HB.out)) hb); clear BK427; clear HB; have HO430 := n0_; have BK427 := n1_; have HB := n2_; clear n0_ n1_ n2_; (try clear hb); (try clear hb2); (try clear hk); (try clear hi); (try clear ho0); have hcz67_0 : w66.cell? ⟨gb427, 0, none⟩ = some (.slice A2_0 l2_0.length c2_0) := (blk_cell BK427.out 0).trans rfl; have hcz67_1 : w66.cell? ⟨gb427, 1, none⟩ = some (.int .u16 a2_1) := (blk_cell BK427.out 1).trans rfl; have hfz67_0 := blk_frozen BK427.out 0; have hfz67_1 := blk_frozen BK427.out 1; obtain ⟨Ao68, co68, eo68⟩ := Kd.R_slice HO430.out; subst eo68; have q69 : ((ji7) : Int) ≤ ((t428.length : Int) : Int) := of_decide_eq_true (by first | (with_reducible assumption) | assumption); obtain ⟨i069, hi069, _, hsz69, _⟩ := info_parts info5; have hroom69 : t428.length ≤ co68 := (Kd.R_reads' HO430.out).2.1; have hC69 : Kd.C (Kd.int .u8) _ Ao68 t428.length t428 := (Kd.R_reads' HO430.out).2.2; have hcut69 := cut_to (P := Try.prog) 23 5 .i64 Try.underlying23 hi069 Ao68 t428.length co68 (ji7) (of_decide_eq_true (by first | (with_reducible assumption) | assumption)) q69 hroom69; have hr69 := Kd.C_take (m := ((ji7) : Int).toNat) hC69 (by omega); have hy69 : y431.length = ((ji7) : Int).toNat := (by rw [Ny431.out, List.length_take]; omega); rw [← Ny431.out] at hr69; rw [← hy69] at hcut69; have HR434 := Aside0.mk hr69; have HC434 := Aside0.mk (show y431.length ≤ co68 from by omega); clear hr69 hC69 hroom69 hi069 hsz69; have KY69 := Aside0.mk hy69; clear hy69; have KL69 := Aside0.mk (show ((ji7) : Int).toNat ≤ t428.length from by omega); replace q69 := eq_true q69) | ((with_reducible refine gate_callee (f := 26) rfl ?_); refine goesL_ (some 30) rfl rfl Try.func26 (by kernel_rfl) rfl #[.slice Ao68 y431.length co68, .int .i64 0] rfl (by (try simp only [List.map_toArray, List.map_cons, List.map_nil]); first | done | rfl | (simp only [List.length_drop, List.length_take]; rfl)) ?_; (with_reducible refine (octet_TakeInt.calls k _ _ y431 0 t435 t436 t437 _ ?side1 ?side2 A10.out).mono ?_); (case side1 => repeat (first | exact (by repeat (first | (with_reducible exact HR434.out) | (with_reducible refine Kd.C_alloc ?_ _) | (with_reducible refine Kd.C_drewN ?_ _) | (with_reducible refine Kd.C_drew ?_) | exact HR434.out)) | (with_reducible refine Kd.C_alloc ?_ _) | (with_reducible refine Kd.C_drewN ?_ _) | (with_reducible refine Kd.C_drew ?_))); (case side2 => exact HC434.out); rintro e w' ⟨rfl, ⟨nd, rfl⟩⟩; refine ⟨_, rfl, ?_⟩))
                (try (rw [drewN_self w66]; generalize hq_ : World.drewN w66 _ = w66; have n0_ : Aside0 (Kd.R (Kd.int .u8) 5 w66 w.heap.size (fun _ => True) (.slice Ao68 t428.length co68) t428) := ⟨by rw [← hq_]; exact (by (with_reducible repeat (first | apply Kd.R_alloc | apply Kd.R_drewN | apply Kd.R_drew)); exact HO430.out)⟩; have n1_ : Aside0 (w66.heap[gb427]? = some (.cells #[.slice A2_0 l2_0.length c2_0, .int .u16 a2_1] 57 (0, 0))) := ⟨by rw [← hq_]; exact (by (with_reducible repeat (first | refine blk_drewN ?_ _ | refine blk_drew ?_ | refine blk_alloc ?_ _)); exact BK427.out)⟩; have n2_ : Aside0 (Below w.heap.size w w66) := ⟨by rw [← hq_]; exact (by repeat (first | (with_reducible first | exact HB.out | apply below_alloc | apply pw_below_drewN | apply below_drew1 | refine below_set ?_ GE427.out) | exact HB.out))⟩; have n3_ : Aside0 (Kd.C (Kd.int .u8) w66 Ao68 y431.length y431) := ⟨by rw [← hq_]; exact (by repeat (first | (with_reducible exact HR434.out) | (with_reducible refine Kd.C_alloc ?_ _) | (with_reducible refine Kd.C_drewN ?_ _) | (with_reducible refine Kd.C_drew ?_) | exact HR434.out))⟩; clear HO430 BK427 HB HR434 hq_; have HO430 := n0_; have BK427 := n1_; have HB := n2_; have HR434 := n3_; clear n0_ n1_ n2_ n3_))
                have n0_ := Aside0.mk (Kd.R_drew HO430.out)
                have n1_ := Aside0.mk (blk_drew BK427.out)
                have n2_ := Aside0.mk (Kd.C_drew HR434.out)
                have n3_ := Aside0.mk (below_drew1 HB.out)
                clear HO430
                clear BK427
                clear HR434
                clear HB
                have HO430 := n0_
                have BK427 := n1_
                have HR434 := n2_
                have HB := n3_
                clear n0_ n1_ n2_ n3_
                refine start_ (n := 13) (S := fun w' => w'.cell? ⟨gb427, 0, none⟩ = some (.slice A2_0 l2_0.length c2_0) ∧ w'.cell? ⟨gb427, 1, none⟩ = some (.int .u16 a2_1)) (ds := []) #[false, false, false, false, false, false, false, false, false, false, false, false, false] (by kernel_rfl) rfl rfl ⟨(blk_cell BK427.out 0).trans rfl, (blk_cell BK427.out 1).trans rfl⟩ (fun hHeld => ?_); refine with_tabW grapevinelaw02_OctetCuts.tab5 grapevinelaw02_OctetCuts.bits5 (fun HT_ HW_ => ?_)
                generalize w66.drew = w70 at HO430 BK427 HR434 HB hHeld ⊢
                refine pure_ (i := 0) (N := some 37) (v := ?_) (a' := ?_) #[true, false, false, false, false, false, false, false, false, false, false, false, false] rfl rfl (any_of HT_.out (by kernel_rfl)) (fun _ _ _ h => h) (Or.inl ⟨by rfl, ?_⟩) ?_ ?_
                rotate_left
                · intro w'
                  go_simp
                  with_reducible rfl
                rotate_left
                · simp only [Act.put, List.setIfInBounds_toArray, List.set_cons_zero, List.set_cons_succ, i64_w, i32_w]
                  rfl
                refine pure_ (i := 2) (N := some 39) (v := ?_) (a' := ?_) #[true, false, true, false, false, false, false, false, false, false, false, false, false] rfl rfl (any_of HT_.out (by kernel_rfl)) (fun _ _ _ h => h) (Or.inl ⟨by rfl, ?_⟩) ?_ ?_
                rotate_left
                · intro w'
                  go_simp
                  with_reducible rfl
                rotate_left
                · simp only [Act.put, List.setIfInBounds_toArray, List.set_cons_zero, List.set_cons_succ, i64_w, i32_w]
                  rfl
                refine take_ (i := 3) (N := some 40) (v := ?_) (a' := ?_) #[true, false, true, true, false, false, false, false, false, false, false, false, false] rfl rfl (take_ofW HT_.out HW_.out (by kernel_rfl)) (fun _ _ _ h => h) (Or.inl ⟨by rfl, ?_⟩) hHeld ?_ ?_
                rotate_left
                · rintro w' ⟨s0, s1⟩
                  go_simp
                  with_reducible rfl
                rotate_left
                · simp only [Act.put, List.setIfInBounds_toArray, List.set_cons_zero, List.set_cons_succ, i64_w, i32_w]
                  rfl
                refine pure_ (i := 4) (N := some 41) (v := ?_) (a' := ?_) #[true, false, true, true, true, false, false, false, false, false, false, false, false] rfl rfl (any_of HT_.out (by kernel_rfl)) (fun _ _ _ h => h) (Or.inl ⟨by rfl, ?_⟩) ?_ ?_
                rotate_left
                · intro w'
                  go_simp
                  with_reducible rfl
                rotate_left
                · simp only [Act.put, List.setIfInBounds_toArray, List.set_cons_zero, List.set_cons_succ, i64_w, i32_w]
                  rfl
                refine pure_ (i := 5) (N := some 42) (v := ?_) (a' := ?_) #[true, false, true, true, true, true, false, false, false, false, false, false, false] rfl rfl (any_of HT_.out (by kernel_rfl)) (fun _ _ _ h => h) (Or.inl ⟨by rfl, ?_⟩) ?_ ?_
                rotate_left
                · intro w'
                  go_simp
                  with_reducible rfl
                rotate_left
                · simp only [Act.put, List.setIfInBounds_toArray, List.set_cons_zero, List.set_cons_succ, i64_w, i32_w]
                  rfl
                refine one_ (i := 1) (N := some 38) #[true, true, true, true, true, true, false, false, false, false, false, false, false] rfl rfl (one_of HT_.out (by kernel_rfl)) (by decide) (fun K hK => ?_)
                refine goes_ Try.func19 (by kernel_rfl) rfl #[.int .i64 a0] (by rfl) rfl rfl (by (try simp only [List.map_toArray, List.map_cons, List.map_nil]); first | done | rfl | (simp only [List.length_drop, List.length_take]; rfl)) ?_
                with_reducible refine (octet_Key.calls k a0 t438 _ A12.out).mono ?_
                rintro e w71 ⟨v439, rfl, ho0, hb⟩
                refine ⟨_, rfl, ?_⟩
                have n0_ := Aside0.mk (Kd.R_elder' (by (with_reducible repeat (first | apply Kd.R_alloc | apply Kd.R_drewN | apply Kd.R_drew)); exact HO430.out) (Kd.R_base ho0) hb)
                have n1_ := Aside0.mk (Kd.R_lower (Kd.R_new' ho0 (Kd.R_lt (by (with_reducible repeat (first | apply Kd.R_alloc | apply Kd.R_drewN | apply Kd.R_drew)); exact HO430.out))) (below_size (by repeat (first | (with_reducible first | exact HB.out | apply below_alloc | apply pw_below_drewN | apply below_drew1 | refine below_set ?_ GE427.out) | exact HB.out))))
                have n2_ := Aside0.mk (blk_below (g := gb427) (o := .cells #[.slice A2_0 l2_0.length c2_0, .int .u16 a2_1] 57 (0, 0)) (by (with_reducible repeat (first | refine blk_drewN ?_ _ | refine blk_drew ?_ | refine blk_alloc ?_ _)); exact BK427.out) hb)
                have n3_ := Aside0.mk (Kd.C_below (by repeat (first | (with_reducible exact HR434.out) | (with_reducible refine Kd.C_alloc ?_ _) | (with_reducible refine Kd.C_drewN ?_ _) | (with_reducible refine Kd.C_drew ?_) | exact HR434.out)) hb)
                have n4_ := Aside0.mk (below_step (by repeat (first | (with_reducible first | exact HB.out | apply below_alloc | apply pw_below_drewN | apply below_drew1 | refine below_set ?_ GE427.out) | exact HB.out)) hb)
                clear HO430
                clear BK427
                clear HR434
                clear HB
                have HO430 := n0_
                have HO440 := n1_
                have BK427 := n2_
                have HR434 := n3_
                have HB := n4_
                clear n0_ n1_ n2_ n3_ n4_
                (try clear hb)
                (try clear hb2)
                (try clear hk)
                (try clear hi)
                (try clear ho0)
                obtain ⟨Ao73, co73, eo73⟩ := Kd.R_slice HO440.out
                (first | subst eo73 | (injection eo73 with f1_ f2_ f3_; have f4_ := f1_.symm; have f5_ := f3_.symm; clear f1_ f2_ f3_; subst f4_; subst f5_))
                have q72 : ((ji13) : Int) ≤ ((t438.length : Int) : Int) := of_decide_eq_true (by first | (with_reducible assumption) | assumption)
                obtain ⟨i072, hi072, _, hsz72, _⟩ := info_parts info5
                have hroom72 : t438.length ≤ co73 := (Kd.R_reads' HO440.out).2.1
                have hC72 : Kd.C (Kd.int .u8) _ Ao73 t438.length t438 := (Kd.R_reads' HO440.out).2.2
                have hcut72 := cut_to (P := Try.prog) 23 5 .i64 Try.underlying23 hi072 Ao73 t438.length co73 (ji13) (of_decide_eq_true (by first | (with_reducible assumption) | assumption)) q72 hroom72
                have hr72 := Kd.C_take (m := ((ji13) : Int).toNat) hC72 (by omega)
                have hy72 : y441.length = ((ji13) : Int).toNat := (by rw [Ny441.out, List.length_take]; omega)
                rw [← Ny441.out] at hr72
                rw [← hy72] at hcut72
                have HR444 := Aside0.mk hr72
                have HC444 := Aside0.mk (show y441.length ≤ co73 from by omega)
                clear hr72 hC72 hroom72 hi072 hsz72
                have KY72 := Aside0.mk hy72
                clear hy72
                have KL72 := Aside0.mk (show ((ji13) : Int).toNat ≤ t438.length from by omega)
                replace q72 := eq_true q72
                refine hK.out _ _ ⟨(blk_cell BK427.out 0).trans rfl, (blk_cell BK427.out 1).trans rfl⟩ (fun hHeld => ?_)
                clear hK K
                refine norm_ (a' := ?_) ?_ ?_
                rotate_left
                · show Act.put _ (some 38) _ = _
                  simp only [Act.put, List.setIfInBounds_toArray, List.set_cons_zero, List.set_cons_succ, i64_w, i32_w]
                  rfl
                refine pure_ (i := 6) (N := some 43) (v := ?_) (a' := ?_) #[true, true, true, true, true, true, true, false, false, false, false, false, false] rfl rfl (any_of HT_.out (by kernel_rfl)) (fun _ _ _ h => h) (Or.inl ⟨by rfl, ?_⟩) ?_ ?_
                rotate_left
                · intro w'
                  go_simp
                  with_reducible rfl
                rotate_left
                · simp only [Act.put, List.setIfInBounds_toArray, List.set_cons_zero, List.set_cons_succ, i64_w, i32_w]
                  rfl
                refine one_ (i := 7) (N := some 44) #[true, true, true, true, true, true, true, true, false, false, false, false, false] rfl rfl (one_of HT_.out (by kernel_rfl)) (by decide) (fun K hK => ?_)
                refine goes_ Try.func20 (by kernel_rfl) rfl #[.slice Ao73 y441.length co73, .int .i64 0] (by rfl) rfl rfl (by (try simp only [List.map_toArray, List.map_cons, List.map_nil]); first | done | rfl | (simp only [List.length_drop, List.length_take]; rfl)) ?_
                with_reducible refine (octet_TakeKey.calls k _ _ y441 0 t445 t446 t447 _ ?side1 ?side2 A16.out).mono ?_
                (case side1 => repeat (first | exact (by repeat (first | (with_reducible exact HR444.out) | (with_reducible refine Kd.C_alloc ?_ _) | (with_reducible refine Kd.C_drewN ?_ _) | (with_reducible refine Kd.C_drew ?_) | exact HR444.out)) | (with_reducible refine Kd.C_alloc ?_ _) | (with_reducible refine Kd.C_drewN ?_ _) | (with_reducible refine Kd.C_drew ?_)))
                (case side2 => exact HC444.out)
                rintro e w' ⟨rfl, ⟨nd, rfl⟩⟩
                refine ⟨_, rfl, ?_⟩
                refine hK.out _ _ ⟨(blk_cell BK427.out 0).trans rfl, (blk_cell BK427.out 1).trans rfl⟩ (fun hHeld => ?_)
                clear hK K
                refine norm_ (a' := ?_) ?_ ?_
                rotate_left
                · show Act.put _ (some 44) _ = _
                  simp only [Act.put, List.setIfInBounds_toArray, List.set_cons_zero, List.set_cons_succ, i64_w, i32_w]
                  rfl
                refine pure_ (i := 8) (N := some 36) (v := ?_) (a' := ?_) #[true, true, true, true, true, true, true, true, true, false, false, false, false] rfl rfl (any_of HT_.out (by kernel_rfl)) (fun _ _ _ h => h) (Or.inl ⟨by rfl, ?_⟩) ?_ ?_
                rotate_left
                · intro w'
                  go_simp
                  with_reducible rfl
                rotate_left
                · simp only [Act.put, List.setIfInBounds_toArray, List.set_cons_zero, List.set_cons_succ, i64_w, i32_w]
                  rfl
                refine pure_ (i := 9) (N := some 45) (v := ?_) (a' := ?_) #[true, true, true, true, true, true, true, true, true, true, false, false, false] rfl rfl (any_of HT_.out (by kernel_rfl)) (fun _ _ _ h => h) (Or.inl ⟨by rfl, ?_⟩) ?_ ?_
                rotate_left
                · intro w'
                  go_simp
                  with_reducible rfl
                rotate_left
                · simp only [Act.put, List.setIfInBounds_toArray, List.set_cons_zero, List.set_cons_succ, i64_w, i32_w]
                  rfl
                refine pure_ (i := 10) (N := some 46) (v := ?_) (a' := ?_) #[true, true, true, true, true, true, true, true, true, true, true, false, false] rfl rfl (any_of HT_.out (by kernel_rfl)) (fun _ _ _ h => h) (Or.inl ⟨by rfl, ?_⟩) ?_ ?_
                rotate_left
                · intro w'
                  go_simp
                  with_reducible rfl
                rotate_left
                · simp only [Act.put, List.setIfInBounds_toArray, List.set_cons_zero, List.set_cons_succ, i64_w, i32_w]
                  rfl
                refine pure_ (i := 11) (N := some 47) (v := ?_) (a' := ?_) #[true, true, true, true, true, true, true, true, true, true, true, true, false] rfl rfl (any_of HT_.out (by kernel_rfl)) (fun _ _ _ h => h) (Or.inl ⟨by rfl, ?_⟩) ?_ ?_
                rotate_left
                · intro w'
                  go_simp
                  with_reducible rfl
                rotate_left
                · simp only [Act.put, List.setIfInBounds_toArray, List.set_cons_zero, List.set_cons_succ, i64_w, i32_w]
                  rfl
                refine pure_ (i := 12) (N := some 10) (v := ?_) (a' := ?_) #[true, true, true, true, true, true, true, true, true, true, true, true, true] rfl rfl (any_of HT_.out (by kernel_rfl)) (fun _ _ _ h => h) (Or.inl ⟨by rfl, ?_⟩) ?_ ?_
                rotate_left
                · intro w'
                  go_simp
                  with_reducible rfl
                rotate_left
                · simp only [Act.put, List.setIfInBounds_toArray, List.set_cons_zero, List.set_cons_succ, i64_w, i32_w]
                  rfl
                refine done_ (done_of HT_.out (by kernel_rfl)) ?_
                try go_wp2
                go_ret
                exact ⟨by first | rfl | (simp [errW_none, errW_some] <;> rfl) | (simp only [← hji5, ← hji7, ← hji13]; first | rfl | (simp [errW_none, errW_some] <;> rfl)) | (simp [*, errW_none, errW_some] <;> rfl), by repeat (first | (with_reducible first | exact HB.out | apply below_alloc | apply pw_below_drewN | apply below_drew1 | refine below_set ?_ GE427.out) | exact HB.out)⟩
            · rw [if_neg c15] at H
              exact absurd H (by simp)
          · rw [if_neg c14] at H
            exact absurd H (by simp)
        · rw [if_neg c11] at H
          have c11b0 : (t437 == 3) = false := beq_eq_false_iff_ne.mpr c11
          have c11b1 : (t437 != 3) = true := bne_iff_ne.mpr c11
          obtain rfl := Option.some.inj H
          go_enter Try.func16, Try.ntmps16
          go_wp2_with (first | ((with_reducible refine gate_dst (N := 5) rfl ?_); (try (refine gate_guard (by rfl) ?_; dsimp only)); refine box_event ?hg (N := 5) ?hd (cs := #[.slice A2_0 l2_0.length c2_0, .int .u16 a2_1]) (t := 57) ?hr ?_; (case hd => rfl); (case hg => rfl); (case hr => first | (go_simp; done) | (go_simp; rfl)); intro gb427 hg w74 hbox hb; have n0_ := Aside0.mk (below_step (by repeat (first | (with_reducible first | exact HB.out | apply below_alloc | apply pw_below_drewN | apply below_drew1) | exact HB.out)) hb); have n1_ := Aside0.mk (hbox); have n2_ := Aside0.mk ((by rw [hg]; exact (below_size (by repeat (first | (with_reducible first | exact HB.out | apply below_alloc | apply pw_below_drewN | apply below_drew1) | exact HB.out))) : w.heap.size ≤ gb427)); have n3_ := Aside0.mk ((by rw [hg]; exact (below_size (by repeat (first | (with_reducible first | exact HB.out | apply below_alloc | apply pw_below_drewN | apply below_drew1) | exact HB.out))) : w.heap.size ≤ gb427)); clear HB; have HB := n0_; have BK427 := n1_; have GW427 := n2_; have GE427 := n3_; clear n0_ n1_ n2_ n3_; clear hb hbox hg) | ((with_reducible refine gate_callee (f := 27) rfl ?_); refine goesL_ (some 19) rfl rfl Try.func27 (by kernel_rfl) rfl #[.int .i64 a0] rfl (by (try simp only [List.map_toArray, List.map_cons, List.map_nil]); first | done | rfl | (simp only [List.length_drop, List.length_take]; rfl)) ?_; (with_reducible refine (octet_Int.calls k a0 t428 _ A4.out).mono ?_); rintro e w75 ⟨v429, rfl, ho0, hb⟩; refine ⟨_, rfl, ?_⟩; have n0_ := Aside0.mk (Kd.R_lower ho0 (below_size (by repeat (first | (with_reducible first | exact HB.out | apply below_alloc | apply pw_below_drewN | apply below_drew1 | refine below_set ?_ GE427.out) | exact HB.out)))); have n1_ := Aside0.mk (blk_below (g := gb427) (o := .cells #[.slice A2_0 l2_0.length c2_0, .int .u16 a2_1] 57 (0, 0)) (by (with_reducible repeat (first | refine blk_drewN ?_ _ | refine blk_drew ?_ | refine blk_alloc ?_ _)); exact BK427.out) hb); have n2_ := Aside0.mk (below_step (by repeat (first | (with_reducible first | exact HB.out | apply below_alloc | apply pw_below_drewN | apply below_drew1 | refine below_set ?_ GE427.out) | exact HB.out)) hb); clear BK427; clear HB; have HO430 := n0_; have BK427 := n1_; have HB := n2_; clear n0_ n1_ n2_; (try clear hb); (try clear hb2); (try clear hk); (try clear hi); (try clear ho0); have hcz76_0 : w75.cell? ⟨gb427, 0, none⟩ = some (.slice A2_0 l2_0.length c2_0) := (blk_cell BK427.out 0).trans rfl; have hcz76_1 : w75.cell? ⟨gb427, 1, none⟩ = some (.int .u16 a2_1) := (blk_cell BK427.out 1).trans rfl; have hfz76_0 := blk_frozen BK427.out 0; have hfz76_1 := blk_frozen BK427.out 1; obtain ⟨Ao77, co77, eo77⟩ := Kd.R_slice HO430.out; subst eo77; have q78 : ((ji7) : Int) ≤ ((t428.length : Int) : Int) := of_decide_eq_true (by first | (with_reducible assumption) | assumption); obtain ⟨i078, hi078, _, hsz78, _⟩ := info_parts info5; have hroom78 : t428.length ≤ co77 := (Kd.R_reads' HO430.out).2.1; have hC78 : Kd.C (Kd.int .u8) _ Ao77 t428.length t428 := (Kd.R_reads' HO430.out).2.2; have hcut78 := cut_to (P := Try.prog) 23 5 .i64 Try.underlying23 hi078 Ao77 t428.length co77 (ji7) (of_decide_eq_true (by first | (with_reducible assumption) | assumption)) q78 hroom78; have hr78 := Kd.C_take (m := ((ji7) : Int).toNat) hC78 (by omega); have hy78 : y431.length = ((ji7) : Int).toNat := (by rw [Ny431.out, List.length_take]; omega); rw [← Ny431.out] at hr78; rw [← hy78] at hcut78; have HR434 := Aside0.mk hr78; have HC434 := Aside0.mk (show y431.length ≤ co77 from by omega); clear hr78 hC78 hroom78 hi078 hsz78; have KY78 := Aside0.mk hy78; clear hy78; have KL78 := Aside0.mk (show ((ji7) : Int).toNat ≤ t428.length from by omega); replace q78 := eq_true q78) | ((with_reducible refine gate_callee (f := 26) rfl ?_); refine goesL_ (some 30) rfl rfl Try.func26 (by kernel_rfl) rfl #[.slice Ao77 y431.length co77, .int .i64 0] rfl (by (try simp only [List.map_toArray, List.map_cons, List.map_nil]); first | done | rfl | (simp only [List.length_drop, List.length_take]; rfl)) ?_; (with_reducible refine (octet_TakeInt.calls k _ _ y431 0 t435 t436 t437 _ ?side1 ?side2 A10.out).mono ?_); (case side1 => repeat (first | exact (by repeat (first | (with_reducible exact HR434.out) | (with_reducible refine Kd.C_alloc ?_ _) | (with_reducible refine Kd.C_drewN ?_ _) | (with_reducible refine Kd.C_drew ?_) | exact HR434.out)) | (with_reducible refine Kd.C_alloc ?_ _) | (with_reducible refine Kd.C_drewN ?_ _) | (with_reducible refine Kd.C_drew ?_))); (case side2 => exact HC434.out); rintro e w' ⟨rfl, ⟨nd, rfl⟩⟩; refine ⟨_, rfl, ?_⟩))
          go_ret
          exact ⟨by first | rfl | (simp [errW_none, errW_some] <;> rfl) | (simp only [← hji5, ← hji7]; first | rfl | (simp [errW_none, errW_some] <;> rfl)) | (simp [*, errW_none, errW_some] <;> rfl), by repeat (first | (with_reducible first | exact HB.out | apply below_alloc | apply pw_below_drewN | apply below_drew1 | refine below_set ?_ GE427.out) | exact HB.out)⟩
      · rw [if_neg c9] at H
        exact absurd H (by simp)
    · rw [if_neg c8] at H
      exact absurd H (by simp)

end Go.Proofs.Ytchanabiobcbhaa.Q
