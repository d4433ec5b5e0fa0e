/- Functions of the program as Lean functions, each with its walk: that the Go code comes to just these answers, whatever the memory. Written by a program of this claim (wip/tools). -/
import Derived.Test.YtmgljgmieomngaaMc
import Derived.Test.YtmgljgmieomngaaQx0
namespace Go.Proofs.Ytmgljgmieomngaa.Q
open Go.RowKit Go.Proofs.YtmgljgmieomngaaW.PrintWords Go.Proofs.YtmgljgmieomngaaW.PrintLast Go.Proofs.YtmgljgmieomngaaW.PrintMore
attribute [local go_sem] run_ftoi isSome_setCell bytesLess_total run_store_complex run_store_float max2_int min2_int max_two min_two max_three min_three max_four min_four   -- for this text's walks alone
set_option linter.unusedVariables false
set_option linter.unusedSimpArgs false

/-! ### event_at: function 75 -/
def attrV (x : S45) : Value := .agg #[.string x.f0, .int .i64 x.f1.f0, .int .i64 x.f1.f1, .string x.f1.f2, .bool x.f1.f3, .complex .f64 x.f1.f4.re x.f1.f4.im]
theorem event_at_pred (B : Nat) (nm : ByteArray) (x : S45) (w : World) (hB : B < w.heap.size) (hc : w.cell? ⟨B, 0, none⟩ = some (.string nm)) :
  Calls Try.prog 83 #[attrV x, .pointer (some ⟨B, 0, none⟩)] w fun e w' => e = .returned (.bool (x.f0.toList == nm.toList)) ∧ Below w.heap.size w w' := by
 have huA := Try.underlying45
 have HB := Aside0.mk (Below.refl w.heap.size w)
 unfold attrV
 go_enter Try.func83, Try.ntmps83
 go_wp2_with (first | ((with_reducible refine gate_dst (N := 2) rfl ?_); (try (refine gate_guard (by rfl) ?_; dsimp only)); refine box_event ?hg (N := 2) ?hd (cs := #[.string x.f0, .int .i64 x.f1.f0, .int .i64 x.f1.f1, .string x.f1.f2, .bool x.f1.f3, .complex .f64 x.f1.f4.re x.f1.f4.im]) (t := 45) ?hr ?_; (case hd => rfl); (case hg => rfl); (case hr => first | (go_simp; done) | (go_simp; rfl)); intro gb hg w3 hbox hb; have n0_ := Aside0.mk (below_step HB.out hb); have hq := (hb.cell (p := ⟨B, 0, none⟩) hB).trans hc; have hq0 : w3.cell? ⟨gb, 0, none⟩ = some (.string x.f0) := (blk_cell hbox 0).trans rfl; clear HB; have HB := n0_; clear n0_; clear hb hbox hg))
 go_ret
 exact ⟨rfl, Bl⟩
def idxAt (nm : ByteArray) : List S45 → Int → Int
 | [], _ => -1
 | x :: xs, i => if x.f0.toList = nm.toList then i else idxAt nm xs (i + 1)
theorem idxAt_drop (l : List S45) (i : Nat) (h : i < l.length) : l.drop i = rd_T45 l (i : Int) :: l.drop (i + 1) := by
 rw [List.drop_eq_getElem_cons h]
 congr 1
 unfold rd_T45
 simp [List.getD_eq_getElem?_getD, h]
theorem event_at_index (A : Option Addr) (c : Nat) (l : List S45) (B : Nat) (nm : ByteArray) (w : World) (hr : Kd.C k45 w A l.length l) (hn : l.length ≤ 9223372036854775807) (hB : B < w.heap.size) (hc : w.cell? ⟨B, 0, none⟩ = some (.string nm)) :
  Calls Try.prog 82 #[.slice A l.length c, .func (.func 83) #[] #[.pointer (some ⟨B, 0, none⟩)]] w fun e w' => e = .returned (.int .i64 (idxAt nm l 0)) ∧ Below w.heap.size w w' := by
 have huA := Try.underlying45
 have HR := Aside0.mk hr
 have HC := Aside0.mk hc
 clear hr hc
 go_enter Try.func82, Try.ntmps82
 go_wp2
 go_loopg [5, 8] l.length (fun gk v5 v8 w' => ∃ kk : Nat, kk ≤ l.length ∧ l.length - kk ≤ gk ∧ v8 = .int .i64 kk ∧ Aside0 (Below w.heap.size w w') ∧ Aside0 (idxAt nm (l.drop kk) kk = idxAt nm l 0))
 case atStart => exact ⟨0, Nat.zero_le _, by omega, rfl, ⟨Below.refl _ w⟩, ⟨by simp⟩⟩
 case round =>
  obtain ⟨kk, hkk, hg, rfl, HB, HI⟩ := hrel
  by_cases hlt : kk < l.length
  ·have hltz : (kk : Int) < (l.length : Int) := by omega
   have h0 : 0 ≤ (kk : Int) := by omega
   obtain ⟨ad, e, hx0, hx1, hx2, hx3, hx4, hx5⟩ := at_T45 HR.out (kk : Int) h0 hltz
   cases e
   simp only [Int.toNat_natCast] at hx0 hx1 hx2 hx3 hx4 hx5
   replace hx0 := (HB.out.cell (World.block_lt_of_cell? w _ hx0)).trans hx0
   replace hx1 := (HB.out.cell (World.block_lt_of_cell? w _ hx1)).trans hx1
   replace hx2 := (HB.out.cell (World.block_lt_of_cell? w _ hx2)).trans hx2
   replace hx3 := (HB.out.cell (World.block_lt_of_cell? w _ hx3)).trans hx3
   replace hx4 := (HB.out.cell (World.block_lt_of_cell? w _ hx4)).trans hx4
   replace hx5 := (HB.out.cell (World.block_lt_of_cell? w _ hx5)).trans hx5
   have hcell := (HB.out.cell (p := ⟨B, 0, none⟩) hB).trans HC.out
   have hcall := event_at_pred B nm (rd_T45 l (kk : Int)) wr (Nat.lt_of_lt_of_le hB HB.out.size) hcell
   unfold attrV at hcall
   have hd := idxAt_drop l kk hlt
   have HI2 := HI.out
   rw [hd, idxAt] at HI2
   clear HI hcell
   by_cases hq : (rd_T45 l (kk : Int)).f0.toList = nm.toList
   ·rw [if_pos hq] at HI2
    rw [hq] at hcall
    simp only [beq_self_eq_true] at hcall
    have HI := Aside0.mk HI2
    have HD := Aside0.mk hd
    have HQ := Aside0.mk hq
    clear HI2 hd hq
    go_wp2_with (go_at_call 83; refine hcall.mono ?_; rintro e w' ⟨rfl, hb'⟩)
    go_ret
    exact ⟨by rw [← HI.out]; rfl, below_step HB.out hb'⟩
   ·rw [if_neg hq] at HI2
    have hq' : ((rd_T45 l (kk : Int)).f0.toList == nm.toList) = false := by simpa using hq
    rw [hq'] at hcall
    have HI := Aside0.mk HI2
    clear HI2 hd hq hq'
    go_wp2_with (go_at_call 83; refine hcall.mono ?_; rintro e w' ⟨rfl, hb'⟩)
    go_roundg (l.length - (kk + 1))
    case measure => omega
    case rel => exact ⟨kk + 1, by omega, by omega, by go_num, ⟨below_step HB.out hb'⟩, ⟨by rw [← HI.out]; simp⟩⟩
  ·have hltz : ¬ (kk : Int) < (l.length : Int) := by omega
   have : kk = l.length := by omega
   subst this
   have HI2 := HI.out
   rw [List.drop_length, idxAt] at HI2
   go_wp2
   go_ret
   exact ⟨by rw [← HI2]; rfl, HB.out⟩
def event_at.f (l0_0 : List S45) (l0_1 : List Int) (a1 : ByteArray) : Option (Int) := some (idxAt a1 l0_0 0)
theorem event_at.calls (A0_0 : Option Addr) (c0_0 : Nat) (l0_0 : List S45) (A0_1 : Option Addr) (c0_1 : Nat) (l0_1 : List Int) (a1 : ByteArray) (r : Int) (w : World) (hr0_0 : Kd.C k45 w A0_0 l0_0.length l0_0) (hc0_0 : l0_0.length ≤ c0_0) (hr0_1 : Kd.C (Kd.int .u8) w A0_1 l0_1.length l0_1) (hc0_1 : l0_1.length ≤ c0_1) (h : event_at.f l0_0 l0_1 a1 = some r) :
  Calls Try.prog 75 #[.agg #[.slice A0_0 l0_0.length c0_0, .slice A0_1 l0_1.length c0_1], .string a1] w fun e w' => e = .returned (.int .i64 r) ∧ Below w.heap.size w w' := by
 have huE := Try.underlying48
 have hn := Kd.C_max hr0_0
 unfold event_at.f at h
 have h := Option.some.inj h
 have HR := Aside0.mk hr0_0
 clear hr0_0 hr0_1
 have HB := Aside0.mk (Below.refl w.heap.size w)
 go_enter Try.func75, Try.ntmps75
 go_wp2_with (first | ((with_reducible refine gate_dst (N := 2) rfl ?_); (try (refine gate_guard (by rfl) ?_; dsimp only)); refine box_event ?hg (N := 2) ?hd (cs := #[.slice A0_0 l0_0.length c0_0, .slice A0_1 l0_1.length c0_1]) (t := 48) ?hr ?_; (case hd => rfl); (case hg => rfl); (case hr => first | (go_simp; done) | (go_simp; rfl)); intro ga hg w3 hbox hb; have n0_ := Aside0.mk (below_step HB.out hb); have BA := Aside0.mk hbox; clear HB; have HB := n0_; clear n0_; clear hb hbox hg) | ((with_reducible refine gate_dst (N := 3) rfl ?_); (try (refine gate_guard (by rfl) ?_; dsimp only)); refine box_event ?hg (N := 3) ?hd (cs := #[.string a1]) (t := 9) ?hr ?_; (case hd => rfl); (case hg => rfl); (case hr => first | (go_simp; done) | (go_simp; rfl)); intro gb hg w4 hbox hb; have n0_ := Aside0.mk (below_step HB.out hb); have n1_ := Aside0.mk (blk_below (g := ga) (o := .cells #[.slice A0_0 l0_0.length c0_0, .slice A0_1 l0_1.length c0_1] 48 (0, 0)) BA.out hb); have BB := Aside0.mk hbox; clear BA; have BA := n1_; clear HB; have HB := n0_; clear n0_ n1_; clear hb hbox hg; have hq0 : w4.cell? ⟨ga, 0, none⟩ = some (.slice A0_0 l0_0.length c0_0) := (blk_cell BA.out 0).trans rfl) | (go_at_call 82; refine (event_at_index A0_0 c0_0 l0_0 gb a1 _ ?hr ?hn ?hB ?hc).mono ?_; (case hr => repeat (first | (with_reducible refine Kd.C_alloc ?_ _) | (with_reducible refine Kd.C_drewN ?_ _) | (with_reducible refine Kd.C_drew ?_) | exact Kd.C_below HR.out HB.out)); (case hn => exact hn); (case hB => exact blk_lt (g := gb) (o := .cells #[.string a1] 9 (0, 0)) (Bk BB.out)); (case hc => exact (blk_cell (Bk BB.out) 0).trans rfl); rintro e w5 ⟨rfl, hb⟩; have n0_ := Aside0.mk (below_step (Bl) hb); clear HB; have HB := n0_; clear n0_ hb))
 go_ret
 exact ⟨by rw [← h]; rfl, Bl⟩

end Go.Proofs.Ytmgljgmieomngaa.Q
