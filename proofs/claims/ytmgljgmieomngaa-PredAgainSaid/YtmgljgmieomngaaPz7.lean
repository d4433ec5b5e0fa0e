/- What stands behind a name: the term that is appended. -/
import Derived.Test.YtmgljgmieomngaaPz6
import Derived.Test.YtmgljgmieomngaaPy3
import Derived.Deep.RegionLaw
namespace Go.Proofs.Ytmgljgmieomngaa.Pz
open Go Go.RowKit Go.Proofs.YtmgljgmieomngaaW.PrintWords Go.Proofs.YtmgljgmieomngaaW.PrintLast Go.Proofs.YtmgljgmieomngaaW.PrintMore Go.Proofs.Ytmgljgmieomngaa.Q
attribute [local go_sem] run_store_complex run_store_float isSome_setCell
set_option linter.unusedVariables false
set_option linter.unusedSimpArgs false
/-- what a call that appends leaves -/
def Apd (B : Nat) (w : World) (g : Nat) (s : ByteArray) (v : Value) (xs : List S54) (o : Out (List S54 × St)) (e : Ending) (w' : World) : Prop :=
  match o with
  | .ok (l, t) => e = .returned (.tuple #[]) ∧ ∃ v', At w' g (RC s t v') 61 ∧ Kd.R k54 54 w' B (fun k => k ≠ g) v' (xs ++ l) ∧ KeepBut w w' g v.ownBlock ∧ (v'.ownBlock = v.ownBlock ∨ ∃ b, v'.ownBlock = some b ∧ w.heap.size ≤ b) ∧ Below B w w'
  | .bad p er => e = flt p er ∧ KeepBut w w' g v.ownBlock ∧ Below B w w'
theorem KeepBut.weaker {w w' : World} {g : Nat} (h : KeepBut w w' g none) (row : Option Nat) : KeepBut w w' g row := ⟨h.1, fun i hi hg _ => h.2 i hi hg (by simp)⟩
def tc (t : S54) : List Value := [.int .i64 t.f0, .string t.f1, .int .i64 t.f2, .int .i64 t.f3.f0, .int .i64 t.f3.f1, .string t.f3.f2, .bool t.f3.f3, .complex .f64 t.f3.f4.re t.f3.f4.im, .int .i64 t.f4]
/-- a term's cells -/
def TC (t : S54) : Array Value := #[.int .i64 t.f0, .string t.f1, .int .i64 t.f2, .int .i64 t.f3.f0, .int .i64 t.f3.f1, .string t.f3.f2, .bool t.f3.f3, .complex .f64 t.f3.f4.re t.f3.f4.im, .int .i64 t.f4]
theorem tc_M (w : World) (B : Nat) (ok : Nat → Prop) (t : S54) : k54.M w B ok t (tc t) := k54_mkM _ _ _ t
theorem info54 : (Try.prog.info? 54).map (fun i => (i.zero, i.size, i.bytes)) = some (some (.agg #[(.int .i64 0), (.string ⟨#[]⟩), (.int .i64 0), (.int .i64 0), (.int .i64 0), (.string ⟨#[]⟩), (.bool false), (.complex .f64 0 0), (.int .i64 0)]), 9, 96) := by kernel_rfl
theorem At.grown {W w1 : World} {g : Nat} {cs : Array Value} {t : TypeId} {row : Option Nat} (h : At W g cs t) (hg : W.grownBy w1 row) (hne : some g ≠ row) : At w1 g cs t := blk_grown h hg hne
theorem cell7 {W w1 : World} {g : Nat} {s : ByteArray} {t : St} {v : Value} {B : Nat} {xs : List S54} (hA : At W g (RC s t v) 61) (hO : Kd.R k54 54 W B (fun k => k ≠ g) v xs) (hg : W.grownBy w1 v.ownBlock) :
    w1.cell? ⟨g, 7, none⟩ = some v ∧ w1.frozen? ⟨g, 7, none⟩ = false := by
  have hne : some g ≠ v.ownBlock := fun e => hO.1 g e.symm rfl
  have h := hA.grown hg hne
  exact ⟨(blk_cell h 7).trans rfl, blk_frozen h 7⟩
/-- an append that is stored into the reader -/
theorem apd_mk {B : Nat} {w W w1 : World} {g : Nat} {s : ByteArray} {t : St} {v v1 : Value} {xs l : List S54} (hk : KeepBut w W g none) (hB : Below B w W) (hA : At W g (RC s t v) 61)
    (hO : Kd.R k54 54 W B (fun k => k ≠ g) v xs) (ge : B ≤ g) (ho : Kd.R k54 54 w1 B (fun k => k ≠ g) v1 (xs ++ l)) (hb : Below B W w1) (hg : W.grownBy w1 v.ownBlock) (hat : v1.ownBlock = v.ownBlock ∨ ∃ b, v1.ownBlock = some b ∧ W.heap.size ≤ b) :
    Apd B w g s v xs (.ok (l, t)) (.returned (.tuple #[])) (w1.setCell ⟨g, 7, none⟩ v1) := by
  have hne : some g ≠ v.ownBlock := fun e => hO.1 g e.symm rfl
  refine ⟨rfl, v1, ?_, Kd.R_far (p := ⟨g, 7, none⟩) ho (fun _ hk => hk) v1, ?_, ?_, ?_⟩
  · exact ((hA.grown hg hne).set 7 v1).fin rfl
  · exact ((KeepBut.weaker hk _).trans (KeepBut.of_grown hg g) (.inl rfl)).set_ 7 v1
  · rcases hat with h | ⟨b, h1, h2⟩
    · exact .inl h
    · exact .inr ⟨b, h1, Nat.le_trans hk.1 h2⟩
  · exact (hB.trans hb).setCell (by show B ≤ g; exact ge) v1
set_option maxHeartbeats 16000000 in
set_option maxRecDepth 100000 in
theorem atom_ (B : Nat) (w : World) (g : Nat) (s : ByteArray) (v : Value) (t : St) (nm : ByteArray) (xs : List S54) (hg : At w g (RC s t v) 61) (hR : Kd.R k54 54 w B (fun k => k ≠ g) v xs) (ge : B ≤ g) (hi : Iw s t) (hx : xs.length ≤ 1000) (hs : s.size ≤ 400) :
    Calls Try.prog 64 #[.pointer (some ⟨g, 0, none⟩), .string nm] w (Apd B w g s v xs ((atomF s nm t).bind fun r => .ok ([r.1], r.2))) := by
  obtain ⟨p, kd, lg, pl, tx, n⟩ := t
  have hu61 := Try.underlying61
  have hu59 := Try.underlying59
  have hu54 := Try.underlying54
  have hu43 := Try.underlying43
  have hlt := hg.lt
  have hgb := hlt
  have hbn : w.heap.size ≤ w.heap.size + 1 := Nat.le_succ _
  have HR := Aside0.mk hR
  have HG := Aside0.mk hg
  have HK := Aside0.mk (KeepBut.refl w g none)
  have HL := Aside0.mk (Below.refl g w)
  have q2 : w.cell? ⟨g, 2, none⟩ = some (.int .u8 kd) := (blk_cell hg 2).trans rfl
  have q3 : w.cell? ⟨g, 3, none⟩ = some (.bool lg) := (blk_cell hg 3).trans rfl
  have q4 : w.cell? ⟨g, 4, none⟩ = some (.int .i64 pl) := (blk_cell hg 4).trans rfl
  have q5 : w.cell? ⟨g, 5, none⟩ = some (.string tx) := (blk_cell hg 5).trans rfl
  have q6 : w.cell? ⟨g, 6, none⟩ = some (.int .i64 n) := (blk_cell hg 6).trans rfl
  have hne : g ≠ w.heap.size := by omega
  have hne' : w.heap.size ≠ g := by omega
  clear hg hR
  obtain ⟨O, hO⟩ : ∃ O, ((atomF s nm ⟨p, ⟨kd, lg, pl, tx, n⟩⟩).bind fun r => Out.ok ([r.1], r.2)) = O := ⟨_, rfl⟩
  rw [hO]
  obtain ⟨c, hc⟩ : ∃ c, cmpF ⟨kd, lg, pl, tx, n⟩ = c := ⟨_, rfl⟩
  have HO := Aside0.mk hO
  have HC := Aside0.mk hc
  clear hO hc
  go_enter Try.func64, Try.ntmps64
  go_upto_block 0 with (fail)
  go_cut [] (fun wc => Aside0 (At wc g (RC s ⟨p, ⟨kd, lg, pl, tx, n⟩⟩ v) 61) ∧ Aside0 (At wc w.heap.size (TC ⟨3, nm, c, z43, 0⟩) 54) ∧ Aside0 (At wc (w.heap.size + 1) (WC ⟨kd, lg, pl, tx, n⟩) 59) ∧ Aside0 (KeepBut w wc g none) ∧ Aside0 (Below g w wc))
  case first =>
    have hbn : w.heap.size ≤ w.heap.size := Nat.le_refl _
    have hn01 : w.heap.size ≠ w.heap.size + 1 := by omega
    have hcc := HC.out
    have hcl : Aside0 (((kd == 61) = true ∧ c = 3) ∨ ((kd == 61) = false ∧ (kd == 33) = true ∧ lg = true ∧ c = 4) ∨ ((kd == 61) = false ∧ (kd == 33) = true ∧ lg = false ∧ c = 2) ∨
        ((kd == 61) = false ∧ (kd == 33) = false ∧ (kd == 60) = true ∧ lg = true ∧ c = 6) ∨ ((kd == 61) = false ∧ (kd == 33) = false ∧ (kd == 60) = true ∧ lg = false ∧ c = 5) ∨
        ((kd == 61) = false ∧ (kd == 33) = false ∧ (kd == 60) = false ∧ (kd == 62) = true ∧ lg = true ∧ c = 8) ∨ ((kd == 61) = false ∧ (kd == 33) = false ∧ (kd == 60) = false ∧ (kd == 62) = true ∧ lg = false ∧ c = 7) ∨
        ((kd == 61) = false ∧ (kd == 33) = false ∧ (kd == 60) = false ∧ (kd == 62) = false ∧ (kd == 94) = true ∧ c = 9) ∨ ((kd == 61) = false ∧ (kd == 33) = false ∧ (kd == 60) = false ∧ (kd == 62) = false ∧ (kd == 94) = false ∧ (kd == 126) = true ∧ c = 10) ∨
        ((kd == 61) = false ∧ (kd == 33) = false ∧ (kd == 60) = false ∧ (kd == 62) = false ∧ (kd == 94) = false ∧ (kd == 126) = false ∧ c = 2)) := by
      refine ⟨?_⟩
      unfold cmpF at hcc
      simp only at hcc
      simp only [beq_iff_eq, beq_eq_false_iff_ne]
      cases lg <;> (simp only [if_true, if_false, Bool.false_eq_true] at hcc; (repeat' split at hcc) <;> simp <;> omega)
    clear hcc HO HC HR
    rcases hcl.out with ⟨r1, rfl⟩ | ⟨r1, r2, rfl, rfl⟩ | ⟨r1, r2, rfl, rfl⟩ | ⟨r1, r2, r3, rfl, rfl⟩ | ⟨r1, r2, r3, rfl, rfl⟩ | ⟨r1, r2, r3, r4, rfl, rfl⟩ | ⟨r1, r2, r3, r4, rfl, rfl⟩ | ⟨r1, r2, r3, r4, r5, rfl⟩ | ⟨r1, r2, r3, r4, r5, r6, rfl⟩ | ⟨r1, r2, r3, r4, r5, r6, rfl⟩
    all_goals
      clear hcl
      go_wp2
      go_meet
      case rel => exact ⟨⟨by (apply At.fin; (focus (with_reducible repeat (first | exact HG.out | exact HB.out | exact HW.out | apply At.drew | apply At.drewN | apply At.alloc | (refine At.set (cs := ?_) ?_ _ _; rotate_left) | apply At.other (hne := hne') | apply At.other (hne := hne) | apply At.other (hne := hn01)))); (focus rfl))⟩, ⟨by (apply At.fin; (focus (repeat (first | (with_reducible (refine At.set (cs := ?_) ?_ _ _; rotate_left)) | exact (At.new w _ _).alloc _))); (focus rfl))⟩, ⟨by (apply At.fin; (focus (repeat (first | (with_reducible (apply At.other (hne := hn01))) | exact At.new2 w _ _ _))); (focus rfl))⟩, ⟨by (with_reducible repeat (first | exact KeepBut.refl _ _ _ | exact HK.out | apply kb_drewN | apply kb_drew | apply kb_alloc | refine kb_new ?_ (Nat.le_refl _) _ _ | refine kb_new ?_ hbn _ _))⟩, ⟨by (with_reducible repeat (first | exact Below.refl _ _ | exact HL.out | apply pw_below_drewN | apply below_drew1 | refine bl_set ?_ (Nat.le_of_lt hgb) | refine bl_alloc ?_ hlt _))⟩⟩
  case rest =>
    clear q2 q3 q4 q5 q6 HG HK HL
    obtain ⟨HG, HB, HW, HK, HL⟩ := hcut
    have x2 : wc.cell? ⟨w.heap.size, 2, none⟩ = some (.int .i64 c) := (blk_cell HB.out 2).trans rfl
    have hO := HO.out
    clear HO HW
    have hcs : c = 2 ∨ c = 3 ∨ c = 4 ∨ c = 5 ∨ c = 6 ∨ c = 7 ∨ c = 8 ∨ c = 9 ∨ c = 10 := by
      have := HC.out
      unfold cmpF at this
      simp only at this
      (repeat' split at this) <;> omega
    rcases hcs with rfl | rfl | rfl | rfl | rfl | rfl | rfl | rfl | rfl
    · simp (decide := true) only [atomF, HC.out, if_true, if_false, Out.bind] at hO
      have hO := Aside0.mk hO.symm
      clear HC
      go_upto_block 1 with (fail)
      go_cut [] (fun wd => ∃ (x : S54) (t2 : St), Aside0 (O = .ok ([x], t2)) ∧ Aside0 (At wd g (RC s t2 v) 61) ∧ Aside0 (At wd w.heap.size (TC x) 54) ∧ Aside0 (KeepBut w wd g none) ∧ Aside0 (Below g w wd))
      case first =>
        go_wp2
        go_meet
        case rel => exact ⟨_, _, hO, HG, HB, HK, HL⟩
      case rest =>
        clear x2 HG HB HK HL hO
        obtain ⟨x, t2, hO2, HG, HB, HK, HL⟩ := hcut
        have hO2 := hO2.out
        subst hO2
        have O : Kd.R k54 54 wc B (fun k => k ≠ g) v xs := Kd.R_keep HR.out HK.out (fun _ h => h)
        obtain ⟨hg⟩ := HG
        obtain ⟨hb⟩ := HB
        obtain ⟨hk⟩ := HK
        obtain ⟨hB⟩ := HL
        have hlX := hg.lt
        have c7 : wc.cell? ⟨g, 7, none⟩ = some v := (blk_cell hg 7).trans rfl
        have x0 : wc.cell? ⟨w.heap.size, 0, none⟩ = some (.int .i64 x.f0) := (blk_cell hb 0).trans rfl
        have x1 : wc.cell? ⟨w.heap.size, 1, none⟩ = some (.string x.f1) := (blk_cell hb 1).trans rfl
        have x2 : wc.cell? ⟨w.heap.size, 2, none⟩ = some (.int .i64 x.f2) := (blk_cell hb 2).trans rfl
        have x3 : wc.cell? ⟨w.heap.size, 3, none⟩ = some (.int .i64 x.f3.f0) := (blk_cell hb 3).trans rfl
        have x4 : wc.cell? ⟨w.heap.size, 4, none⟩ = some (.int .i64 x.f3.f1) := (blk_cell hb 4).trans rfl
        have x5 : wc.cell? ⟨w.heap.size, 5, none⟩ = some (.string x.f3.f2) := (blk_cell hb 5).trans rfl
        have x6 : wc.cell? ⟨w.heap.size, 6, none⟩ = some (.bool x.f3.f3) := (blk_cell hb 6).trans rfl
        have x7 : wc.cell? ⟨w.heap.size, 7, none⟩ = some (.complex .f64 x.f3.f4.re x.f3.f4.im) := (blk_cell hb 7).trans rfl
        have x8 : wc.cell? ⟨w.heap.size, 8, none⟩ = some (.int .i64 x.f4) := (blk_cell hb 8).trans rfl
        have hne2 := World.new_ne wc ⟨g, 7, none⟩ c7
        go_wp2
        go_region_law ((refine Kd.R_append_step k54 (w0 := wc.drew) (W := wc.drew) B (by rfl) (.tmp 102) (.tmp 104) 23 54 _ 96 (by rfl) Try.underlying23 info54 rfl (by decide) (by decide) v xs x (tc x) (fun k => k ≠ g) (fun _ => False) (by rfl) (by rfl) (tc_M _ _ _ _) (fun _ h => h.elim) (fun k (hk : wc.heap.size ≤ k) e => by omega) (Kd.R_drew O) (Below.refl _ _) (by show B ≤ wc.heap.size; omega) (by omega) ?_; intro v1 w1 ho hb1 hg1 hat1; obtain ⟨e1, e2⟩ := cell7 (At.drew hg) (Kd.R_drew O) hg1; obtain ⟨A1, n1, e1v⟩ := Kd.R_slice ho; rw [show (xs ++ [x]).length = xs.length + 1 from by simp] at e1v; subst e1v; have HO1 := Aside0.mk ho; have HB1 := Aside0.mk hb1; have HG1 := Aside0.mk hg1; have HT1 := Aside0.mk hat1; clear ho hb1 hg1 hat1))
        all_goals (try go_wp2)
        all_goals go_end0
        all_goals exact apd_mk (kb_drew hk) (Below.less (below_drew1 hB) ge) (At.drew hg) (Kd.R_drew O) ge HO1.out HB1.out HG1.out HT1.out
    · simp (decide := true) only [atomF, HC.out, if_true, if_false] at hO
      have hk1 := cmp_kd (u := ⟨kd, lg, pl, tx, n⟩) (by rw [HC.out]; decide)
      clear HC
      cases hN : nextF s p with
      | bad pp er =>
        rw [hN] at hO
        simp only [Out.bind] at hO
        subst hO
        have C1 := Aside0.mk (next_all g s v ⟨p, ⟨kd, lg, pl, tx, n⟩⟩ hi.1 hs hN)
        clear hN
        go_wp2_with fail
        go_at_call 17
        refine (C1.out _ HG.out).mono ?_
        rintro e w2 ⟨rfl, hk2, hl2⟩
        unfold flt
        exact ⟨rfl, rfl, KeepBut.weaker (HK.out.trans hk2 (.inl rfl)) _, Below.less (HL.out.trans hl2) ge⟩
      | ok t1 =>
        rw [hN] at hO
        have i1 := next_up hi hk1 hN
        have C1 := Aside0.mk (next_all g s v ⟨p, ⟨kd, lg, pl, tx, n⟩⟩ hi.1 hs hN)
        clear hN
        have HO := Aside0.mk hO
        clear hO
        go_wp2_with fail
        go_at_call 17
        refine (C1.out _ HG.out).mono ?_
        rintro e w2 ⟨rfl, hg2, hk2, hl2⟩
        have HG2 := Aside0.mk hg2
        have HK2 := Aside0.mk (HK.out.trans hk2 (.inl rfl))
        have HL2 := Aside0.mk (HL.out.trans hl2)
        have BB2 := Aside0.mk (At.keep HB.out hk2 hne' (by simp))
        clear hg2 hk2 hl2 HG HK HL HB C1
        have HG := HG2
        have HK := HK2
        have HL := HL2
        have HB := BB2
        clear HG2 HK2 HL2 BB2
        clear x2
        have x2 : w2.cell? ⟨w.heap.size, 2, none⟩ = some (.int .i64 3) := (blk_cell HB.out 2).trans rfl
        go_upto_block 1 with (fail)
        go_cut [] (fun wd => ∃ (x : S54) (t2 : St), Aside0 (O = .ok ([x], t2)) ∧ Aside0 (At wd g (RC s t2 v) 61) ∧ Aside0 (At wd w.heap.size (TC x) 54) ∧ Aside0 (KeepBut w wd g none) ∧ Aside0 (Below g w wd))
        case first =>
          have hO := HO.out
          clear HO
          simp only [Out.bind] at hO
          cases hA : anyF s t1 with
          | bad pp er =>
            rw [hA] at hO
            simp only [Out.bind] at hO
            subst hO
            have C2 := Aside0.mk (any_all g s v t1 i1.1.1 hs hA)
            clear hA
            go_wp2_with fail
            go_at_call 78
            refine (C2.out _ HG.out).mono ?_
            rintro e w3 ⟨rfl, hk2, hl2⟩
            unfold flt
            exact ⟨rfl, rfl, KeepBut.weaker (HK.out.trans hk2 (.inl rfl)) _, Below.less (HL.out.trans hl2) ge⟩
          | ok r =>
            obtain ⟨a, t3⟩ := r
            rw [hA] at hO
            simp only [Out.bind] at hO
            have hO := Aside0.mk hO.symm
            have C2 := Aside0.mk (any_all g s v t1 i1.1.1 hs hA)
            clear hA
            go_wp2_with fail
            go_at_call 78
            refine (C2.out _ HG.out).mono ?_
            rintro e w3 ⟨rfl, hg2, hk2, hl2⟩
            have HG3 := Aside0.mk hg2
            have HK3 := Aside0.mk (HK.out.trans hk2 (.inl rfl))
            have HL3 := Aside0.mk (HL.out.trans hl2)
            have BB3 := Aside0.mk (At.keep HB.out hk2 hne' (by simp))
            clear hg2 hk2 hl2 HG HK HL HB C2
            have HG := HG3
            have HK := HK3
            have HL := HL3
            have HB := BB3
            clear HG3 HK3 HL3 BB3
            simp only [venc]
            have z3 : w3.cell? ⟨w.heap.size, 3, none⟩ = some (.int .i64 0) := (blk_cell HB.out 3).trans rfl
            have y3 := blk_frozen HB.out 3
            have z4 : w3.cell? ⟨w.heap.size, 4, none⟩ = some (.int .i64 0) := (blk_cell HB.out 4).trans rfl
            have y4 := blk_frozen HB.out 4
            have z5 : w3.cell? ⟨w.heap.size, 5, none⟩ = some (.string ⟨#[]⟩) := (blk_cell HB.out 5).trans rfl
            have y5 := blk_frozen HB.out 5
            have z6 : w3.cell? ⟨w.heap.size, 6, none⟩ = some (.bool false) := (blk_cell HB.out 6).trans rfl
            have y6 := blk_frozen HB.out 6
            have z7 : w3.cell? ⟨w.heap.size, 7, none⟩ = some (.complex .f64 0 0) := (blk_cell HB.out 7).trans rfl
            have y7 := blk_frozen HB.out 7
            have z8 : w3.cell? ⟨w.heap.size, 8, none⟩ = some (.int .i64 0) := (blk_cell HB.out 8).trans rfl
            have y8 := blk_frozen HB.out 8
            go_wp2
            go_meet
            case rel => exact ⟨_, _, hO, ⟨by (apply At.fin; (focus (with_reducible repeat (first | exact HG.out | exact HB.out | exact HW.out | apply At.drew | apply At.drewN | apply At.alloc | (refine At.set (cs := ?_) ?_ _ _; rotate_left) | apply At.other (hne := hne') | apply At.other (hne := hne) | apply At.other (hne := hn01)))); (focus rfl))⟩, ⟨by (apply At.fin; (focus (with_reducible repeat (first | exact HG.out | exact HB.out | exact HW.out | apply At.drew | apply At.drewN | apply At.alloc | (refine At.set (cs := ?_) ?_ _ _; rotate_left) | apply At.other (hne := hne') | apply At.other (hne := hne) | apply At.other (hne := hn01)))); (focus rfl))⟩, ⟨by (with_reducible repeat (first | exact KeepBut.refl _ _ _ | exact HK.out | apply kb_drewN | apply kb_drew | apply kb_alloc | refine kb_new ?_ (Nat.le_refl _) _ _ | refine kb_new ?_ hbn _ _))⟩, ⟨by (with_reducible repeat (first | exact Below.refl _ _ | exact HL.out | apply pw_below_drewN | apply below_drew1 | refine bl_set ?_ (Nat.le_of_lt hgb) | refine bl_alloc ?_ hlt _))⟩⟩
        case rest =>
          clear x2 HG HB HK HL HO
          obtain ⟨x, t2, hO2, HG, HB, HK, HL⟩ := hcut
          have hO2 := hO2.out
          subst hO2
          have O : Kd.R k54 54 wc B (fun k => k ≠ g) v xs := Kd.R_keep HR.out HK.out (fun _ h => h)
          obtain ⟨hg⟩ := HG
          obtain ⟨hb⟩ := HB
          obtain ⟨hk⟩ := HK
          obtain ⟨hB⟩ := HL
          have hlX := hg.lt
          have c7 : wc.cell? ⟨g, 7, none⟩ = some v := (blk_cell hg 7).trans rfl
          have x0 : wc.cell? ⟨w.heap.size, 0, none⟩ = some (.int .i64 x.f0) := (blk_cell hb 0).trans rfl
          have x1 : wc.cell? ⟨w.heap.size, 1, none⟩ = some (.string x.f1) := (blk_cell hb 1).trans rfl
          have x2 : wc.cell? ⟨w.heap.size, 2, none⟩ = some (.int .i64 x.f2) := (blk_cell hb 2).trans rfl
          have x3 : wc.cell? ⟨w.heap.size, 3, none⟩ = some (.int .i64 x.f3.f0) := (blk_cell hb 3).trans rfl
          have x4 : wc.cell? ⟨w.heap.size, 4, none⟩ = some (.int .i64 x.f3.f1) := (blk_cell hb 4).trans rfl
          have x5 : wc.cell? ⟨w.heap.size, 5, none⟩ = some (.string x.f3.f2) := (blk_cell hb 5).trans rfl
          have x6 : wc.cell? ⟨w.heap.size, 6, none⟩ = some (.bool x.f3.f3) := (blk_cell hb 6).trans rfl
          have x7 : wc.cell? ⟨w.heap.size, 7, none⟩ = some (.complex .f64 x.f3.f4.re x.f3.f4.im) := (blk_cell hb 7).trans rfl
          have x8 : wc.cell? ⟨w.heap.size, 8, none⟩ = some (.int .i64 x.f4) := (blk_cell hb 8).trans rfl
          have hne2 := World.new_ne wc ⟨g, 7, none⟩ c7
          go_wp2
          go_region_law ((refine Kd.R_append_step k54 (w0 := wc.drew) (W := wc.drew) B (by rfl) (.tmp 102) (.tmp 104) 23 54 _ 96 (by rfl) Try.underlying23 info54 rfl (by decide) (by decide) v xs x (tc x) (fun k => k ≠ g) (fun _ => False) (by rfl) (by rfl) (tc_M _ _ _ _) (fun _ h => h.elim) (fun k (hk : wc.heap.size ≤ k) e => by omega) (Kd.R_drew O) (Below.refl _ _) (by show B ≤ wc.heap.size; omega) (by omega) ?_; intro v1 w1 ho hb1 hg1 hat1; obtain ⟨e1, e2⟩ := cell7 (At.drew hg) (Kd.R_drew O) hg1; obtain ⟨A1, n1, e1v⟩ := Kd.R_slice ho; rw [show (xs ++ [x]).length = xs.length + 1 from by simp] at e1v; subst e1v; have HO1 := Aside0.mk ho; have HB1 := Aside0.mk hb1; have HG1 := Aside0.mk hg1; have HT1 := Aside0.mk hat1; clear ho hb1 hg1 hat1))
          all_goals (try go_wp2)
          all_goals go_end0
          all_goals exact apd_mk (kb_drew hk) (Below.less (below_drew1 hB) ge) (At.drew hg) (Kd.R_drew O) ge HO1.out HB1.out HG1.out HT1.out
    · simp (decide := true) only [atomF, HC.out, if_true, if_false] at hO
      have hk1 := cmp_kd (u := ⟨kd, lg, pl, tx, n⟩) (by rw [HC.out]; decide)
      clear HC
      cases hN : nextF s p with
      | bad pp er =>
        rw [hN] at hO
        simp only [Out.bind] at hO
        subst hO
        have C1 := Aside0.mk (next_all g s v ⟨p, ⟨kd, lg, pl, tx, n⟩⟩ hi.1 hs hN)
        clear hN
        go_wp2_with fail
        go_at_call 17
        refine (C1.out _ HG.out).mono ?_
        rintro e w2 ⟨rfl, hk2, hl2⟩
        unfold flt
        exact ⟨rfl, rfl, KeepBut.weaker (HK.out.trans hk2 (.inl rfl)) _, Below.less (HL.out.trans hl2) ge⟩
      | ok t1 =>
        rw [hN] at hO
        have i1 := next_up hi hk1 hN
        have C1 := Aside0.mk (next_all g s v ⟨p, ⟨kd, lg, pl, tx, n⟩⟩ hi.1 hs hN)
        clear hN
        have HO := Aside0.mk hO
        clear hO
        go_wp2_with fail
        go_at_call 17
        refine (C1.out _ HG.out).mono ?_
        rintro e w2 ⟨rfl, hg2, hk2, hl2⟩
        have HG2 := Aside0.mk hg2
        have HK2 := Aside0.mk (HK.out.trans hk2 (.inl rfl))
        have HL2 := Aside0.mk (HL.out.trans hl2)
        have BB2 := Aside0.mk (At.keep HB.out hk2 hne' (by simp))
        clear hg2 hk2 hl2 HG HK HL HB C1
        have HG := HG2
        have HK := HK2
        have HL := HL2
        have HB := BB2
        clear HG2 HK2 HL2 BB2
        clear x2
        have x2 : w2.cell? ⟨w.heap.size, 2, none⟩ = some (.int .i64 4) := (blk_cell HB.out 2).trans rfl
        go_upto_block 1 with (fail)
        go_cut [] (fun wd => ∃ (x : S54) (t2 : St), Aside0 (O = .ok ([x], t2)) ∧ Aside0 (At wd g (RC s t2 v) 61) ∧ Aside0 (At wd w.heap.size (TC x) 54) ∧ Aside0 (KeepBut w wd g none) ∧ Aside0 (Below g w wd))
        case first =>
          have hO := HO.out
          clear HO
          simp only [Out.bind] at hO
          cases hA : anyF s t1 with
          | bad pp er =>
            rw [hA] at hO
            simp only [Out.bind] at hO
            subst hO
            have C2 := Aside0.mk (any_all g s v t1 i1.1.1 hs hA)
            clear hA
            go_wp2_with fail
            go_at_call 78
            refine (C2.out _ HG.out).mono ?_
            rintro e w3 ⟨rfl, hk2, hl2⟩
            unfold flt
            exact ⟨rfl, rfl, KeepBut.weaker (HK.out.trans hk2 (.inl rfl)) _, Below.less (HL.out.trans hl2) ge⟩
          | ok r =>
            obtain ⟨a, t3⟩ := r
            rw [hA] at hO
            simp only [Out.bind] at hO
            have hO := Aside0.mk hO.symm
            have C2 := Aside0.mk (any_all g s v t1 i1.1.1 hs hA)
            clear hA
            go_wp2_with fail
            go_at_call 78
            refine (C2.out _ HG.out).mono ?_
            rintro e w3 ⟨rfl, hg2, hk2, hl2⟩
            have HG3 := Aside0.mk hg2
            have HK3 := Aside0.mk (HK.out.trans hk2 (.inl rfl))
            have HL3 := Aside0.mk (HL.out.trans hl2)
            have BB3 := Aside0.mk (At.keep HB.out hk2 hne' (by simp))
            clear hg2 hk2 hl2 HG HK HL HB C2
            have HG := HG3
            have HK := HK3
            have HL := HL3
            have HB := BB3
            clear HG3 HK3 HL3 BB3
            simp only [venc]
            have z3 : w3.cell? ⟨w.heap.size, 3, none⟩ = some (.int .i64 0) := (blk_cell HB.out 3).trans rfl
            have y3 := blk_frozen HB.out 3
            have z4 : w3.cell? ⟨w.heap.size, 4, none⟩ = some (.int .i64 0) := (blk_cell HB.out 4).trans rfl
            have y4 := blk_frozen HB.out 4
            have z5 : w3.cell? ⟨w.heap.size, 5, none⟩ = some (.string ⟨#[]⟩) := (blk_cell HB.out 5).trans rfl
            have y5 := blk_frozen HB.out 5
            have z6 : w3.cell? ⟨w.heap.size, 6, none⟩ = some (.bool false) := (blk_cell HB.out 6).trans rfl
            have y6 := blk_frozen HB.out 6
            have z7 : w3.cell? ⟨w.heap.size, 7, none⟩ = some (.complex .f64 0 0) := (blk_cell HB.out 7).trans rfl
            have y7 := blk_frozen HB.out 7
            have z8 : w3.cell? ⟨w.heap.size, 8, none⟩ = some (.int .i64 0) := (blk_cell HB.out 8).trans rfl
            have y8 := blk_frozen HB.out 8
            go_wp2
            go_meet
            case rel => exact ⟨_, _, hO, ⟨by (apply At.fin; (focus (with_reducible repeat (first | exact HG.out | exact HB.out | exact HW.out | apply At.drew | apply At.drewN | apply At.alloc | (refine At.set (cs := ?_) ?_ _ _; rotate_left) | apply At.other (hne := hne') | apply At.other (hne := hne) | apply At.other (hne := hn01)))); (focus rfl))⟩, ⟨by (apply At.fin; (focus (with_reducible repeat (first | exact HG.out | exact HB.out | exact HW.out | apply At.drew | apply At.drewN | apply At.alloc | (refine At.set (cs := ?_) ?_ _ _; rotate_left) | apply At.other (hne := hne') | apply At.other (hne := hne) | apply At.other (hne := hn01)))); (focus rfl))⟩, ⟨by (with_reducible repeat (first | exact KeepBut.refl _ _ _ | exact HK.out | apply kb_drewN | apply kb_drew | apply kb_alloc | refine kb_new ?_ (Nat.le_refl _) _ _ | refine kb_new ?_ hbn _ _))⟩, ⟨by (with_reducible repeat (first | exact Below.refl _ _ | exact HL.out | apply pw_below_drewN | apply below_drew1 | refine bl_set ?_ (Nat.le_of_lt hgb) | refine bl_alloc ?_ hlt _))⟩⟩
        case rest =>
          clear x2 HG HB HK HL HO
          obtain ⟨x, t2, hO2, HG, HB, HK, HL⟩ := hcut
          have hO2 := hO2.out
          subst hO2
          have O : Kd.R k54 54 wc B (fun k => k ≠ g) v xs := Kd.R_keep HR.out HK.out (fun _ h => h)
          obtain ⟨hg⟩ := HG
          obtain ⟨hb⟩ := HB
          obtain ⟨hk⟩ := HK
          obtain ⟨hB⟩ := HL
          have hlX := hg.lt
          have c7 : wc.cell? ⟨g, 7, none⟩ = some v := (blk_cell hg 7).trans rfl
          have x0 : wc.cell? ⟨w.heap.size, 0, none⟩ = some (.int .i64 x.f0) := (blk_cell hb 0).trans rfl
          have x1 : wc.cell? ⟨w.heap.size, 1, none⟩ = some (.string x.f1) := (blk_cell hb 1).trans rfl
          have x2 : wc.cell? ⟨w.heap.size, 2, none⟩ = some (.int .i64 x.f2) := (blk_cell hb 2).trans rfl
          have x3 : wc.cell? ⟨w.heap.size, 3, none⟩ = some (.int .i64 x.f3.f0) := (blk_cell hb 3).trans rfl
          have x4 : wc.cell? ⟨w.heap.size, 4, none⟩ = some (.int .i64 x.f3.f1) := (blk_cell hb 4).trans rfl
          have x5 : wc.cell? ⟨w.heap.size, 5, none⟩ = some (.string x.f3.f2) := (blk_cell hb 5).trans rfl
          have x6 : wc.cell? ⟨w.heap.size, 6, none⟩ = some (.bool x.f3.f3) := (blk_cell hb 6).trans rfl
          have x7 : wc.cell? ⟨w.heap.size, 7, none⟩ = some (.complex .f64 x.f3.f4.re x.f3.f4.im) := (blk_cell hb 7).trans rfl
          have x8 : wc.cell? ⟨w.heap.size, 8, none⟩ = some (.int .i64 x.f4) := (blk_cell hb 8).trans rfl
          have hne2 := World.new_ne wc ⟨g, 7, none⟩ c7
          go_wp2
          go_region_law ((refine Kd.R_append_step k54 (w0 := wc.drew) (W := wc.drew) B (by rfl) (.tmp 102) (.tmp 104) 23 54 _ 96 (by rfl) Try.underlying23 info54 rfl (by decide) (by decide) v xs x (tc x) (fun k => k ≠ g) (fun _ => False) (by rfl) (by rfl) (tc_M _ _ _ _) (fun _ h => h.elim) (fun k (hk : wc.heap.size ≤ k) e => by omega) (Kd.R_drew O) (Below.refl _ _) (by show B ≤ wc.heap.size; omega) (by omega) ?_; intro v1 w1 ho hb1 hg1 hat1; obtain ⟨e1, e2⟩ := cell7 (At.drew hg) (Kd.R_drew O) hg1; obtain ⟨A1, n1, e1v⟩ := Kd.R_slice ho; rw [show (xs ++ [x]).length = xs.length + 1 from by simp] at e1v; subst e1v; have HO1 := Aside0.mk ho; have HB1 := Aside0.mk hb1; have HG1 := Aside0.mk hg1; have HT1 := Aside0.mk hat1; clear ho hb1 hg1 hat1))
          all_goals (try go_wp2)
          all_goals go_end0
          all_goals exact apd_mk (kb_drew hk) (Below.less (below_drew1 hB) ge) (At.drew hg) (Kd.R_drew O) ge HO1.out HB1.out HG1.out HT1.out
    · simp (decide := true) only [atomF, HC.out, if_true, if_false] at hO
      have hk1 := cmp_kd (u := ⟨kd, lg, pl, tx, n⟩) (by rw [HC.out]; decide)
      clear HC
      cases hN : nextF s p with
      | bad pp er =>
        rw [hN] at hO
        simp only [Out.bind] at hO
        subst hO
        have C1 := Aside0.mk (next_all g s v ⟨p, ⟨kd, lg, pl, tx, n⟩⟩ hi.1 hs hN)
        clear hN
        go_wp2_with fail
        go_at_call 17
        refine (C1.out _ HG.out).mono ?_
        rintro e w2 ⟨rfl, hk2, hl2⟩
        unfold flt
        exact ⟨rfl, rfl, KeepBut.weaker (HK.out.trans hk2 (.inl rfl)) _, Below.less (HL.out.trans hl2) ge⟩
      | ok t1 =>
        rw [hN] at hO
        have i1 := next_up hi hk1 hN
        have C1 := Aside0.mk (next_all g s v ⟨p, ⟨kd, lg, pl, tx, n⟩⟩ hi.1 hs hN)
        clear hN
        have HO := Aside0.mk hO
        clear hO
        go_wp2_with fail
        go_at_call 17
        refine (C1.out _ HG.out).mono ?_
        rintro e w2 ⟨rfl, hg2, hk2, hl2⟩
        have HG2 := Aside0.mk hg2
        have HK2 := Aside0.mk (HK.out.trans hk2 (.inl rfl))
        have HL2 := Aside0.mk (HL.out.trans hl2)
        have BB2 := Aside0.mk (At.keep HB.out hk2 hne' (by simp))
        clear hg2 hk2 hl2 HG HK HL HB C1
        have HG := HG2
        have HK := HK2
        have HL := HL2
        have HB := BB2
        clear HG2 HK2 HL2 BB2
        clear x2
        have x2 : w2.cell? ⟨w.heap.size, 2, none⟩ = some (.int .i64 5) := (blk_cell HB.out 2).trans rfl
        go_upto_block 1 with (fail)
        go_cut [] (fun wd => ∃ (x : S54) (t2 : St), Aside0 (O = .ok ([x], t2)) ∧ Aside0 (At wd g (RC s t2 v) 61) ∧ Aside0 (At wd w.heap.size (TC x) 54) ∧ Aside0 (KeepBut w wd g none) ∧ Aside0 (Below g w wd))
        case first =>
          have hO := HO.out
          clear HO
          simp only [Out.bind] at hO
          cases hA : plainF s false t1 with
          | bad pp er =>
            rw [hA] at hO
            simp only [Out.bind] at hO
            subst hO
            have C2 := Aside0.mk (plain_all g s v false t1 i1.1.1 hs hA)
            clear hA
            go_wp2_with fail
            go_at_call 79
            refine (C2.out _ HG.out).mono ?_
            rintro e w3 ⟨rfl, hk2, hl2⟩
            unfold flt
            exact ⟨rfl, rfl, KeepBut.weaker (HK.out.trans hk2 (.inl rfl)) _, Below.less (HL.out.trans hl2) ge⟩
          | ok r =>
            obtain ⟨a, t3⟩ := r
            rw [hA] at hO
            simp only [Out.bind] at hO
            have hO := Aside0.mk hO.symm
            have C2 := Aside0.mk (plain_all g s v false t1 i1.1.1 hs hA)
            clear hA
            go_wp2_with fail
            go_at_call 79
            refine (C2.out _ HG.out).mono ?_
            rintro e w3 ⟨rfl, hg2, hk2, hl2⟩
            have HG3 := Aside0.mk hg2
            have HK3 := Aside0.mk (HK.out.trans hk2 (.inl rfl))
            have HL3 := Aside0.mk (HL.out.trans hl2)
            have BB3 := Aside0.mk (At.keep HB.out hk2 hne' (by simp))
            clear hg2 hk2 hl2 HG HK HL HB C2
            have HG := HG3
            have HK := HK3
            have HL := HL3
            have HB := BB3
            clear HG3 HK3 HL3 BB3
            simp only [venc]
            have z3 : w3.cell? ⟨w.heap.size, 3, none⟩ = some (.int .i64 0) := (blk_cell HB.out 3).trans rfl
            have y3 := blk_frozen HB.out 3
            have z4 : w3.cell? ⟨w.heap.size, 4, none⟩ = some (.int .i64 0) := (blk_cell HB.out 4).trans rfl
            have y4 := blk_frozen HB.out 4
            have z5 : w3.cell? ⟨w.heap.size, 5, none⟩ = some (.string ⟨#[]⟩) := (blk_cell HB.out 5).trans rfl
            have y5 := blk_frozen HB.out 5
            have z6 : w3.cell? ⟨w.heap.size, 6, none⟩ = some (.bool false) := (blk_cell HB.out 6).trans rfl
            have y6 := blk_frozen HB.out 6
            have z7 : w3.cell? ⟨w.heap.size, 7, none⟩ = some (.complex .f64 0 0) := (blk_cell HB.out 7).trans rfl
            have y7 := blk_frozen HB.out 7
            have z8 : w3.cell? ⟨w.heap.size, 8, none⟩ = some (.int .i64 0) := (blk_cell HB.out 8).trans rfl
            have y8 := blk_frozen HB.out 8
            go_wp2
            go_meet
            case rel => exact ⟨_, _, hO, ⟨by (apply At.fin; (focus (with_reducible repeat (first | exact HG.out | exact HB.out | exact HW.out | apply At.drew | apply At.drewN | apply At.alloc | (refine At.set (cs := ?_) ?_ _ _; rotate_left) | apply At.other (hne := hne') | apply At.other (hne := hne) | apply At.other (hne := hn01)))); (focus rfl))⟩, ⟨by (apply At.fin; (focus (with_reducible repeat (first | exact HG.out | exact HB.out | exact HW.out | apply At.drew | apply At.drewN | apply At.alloc | (refine At.set (cs := ?_) ?_ _ _; rotate_left) | apply At.other (hne := hne') | apply At.other (hne := hne) | apply At.other (hne := hn01)))); (focus rfl))⟩, ⟨by (with_reducible repeat (first | exact KeepBut.refl _ _ _ | exact HK.out | apply kb_drewN | apply kb_drew | apply kb_alloc | refine kb_new ?_ (Nat.le_refl _) _ _ | refine kb_new ?_ hbn _ _))⟩, ⟨by (with_reducible repeat (first | exact Below.refl _ _ | exact HL.out | apply pw_below_drewN | apply below_drew1 | refine bl_set ?_ (Nat.le_of_lt hgb) | refine bl_alloc ?_ hlt _))⟩⟩
        case rest =>
          clear x2 HG HB HK HL HO
          obtain ⟨x, t2, hO2, HG, HB, HK, HL⟩ := hcut
          have hO2 := hO2.out
          subst hO2
          have O : Kd.R k54 54 wc B (fun k => k ≠ g) v xs := Kd.R_keep HR.out HK.out (fun _ h => h)
          obtain ⟨hg⟩ := HG
          obtain ⟨hb⟩ := HB
          obtain ⟨hk⟩ := HK
          obtain ⟨hB⟩ := HL
          have hlX := hg.lt
          have c7 : wc.cell? ⟨g, 7, none⟩ = some v := (blk_cell hg 7).trans rfl
          have x0 : wc.cell? ⟨w.heap.size, 0, none⟩ = some (.int .i64 x.f0) := (blk_cell hb 0).trans rfl
          have x1 : wc.cell? ⟨w.heap.size, 1, none⟩ = some (.string x.f1) := (blk_cell hb 1).trans rfl
          have x2 : wc.cell? ⟨w.heap.size, 2, none⟩ = some (.int .i64 x.f2) := (blk_cell hb 2).trans rfl
          have x3 : wc.cell? ⟨w.heap.size, 3, none⟩ = some (.int .i64 x.f3.f0) := (blk_cell hb 3).trans rfl
          have x4 : wc.cell? ⟨w.heap.size, 4, none⟩ = some (.int .i64 x.f3.f1) := (blk_cell hb 4).trans rfl
          have x5 : wc.cell? ⟨w.heap.size, 5, none⟩ = some (.string x.f3.f2) := (blk_cell hb 5).trans rfl
          have x6 : wc.cell? ⟨w.heap.size, 6, none⟩ = some (.bool x.f3.f3) := (blk_cell hb 6).trans rfl
          have x7 : wc.cell? ⟨w.heap.size, 7, none⟩ = some (.complex .f64 x.f3.f4.re x.f3.f4.im) := (blk_cell hb 7).trans rfl
          have x8 : wc.cell? ⟨w.heap.size, 8, none⟩ = some (.int .i64 x.f4) := (blk_cell hb 8).trans rfl
          have hne2 := World.new_ne wc ⟨g, 7, none⟩ c7
          go_wp2
          go_region_law ((refine Kd.R_append_step k54 (w0 := wc.drew) (W := wc.drew) B (by rfl) (.tmp 102) (.tmp 104) 23 54 _ 96 (by rfl) Try.underlying23 info54 rfl (by decide) (by decide) v xs x (tc x) (fun k => k ≠ g) (fun _ => False) (by rfl) (by rfl) (tc_M _ _ _ _) (fun _ h => h.elim) (fun k (hk : wc.heap.size ≤ k) e => by omega) (Kd.R_drew O) (Below.refl _ _) (by show B ≤ wc.heap.size; omega) (by omega) ?_; intro v1 w1 ho hb1 hg1 hat1; obtain ⟨e1, e2⟩ := cell7 (At.drew hg) (Kd.R_drew O) hg1; obtain ⟨A1, n1, e1v⟩ := Kd.R_slice ho; rw [show (xs ++ [x]).length = xs.length + 1 from by simp] at e1v; subst e1v; have HO1 := Aside0.mk ho; have HB1 := Aside0.mk hb1; have HG1 := Aside0.mk hg1; have HT1 := Aside0.mk hat1; clear ho hb1 hg1 hat1))
          all_goals (try go_wp2)
          all_goals go_end0
          all_goals exact apd_mk (kb_drew hk) (Below.less (below_drew1 hB) ge) (At.drew hg) (Kd.R_drew O) ge HO1.out HB1.out HG1.out HT1.out
    · simp (decide := true) only [atomF, HC.out, if_true, if_false] at hO
      have hk1 := cmp_kd (u := ⟨kd, lg, pl, tx, n⟩) (by rw [HC.out]; decide)
      clear HC
      cases hN : nextF s p with
      | bad pp er =>
        rw [hN] at hO
        simp only [Out.bind] at hO
        subst hO
        have C1 := Aside0.mk (next_all g s v ⟨p, ⟨kd, lg, pl, tx, n⟩⟩ hi.1 hs hN)
        clear hN
        go_wp2_with fail
        go_at_call 17
        refine (C1.out _ HG.out).mono ?_
        rintro e w2 ⟨rfl, hk2, hl2⟩
        unfold flt
        exact ⟨rfl, rfl, KeepBut.weaker (HK.out.trans hk2 (.inl rfl)) _, Below.less (HL.out.trans hl2) ge⟩
      | ok t1 =>
        rw [hN] at hO
        have i1 := next_up hi hk1 hN
        have C1 := Aside0.mk (next_all g s v ⟨p, ⟨kd, lg, pl, tx, n⟩⟩ hi.1 hs hN)
        clear hN
        have HO := Aside0.mk hO
        clear hO
        go_wp2_with fail
        go_at_call 17
        refine (C1.out _ HG.out).mono ?_
        rintro e w2 ⟨rfl, hg2, hk2, hl2⟩
        have HG2 := Aside0.mk hg2
        have HK2 := Aside0.mk (HK.out.trans hk2 (.inl rfl))
        have HL2 := Aside0.mk (HL.out.trans hl2)
        have BB2 := Aside0.mk (At.keep HB.out hk2 hne' (by simp))
        clear hg2 hk2 hl2 HG HK HL HB C1
        have HG := HG2
        have HK := HK2
        have HL := HL2
        have HB := BB2
        clear HG2 HK2 HL2 BB2
        clear x2
        have x2 : w2.cell? ⟨w.heap.size, 2, none⟩ = some (.int .i64 6) := (blk_cell HB.out 2).trans rfl
        go_upto_block 1 with (fail)
        go_cut [] (fun wd => ∃ (x : S54) (t2 : St), Aside0 (O = .ok ([x], t2)) ∧ Aside0 (At wd g (RC s t2 v) 61) ∧ Aside0 (At wd w.heap.size (TC x) 54) ∧ Aside0 (KeepBut w wd g none) ∧ Aside0 (Below g w wd))
        case first =>
          have hO := HO.out
          clear HO
          simp only [Out.bind] at hO
          cases hA : plainF s false t1 with
          | bad pp er =>
            rw [hA] at hO
            simp only [Out.bind] at hO
            subst hO
            have C2 := Aside0.mk (plain_all g s v false t1 i1.1.1 hs hA)
            clear hA
            go_wp2_with fail
            go_at_call 79
            refine (C2.out _ HG.out).mono ?_
            rintro e w3 ⟨rfl, hk2, hl2⟩
            unfold flt
            exact ⟨rfl, rfl, KeepBut.weaker (HK.out.trans hk2 (.inl rfl)) _, Below.less (HL.out.trans hl2) ge⟩
          | ok r =>
            obtain ⟨a, t3⟩ := r
            rw [hA] at hO
            simp only [Out.bind] at hO
            have hO := Aside0.mk hO.symm
            have C2 := Aside0.mk (plain_all g s v false t1 i1.1.1 hs hA)
            clear hA
            go_wp2_with fail
            go_at_call 79
            refine (C2.out _ HG.out).mono ?_
            rintro e w3 ⟨rfl, hg2, hk2, hl2⟩
            have HG3 := Aside0.mk hg2
            have HK3 := Aside0.mk (HK.out.trans hk2 (.inl rfl))
            have HL3 := Aside0.mk (HL.out.trans hl2)
            have BB3 := Aside0.mk (At.keep HB.out hk2 hne' (by simp))
            clear hg2 hk2 hl2 HG HK HL HB C2
            have HG := HG3
            have HK := HK3
            have HL := HL3
            have HB := BB3
            clear HG3 HK3 HL3 BB3
            simp only [venc]
            have z3 : w3.cell? ⟨w.heap.size, 3, none⟩ = some (.int .i64 0) := (blk_cell HB.out 3).trans rfl
            have y3 := blk_frozen HB.out 3
            have z4 : w3.cell? ⟨w.heap.size, 4, none⟩ = some (.int .i64 0) := (blk_cell HB.out 4).trans rfl
            have y4 := blk_frozen HB.out 4
            have z5 : w3.cell? ⟨w.heap.size, 5, none⟩ = some (.string ⟨#[]⟩) := (blk_cell HB.out 5).trans rfl
            have y5 := blk_frozen HB.out 5
            have z6 : w3.cell? ⟨w.heap.size, 6, none⟩ = some (.bool false) := (blk_cell HB.out 6).trans rfl
            have y6 := blk_frozen HB.out 6
            have z7 : w3.cell? ⟨w.heap.size, 7, none⟩ = some (.complex .f64 0 0) := (blk_cell HB.out 7).trans rfl
            have y7 := blk_frozen HB.out 7
            have z8 : w3.cell? ⟨w.heap.size, 8, none⟩ = some (.int .i64 0) := (blk_cell HB.out 8).trans rfl
            have y8 := blk_frozen HB.out 8
            go_wp2
            go_meet
            case rel => exact ⟨_, _, hO, ⟨by (apply At.fin; (focus (with_reducible repeat (first | exact HG.out | exact HB.out | exact HW.out | apply At.drew | apply At.drewN | apply At.alloc | (refine At.set (cs := ?_) ?_ _ _; rotate_left) | apply At.other (hne := hne') | apply At.other (hne := hne) | apply At.other (hne := hn01)))); (focus rfl))⟩, ⟨by (apply At.fin; (focus (with_reducible repeat (first | exact HG.out | exact HB.out | exact HW.out | apply At.drew | apply At.drewN | apply At.alloc | (refine At.set (cs := ?_) ?_ _ _; rotate_left) | apply At.other (hne := hne') | apply At.other (hne := hne) | apply At.other (hne := hn01)))); (focus rfl))⟩, ⟨by (with_reducible repeat (first | exact KeepBut.refl _ _ _ | exact HK.out | apply kb_drewN | apply kb_drew | apply kb_alloc | refine kb_new ?_ (Nat.le_refl _) _ _ | refine kb_new ?_ hbn _ _))⟩, ⟨by (with_reducible repeat (first | exact Below.refl _ _ | exact HL.out | apply pw_below_drewN | apply below_drew1 | refine bl_set ?_ (Nat.le_of_lt hgb) | refine bl_alloc ?_ hlt _))⟩⟩
        case rest =>
          clear x2 HG HB HK HL HO
          obtain ⟨x, t2, hO2, HG, HB, HK, HL⟩ := hcut
          have hO2 := hO2.out
          subst hO2
          have O : Kd.R k54 54 wc B (fun k => k ≠ g) v xs := Kd.R_keep HR.out HK.out (fun _ h => h)
          obtain ⟨hg⟩ := HG
          obtain ⟨hb⟩ := HB
          obtain ⟨hk⟩ := HK
          obtain ⟨hB⟩ := HL
          have hlX := hg.lt
          have c7 : wc.cell? ⟨g, 7, none⟩ = some v := (blk_cell hg 7).trans rfl
          have x0 : wc.cell? ⟨w.heap.size, 0, none⟩ = some (.int .i64 x.f0) := (blk_cell hb 0).trans rfl
          have x1 : wc.cell? ⟨w.heap.size, 1, none⟩ = some (.string x.f1) := (blk_cell hb 1).trans rfl
          have x2 : wc.cell? ⟨w.heap.size, 2, none⟩ = some (.int .i64 x.f2) := (blk_cell hb 2).trans rfl
          have x3 : wc.cell? ⟨w.heap.size, 3, none⟩ = some (.int .i64 x.f3.f0) := (blk_cell hb 3).trans rfl
          have x4 : wc.cell? ⟨w.heap.size, 4, none⟩ = some (.int .i64 x.f3.f1) := (blk_cell hb 4).trans rfl
          have x5 : wc.cell? ⟨w.heap.size, 5, none⟩ = some (.string x.f3.f2) := (blk_cell hb 5).trans rfl
          have x6 : wc.cell? ⟨w.heap.size, 6, none⟩ = some (.bool x.f3.f3) := (blk_cell hb 6).trans rfl
          have x7 : wc.cell? ⟨w.heap.size, 7, none⟩ = some (.complex .f64 x.f3.f4.re x.f3.f4.im) := (blk_cell hb 7).trans rfl
          have x8 : wc.cell? ⟨w.heap.size, 8, none⟩ = some (.int .i64 x.f4) := (blk_cell hb 8).trans rfl
          have hne2 := World.new_ne wc ⟨g, 7, none⟩ c7
          go_wp2
          go_region_law ((refine Kd.R_append_step k54 (w0 := wc.drew) (W := wc.drew) B (by rfl) (.tmp 102) (.tmp 104) 23 54 _ 96 (by rfl) Try.underlying23 info54 rfl (by decide) (by decide) v xs x (tc x) (fun k => k ≠ g) (fun _ => False) (by rfl) (by rfl) (tc_M _ _ _ _) (fun _ h => h.elim) (fun k (hk : wc.heap.size ≤ k) e => by omega) (Kd.R_drew O) (Below.refl _ _) (by show B ≤ wc.heap.size; omega) (by omega) ?_; intro v1 w1 ho hb1 hg1 hat1; obtain ⟨e1, e2⟩ := cell7 (At.drew hg) (Kd.R_drew O) hg1; obtain ⟨A1, n1, e1v⟩ := Kd.R_slice ho; rw [show (xs ++ [x]).length = xs.length + 1 from by simp] at e1v; subst e1v; have HO1 := Aside0.mk ho; have HB1 := Aside0.mk hb1; have HG1 := Aside0.mk hg1; have HT1 := Aside0.mk hat1; clear ho hb1 hg1 hat1))
          all_goals (try go_wp2)
          all_goals go_end0
          all_goals exact apd_mk (kb_drew hk) (Below.less (below_drew1 hB) ge) (At.drew hg) (Kd.R_drew O) ge HO1.out HB1.out HG1.out HT1.out
    · simp (decide := true) only [atomF, HC.out, if_true, if_false] at hO
      have hk1 := cmp_kd (u := ⟨kd, lg, pl, tx, n⟩) (by rw [HC.out]; decide)
      clear HC
      cases hN : nextF s p with
      | bad pp er =>
        rw [hN] at hO
        simp only [Out.bind] at hO
        subst hO
        have C1 := Aside0.mk (next_all g s v ⟨p, ⟨kd, lg, pl, tx, n⟩⟩ hi.1 hs hN)
        clear hN
        go_wp2_with fail
        go_at_call 17
        refine (C1.out _ HG.out).mono ?_
        rintro e w2 ⟨rfl, hk2, hl2⟩
        unfold flt
        exact ⟨rfl, rfl, KeepBut.weaker (HK.out.trans hk2 (.inl rfl)) _, Below.less (HL.out.trans hl2) ge⟩
      | ok t1 =>
        rw [hN] at hO
        have i1 := next_up hi hk1 hN
        have C1 := Aside0.mk (next_all g s v ⟨p, ⟨kd, lg, pl, tx, n⟩⟩ hi.1 hs hN)
        clear hN
        have HO := Aside0.mk hO
        clear hO
        go_wp2_with fail
        go_at_call 17
        refine (C1.out _ HG.out).mono ?_
        rintro e w2 ⟨rfl, hg2, hk2, hl2⟩
        have HG2 := Aside0.mk hg2
        have HK2 := Aside0.mk (HK.out.trans hk2 (.inl rfl))
        have HL2 := Aside0.mk (HL.out.trans hl2)
        have BB2 := Aside0.mk (At.keep HB.out hk2 hne' (by simp))
        clear hg2 hk2 hl2 HG HK HL HB C1
        have HG := HG2
        have HK := HK2
        have HL := HL2
        have HB := BB2
        clear HG2 HK2 HL2 BB2
        clear x2
        have x2 : w2.cell? ⟨w.heap.size, 2, none⟩ = some (.int .i64 7) := (blk_cell HB.out 2).trans rfl
        go_upto_block 1 with (fail)
        go_cut [] (fun wd => ∃ (x : S54) (t2 : St), Aside0 (O = .ok ([x], t2)) ∧ Aside0 (At wd g (RC s t2 v) 61) ∧ Aside0 (At wd w.heap.size (TC x) 54) ∧ Aside0 (KeepBut w wd g none) ∧ Aside0 (Below g w wd))
        case first =>
          have hO := HO.out
          clear HO
          simp only [Out.bind] at hO
          cases hA : plainF s false t1 with
          | bad pp er =>
            rw [hA] at hO
            simp only [Out.bind] at hO
            subst hO
            have C2 := Aside0.mk (plain_all g s v false t1 i1.1.1 hs hA)
            clear hA
            go_wp2_with fail
            go_at_call 79
            refine (C2.out _ HG.out).mono ?_
            rintro e w3 ⟨rfl, hk2, hl2⟩
            unfold flt
            exact ⟨rfl, rfl, KeepBut.weaker (HK.out.trans hk2 (.inl rfl)) _, Below.less (HL.out.trans hl2) ge⟩
          | ok r =>
            obtain ⟨a, t3⟩ := r
            rw [hA] at hO
            simp only [Out.bind] at hO
            have hO := Aside0.mk hO.symm
            have C2 := Aside0.mk (plain_all g s v false t1 i1.1.1 hs hA)
            clear hA
            go_wp2_with fail
            go_at_call 79
            refine (C2.out _ HG.out).mono ?_
            rintro e w3 ⟨rfl, hg2, hk2, hl2⟩
            have HG3 := Aside0.mk hg2
            have HK3 := Aside0.mk (HK.out.trans hk2 (.inl rfl))
            have HL3 := Aside0.mk (HL.out.trans hl2)
            have BB3 := Aside0.mk (At.keep HB.out hk2 hne' (by simp))
            clear hg2 hk2 hl2 HG HK HL HB C2
            have HG := HG3
            have HK := HK3
            have HL := HL3
            have HB := BB3
            clear HG3 HK3 HL3 BB3
            simp only [venc]
            have z3 : w3.cell? ⟨w.heap.size, 3, none⟩ = some (.int .i64 0) := (blk_cell HB.out 3).trans rfl
            have y3 := blk_frozen HB.out 3
            have z4 : w3.cell? ⟨w.heap.size, 4, none⟩ = some (.int .i64 0) := (blk_cell HB.out 4).trans rfl
            have y4 := blk_frozen HB.out 4
            have z5 : w3.cell? ⟨w.heap.size, 5, none⟩ = some (.string ⟨#[]⟩) := (blk_cell HB.out 5).trans rfl
            have y5 := blk_frozen HB.out 5
            have z6 : w3.cell? ⟨w.heap.size, 6, none⟩ = some (.bool false) := (blk_cell HB.out 6).trans rfl
            have y6 := blk_frozen HB.out 6
            have z7 : w3.cell? ⟨w.heap.size, 7, none⟩ = some (.complex .f64 0 0) := (blk_cell HB.out 7).trans rfl
            have y7 := blk_frozen HB.out 7
            have z8 : w3.cell? ⟨w.heap.size, 8, none⟩ = some (.int .i64 0) := (blk_cell HB.out 8).trans rfl
            have y8 := blk_frozen HB.out 8
            go_wp2
            go_meet
            case rel => exact ⟨_, _, hO, ⟨by (apply At.fin; (focus (with_reducible repeat (first | exact HG.out | exact HB.out | exact HW.out | apply At.drew | apply At.drewN | apply At.alloc | (refine At.set (cs := ?_) ?_ _ _; rotate_left) | apply At.other (hne := hne') | apply At.other (hne := hne) | apply At.other (hne := hn01)))); (focus rfl))⟩, ⟨by (apply At.fin; (focus (with_reducible repeat (first | exact HG.out | exact HB.out | exact HW.out | apply At.drew | apply At.drewN | apply At.alloc | (refine At.set (cs := ?_) ?_ _ _; rotate_left) | apply At.other (hne := hne') | apply At.other (hne := hne) | apply At.other (hne := hn01)))); (focus rfl))⟩, ⟨by (with_reducible repeat (first | exact KeepBut.refl _ _ _ | exact HK.out | apply kb_drewN | apply kb_drew | apply kb_alloc | refine kb_new ?_ (Nat.le_refl _) _ _ | refine kb_new ?_ hbn _ _))⟩, ⟨by (with_reducible repeat (first | exact Below.refl _ _ | exact HL.out | apply pw_below_drewN | apply below_drew1 | refine bl_set ?_ (Nat.le_of_lt hgb) | refine bl_alloc ?_ hlt _))⟩⟩
        case rest =>
          clear x2 HG HB HK HL HO
          obtain ⟨x, t2, hO2, HG, HB, HK, HL⟩ := hcut
          have hO2 := hO2.out
          subst hO2
          have O : Kd.R k54 54 wc B (fun k => k ≠ g) v xs := Kd.R_keep HR.out HK.out (fun _ h => h)
          obtain ⟨hg⟩ := HG
          obtain ⟨hb⟩ := HB
          obtain ⟨hk⟩ := HK
          obtain ⟨hB⟩ := HL
          have hlX := hg.lt
          have c7 : wc.cell? ⟨g, 7, none⟩ = some v := (blk_cell hg 7).trans rfl
          have x0 : wc.cell? ⟨w.heap.size, 0, none⟩ = some (.int .i64 x.f0) := (blk_cell hb 0).trans rfl
          have x1 : wc.cell? ⟨w.heap.size, 1, none⟩ = some (.string x.f1) := (blk_cell hb 1).trans rfl
          have x2 : wc.cell? ⟨w.heap.size, 2, none⟩ = some (.int .i64 x.f2) := (blk_cell hb 2).trans rfl
          have x3 : wc.cell? ⟨w.heap.size, 3, none⟩ = some (.int .i64 x.f3.f0) := (blk_cell hb 3).trans rfl
          have x4 : wc.cell? ⟨w.heap.size, 4, none⟩ = some (.int .i64 x.f3.f1) := (blk_cell hb 4).trans rfl
          have x5 : wc.cell? ⟨w.heap.size, 5, none⟩ = some (.string x.f3.f2) := (blk_cell hb 5).trans rfl
          have x6 : wc.cell? ⟨w.heap.size, 6, none⟩ = some (.bool x.f3.f3) := (blk_cell hb 6).trans rfl
          have x7 : wc.cell? ⟨w.heap.size, 7, none⟩ = some (.complex .f64 x.f3.f4.re x.f3.f4.im) := (blk_cell hb 7).trans rfl
          have x8 : wc.cell? ⟨w.heap.size, 8, none⟩ = some (.int .i64 x.f4) := (blk_cell hb 8).trans rfl
          have hne2 := World.new_ne wc ⟨g, 7, none⟩ c7
          go_wp2
          go_region_law ((refine Kd.R_append_step k54 (w0 := wc.drew) (W := wc.drew) B (by rfl) (.tmp 102) (.tmp 104) 23 54 _ 96 (by rfl) Try.underlying23 info54 rfl (by decide) (by decide) v xs x (tc x) (fun k => k ≠ g) (fun _ => False) (by rfl) (by rfl) (tc_M _ _ _ _) (fun _ h => h.elim) (fun k (hk : wc.heap.size ≤ k) e => by omega) (Kd.R_drew O) (Below.refl _ _) (by show B ≤ wc.heap.size; omega) (by omega) ?_; intro v1 w1 ho hb1 hg1 hat1; obtain ⟨e1, e2⟩ := cell7 (At.drew hg) (Kd.R_drew O) hg1; obtain ⟨A1, n1, e1v⟩ := Kd.R_slice ho; rw [show (xs ++ [x]).length = xs.length + 1 from by simp] at e1v; subst e1v; have HO1 := Aside0.mk ho; have HB1 := Aside0.mk hb1; have HG1 := Aside0.mk hg1; have HT1 := Aside0.mk hat1; clear ho hb1 hg1 hat1))
          all_goals (try go_wp2)
          all_goals go_end0
          all_goals exact apd_mk (kb_drew hk) (Below.less (below_drew1 hB) ge) (At.drew hg) (Kd.R_drew O) ge HO1.out HB1.out HG1.out HT1.out
    · simp (decide := true) only [atomF, HC.out, if_true, if_false] at hO
      have hk1 := cmp_kd (u := ⟨kd, lg, pl, tx, n⟩) (by rw [HC.out]; decide)
      clear HC
      cases hN : nextF s p with
      | bad pp er =>
        rw [hN] at hO
        simp only [Out.bind] at hO
        subst hO
        have C1 := Aside0.mk (next_all g s v ⟨p, ⟨kd, lg, pl, tx, n⟩⟩ hi.1 hs hN)
        clear hN
        go_wp2_with fail
        go_at_call 17
        refine (C1.out _ HG.out).mono ?_
        rintro e w2 ⟨rfl, hk2, hl2⟩
        unfold flt
        exact ⟨rfl, rfl, KeepBut.weaker (HK.out.trans hk2 (.inl rfl)) _, Below.less (HL.out.trans hl2) ge⟩
      | ok t1 =>
        rw [hN] at hO
        have i1 := next_up hi hk1 hN
        have C1 := Aside0.mk (next_all g s v ⟨p, ⟨kd, lg, pl, tx, n⟩⟩ hi.1 hs hN)
        clear hN
        have HO := Aside0.mk hO
        clear hO
        go_wp2_with fail
        go_at_call 17
        refine (C1.out _ HG.out).mono ?_
        rintro e w2 ⟨rfl, hg2, hk2, hl2⟩
        have HG2 := Aside0.mk hg2
        have HK2 := Aside0.mk (HK.out.trans hk2 (.inl rfl))
        have HL2 := Aside0.mk (HL.out.trans hl2)
        have BB2 := Aside0.mk (At.keep HB.out hk2 hne' (by simp))
        clear hg2 hk2 hl2 HG HK HL HB C1
        have HG := HG2
        have HK := HK2
        have HL := HL2
        have HB := BB2
        clear HG2 HK2 HL2 BB2
        clear x2
        have x2 : w2.cell? ⟨w.heap.size, 2, none⟩ = some (.int .i64 8) := (blk_cell HB.out 2).trans rfl
        go_upto_block 1 with (fail)
        go_cut [] (fun wd => ∃ (x : S54) (t2 : St), Aside0 (O = .ok ([x], t2)) ∧ Aside0 (At wd g (RC s t2 v) 61) ∧ Aside0 (At wd w.heap.size (TC x) 54) ∧ Aside0 (KeepBut w wd g none) ∧ Aside0 (Below g w wd))
        case first =>
          have hO := HO.out
          clear HO
          simp only [Out.bind] at hO
          cases hA : plainF s false t1 with
          | bad pp er =>
            rw [hA] at hO
            simp only [Out.bind] at hO
            subst hO
            have C2 := Aside0.mk (plain_all g s v false t1 i1.1.1 hs hA)
            clear hA
            go_wp2_with fail
            go_at_call 79
            refine (C2.out _ HG.out).mono ?_
            rintro e w3 ⟨rfl, hk2, hl2⟩
            unfold flt
            exact ⟨rfl, rfl, KeepBut.weaker (HK.out.trans hk2 (.inl rfl)) _, Below.less (HL.out.trans hl2) ge⟩
          | ok r =>
            obtain ⟨a, t3⟩ := r
            rw [hA] at hO
            simp only [Out.bind] at hO
            have hO := Aside0.mk hO.symm
            have C2 := Aside0.mk (plain_all g s v false t1 i1.1.1 hs hA)
            clear hA
            go_wp2_with fail
            go_at_call 79
            refine (C2.out _ HG.out).mono ?_
            rintro e w3 ⟨rfl, hg2, hk2, hl2⟩
            have HG3 := Aside0.mk hg2
            have HK3 := Aside0.mk (HK.out.trans hk2 (.inl rfl))
            have HL3 := Aside0.mk (HL.out.trans hl2)
            have BB3 := Aside0.mk (At.keep HB.out hk2 hne' (by simp))
            clear hg2 hk2 hl2 HG HK HL HB C2
            have HG := HG3
            have HK := HK3
            have HL := HL3
            have HB := BB3
            clear HG3 HK3 HL3 BB3
            simp only [venc]
            have z3 : w3.cell? ⟨w.heap.size, 3, none⟩ = some (.int .i64 0) := (blk_cell HB.out 3).trans rfl
            have y3 := blk_frozen HB.out 3
            have z4 : w3.cell? ⟨w.heap.size, 4, none⟩ = some (.int .i64 0) := (blk_cell HB.out 4).trans rfl
            have y4 := blk_frozen HB.out 4
            have z5 : w3.cell? ⟨w.heap.size, 5, none⟩ = some (.string ⟨#[]⟩) := (blk_cell HB.out 5).trans rfl
            have y5 := blk_frozen HB.out 5
            have z6 : w3.cell? ⟨w.heap.size, 6, none⟩ = some (.bool false) := (blk_cell HB.out 6).trans rfl
            have y6 := blk_frozen HB.out 6
            have z7 : w3.cell? ⟨w.heap.size, 7, none⟩ = some (.complex .f64 0 0) := (blk_cell HB.out 7).trans rfl
            have y7 := blk_frozen HB.out 7
            have z8 : w3.cell? ⟨w.heap.size, 8, none⟩ = some (.int .i64 0) := (blk_cell HB.out 8).trans rfl
            have y8 := blk_frozen HB.out 8
            go_wp2
            go_meet
            case rel => exact ⟨_, _, hO, ⟨by (apply At.fin; (focus (with_reducible repeat (first | exact HG.out | exact HB.out | exact HW.out | apply At.drew | apply At.drewN | apply At.alloc | (refine At.set (cs := ?_) ?_ _ _; rotate_left) | apply At.other (hne := hne') | apply At.other (hne := hne) | apply At.other (hne := hn01)))); (focus rfl))⟩, ⟨by (apply At.fin; (focus (with_reducible repeat (first | exact HG.out | exact HB.out | exact HW.out | apply At.drew | apply At.drewN | apply At.alloc | (refine At.set (cs := ?_) ?_ _ _; rotate_left) | apply At.other (hne := hne') | apply At.other (hne := hne) | apply At.other (hne := hn01)))); (focus rfl))⟩, ⟨by (with_reducible repeat (first | exact KeepBut.refl _ _ _ | exact HK.out | apply kb_drewN | apply kb_drew | apply kb_alloc | refine kb_new ?_ (Nat.le_refl _) _ _ | refine kb_new ?_ hbn _ _))⟩, ⟨by (with_reducible repeat (first | exact Below.refl _ _ | exact HL.out | apply pw_below_drewN | apply below_drew1 | refine bl_set ?_ (Nat.le_of_lt hgb) | refine bl_alloc ?_ hlt _))⟩⟩
        case rest =>
          clear x2 HG HB HK HL HO
          obtain ⟨x, t2, hO2, HG, HB, HK, HL⟩ := hcut
          have hO2 := hO2.out
          subst hO2
          have O : Kd.R k54 54 wc B (fun k => k ≠ g) v xs := Kd.R_keep HR.out HK.out (fun _ h => h)
          obtain ⟨hg⟩ := HG
          obtain ⟨hb⟩ := HB
          obtain ⟨hk⟩ := HK
          obtain ⟨hB⟩ := HL
          have hlX := hg.lt
          have c7 : wc.cell? ⟨g, 7, none⟩ = some v := (blk_cell hg 7).trans rfl
          have x0 : wc.cell? ⟨w.heap.size, 0, none⟩ = some (.int .i64 x.f0) := (blk_cell hb 0).trans rfl
          have x1 : wc.cell? ⟨w.heap.size, 1, none⟩ = some (.string x.f1) := (blk_cell hb 1).trans rfl
          have x2 : wc.cell? ⟨w.heap.size, 2, none⟩ = some (.int .i64 x.f2) := (blk_cell hb 2).trans rfl
          have x3 : wc.cell? ⟨w.heap.size, 3, none⟩ = some (.int .i64 x.f3.f0) := (blk_cell hb 3).trans rfl
          have x4 : wc.cell? ⟨w.heap.size, 4, none⟩ = some (.int .i64 x.f3.f1) := (blk_cell hb 4).trans rfl
          have x5 : wc.cell? ⟨w.heap.size, 5, none⟩ = some (.string x.f3.f2) := (blk_cell hb 5).trans rfl
          have x6 : wc.cell? ⟨w.heap.size, 6, none⟩ = some (.bool x.f3.f3) := (blk_cell hb 6).trans rfl
          have x7 : wc.cell? ⟨w.heap.size, 7, none⟩ = some (.complex .f64 x.f3.f4.re x.f3.f4.im) := (blk_cell hb 7).trans rfl
          have x8 : wc.cell? ⟨w.heap.size, 8, none⟩ = some (.int .i64 x.f4) := (blk_cell hb 8).trans rfl
          have hne2 := World.new_ne wc ⟨g, 7, none⟩ c7
          go_wp2
          go_region_law ((refine Kd.R_append_step k54 (w0 := wc.drew) (W := wc.drew) B (by rfl) (.tmp 102) (.tmp 104) 23 54 _ 96 (by rfl) Try.underlying23 info54 rfl (by decide) (by decide) v xs x (tc x) (fun k => k ≠ g) (fun _ => False) (by rfl) (by rfl) (tc_M _ _ _ _) (fun _ h => h.elim) (fun k (hk : wc.heap.size ≤ k) e => by omega) (Kd.R_drew O) (Below.refl _ _) (by show B ≤ wc.heap.size; omega) (by omega) ?_; intro v1 w1 ho hb1 hg1 hat1; obtain ⟨e1, e2⟩ := cell7 (At.drew hg) (Kd.R_drew O) hg1; obtain ⟨A1, n1, e1v⟩ := Kd.R_slice ho; rw [show (xs ++ [x]).length = xs.length + 1 from by simp] at e1v; subst e1v; have HO1 := Aside0.mk ho; have HB1 := Aside0.mk hb1; have HG1 := Aside0.mk hg1; have HT1 := Aside0.mk hat1; clear ho hb1 hg1 hat1))
          all_goals (try go_wp2)
          all_goals go_end0
          all_goals exact apd_mk (kb_drew hk) (Below.less (below_drew1 hB) ge) (At.drew hg) (Kd.R_drew O) ge HO1.out HB1.out HG1.out HT1.out
    · simp (decide := true) only [atomF, HC.out, if_true, if_false] at hO
      have hk1 := cmp_kd (u := ⟨kd, lg, pl, tx, n⟩) (by rw [HC.out]; decide)
      clear HC
      cases hN : nextF s p with
      | bad pp er =>
        rw [hN] at hO
        simp only [Out.bind] at hO
        subst hO
        have C1 := Aside0.mk (next_all g s v ⟨p, ⟨kd, lg, pl, tx, n⟩⟩ hi.1 hs hN)
        clear hN
        go_wp2_with fail
        go_at_call 17
        refine (C1.out _ HG.out).mono ?_
        rintro e w2 ⟨rfl, hk2, hl2⟩
        unfold flt
        exact ⟨rfl, rfl, KeepBut.weaker (HK.out.trans hk2 (.inl rfl)) _, Below.less (HL.out.trans hl2) ge⟩
      | ok t1 =>
        rw [hN] at hO
        have i1 := next_up hi hk1 hN
        have C1 := Aside0.mk (next_all g s v ⟨p, ⟨kd, lg, pl, tx, n⟩⟩ hi.1 hs hN)
        clear hN
        have HO := Aside0.mk hO
        clear hO
        go_wp2_with fail
        go_at_call 17
        refine (C1.out _ HG.out).mono ?_
        rintro e w2 ⟨rfl, hg2, hk2, hl2⟩
        have HG2 := Aside0.mk hg2
        have HK2 := Aside0.mk (HK.out.trans hk2 (.inl rfl))
        have HL2 := Aside0.mk (HL.out.trans hl2)
        have BB2 := Aside0.mk (At.keep HB.out hk2 hne' (by simp))
        clear hg2 hk2 hl2 HG HK HL HB C1
        have HG := HG2
        have HK := HK2
        have HL := HL2
        have HB := BB2
        clear HG2 HK2 HL2 BB2
        clear x2
        have x2 : w2.cell? ⟨w.heap.size, 2, none⟩ = some (.int .i64 9) := (blk_cell HB.out 2).trans rfl
        go_upto_block 1 with (fail)
        go_cut [] (fun wd => ∃ (x : S54) (t2 : St), Aside0 (O = .ok ([x], t2)) ∧ Aside0 (At wd g (RC s t2 v) 61) ∧ Aside0 (At wd w.heap.size (TC x) 54) ∧ Aside0 (KeepBut w wd g none) ∧ Aside0 (Below g w wd))
        case first =>
          have hO := HO.out
          clear HO
          simp only [Out.bind] at hO
          cases hA : plainF s true t1 with
          | bad pp er =>
            rw [hA] at hO
            simp only [Out.bind] at hO
            subst hO
            have C2 := Aside0.mk (plain_all g s v true t1 i1.1.1 hs hA)
            clear hA
            go_wp2_with fail
            go_at_call 79
            refine (C2.out _ HG.out).mono ?_
            rintro e w3 ⟨rfl, hk2, hl2⟩
            unfold flt
            exact ⟨rfl, rfl, KeepBut.weaker (HK.out.trans hk2 (.inl rfl)) _, Below.less (HL.out.trans hl2) ge⟩
          | ok r =>
            obtain ⟨a, t3⟩ := r
            rw [hA] at hO
            simp only [Out.bind] at hO
            have hO := Aside0.mk hO.symm
            have C2 := Aside0.mk (plain_all g s v true t1 i1.1.1 hs hA)
            clear hA
            go_wp2_with fail
            go_at_call 79
            refine (C2.out _ HG.out).mono ?_
            rintro e w3 ⟨rfl, hg2, hk2, hl2⟩
            have HG3 := Aside0.mk hg2
            have HK3 := Aside0.mk (HK.out.trans hk2 (.inl rfl))
            have HL3 := Aside0.mk (HL.out.trans hl2)
            have BB3 := Aside0.mk (At.keep HB.out hk2 hne' (by simp))
            clear hg2 hk2 hl2 HG HK HL HB C2
            have HG := HG3
            have HK := HK3
            have HL := HL3
            have HB := BB3
            clear HG3 HK3 HL3 BB3
            simp only [venc]
            have z3 : w3.cell? ⟨w.heap.size, 3, none⟩ = some (.int .i64 0) := (blk_cell HB.out 3).trans rfl
            have y3 := blk_frozen HB.out 3
            have z4 : w3.cell? ⟨w.heap.size, 4, none⟩ = some (.int .i64 0) := (blk_cell HB.out 4).trans rfl
            have y4 := blk_frozen HB.out 4
            have z5 : w3.cell? ⟨w.heap.size, 5, none⟩ = some (.string ⟨#[]⟩) := (blk_cell HB.out 5).trans rfl
            have y5 := blk_frozen HB.out 5
            have z6 : w3.cell? ⟨w.heap.size, 6, none⟩ = some (.bool false) := (blk_cell HB.out 6).trans rfl
            have y6 := blk_frozen HB.out 6
            have z7 : w3.cell? ⟨w.heap.size, 7, none⟩ = some (.complex .f64 0 0) := (blk_cell HB.out 7).trans rfl
            have y7 := blk_frozen HB.out 7
            have z8 : w3.cell? ⟨w.heap.size, 8, none⟩ = some (.int .i64 0) := (blk_cell HB.out 8).trans rfl
            have y8 := blk_frozen HB.out 8
            go_wp2
            go_meet
            case rel => exact ⟨_, _, hO, ⟨by (apply At.fin; (focus (with_reducible repeat (first | exact HG.out | exact HB.out | exact HW.out | apply At.drew | apply At.drewN | apply At.alloc | (refine At.set (cs := ?_) ?_ _ _; rotate_left) | apply At.other (hne := hne') | apply At.other (hne := hne) | apply At.other (hne := hn01)))); (focus rfl))⟩, ⟨by (apply At.fin; (focus (with_reducible repeat (first | exact HG.out | exact HB.out | exact HW.out | apply At.drew | apply At.drewN | apply At.alloc | (refine At.set (cs := ?_) ?_ _ _; rotate_left) | apply At.other (hne := hne') | apply At.other (hne := hne) | apply At.other (hne := hn01)))); (focus rfl))⟩, ⟨by (with_reducible repeat (first | exact KeepBut.refl _ _ _ | exact HK.out | apply kb_drewN | apply kb_drew | apply kb_alloc | refine kb_new ?_ (Nat.le_refl _) _ _ | refine kb_new ?_ hbn _ _))⟩, ⟨by (with_reducible repeat (first | exact Below.refl _ _ | exact HL.out | apply pw_below_drewN | apply below_drew1 | refine bl_set ?_ (Nat.le_of_lt hgb) | refine bl_alloc ?_ hlt _))⟩⟩
        case rest =>
          clear x2 HG HB HK HL HO
          obtain ⟨x, t2, hO2, HG, HB, HK, HL⟩ := hcut
          have hO2 := hO2.out
          subst hO2
          have O : Kd.R k54 54 wc B (fun k => k ≠ g) v xs := Kd.R_keep HR.out HK.out (fun _ h => h)
          obtain ⟨hg⟩ := HG
          obtain ⟨hb⟩ := HB
          obtain ⟨hk⟩ := HK
          obtain ⟨hB⟩ := HL
          have hlX := hg.lt
          have c7 : wc.cell? ⟨g, 7, none⟩ = some v := (blk_cell hg 7).trans rfl
          have x0 : wc.cell? ⟨w.heap.size, 0, none⟩ = some (.int .i64 x.f0) := (blk_cell hb 0).trans rfl
          have x1 : wc.cell? ⟨w.heap.size, 1, none⟩ = some (.string x.f1) := (blk_cell hb 1).trans rfl
          have x2 : wc.cell? ⟨w.heap.size, 2, none⟩ = some (.int .i64 x.f2) := (blk_cell hb 2).trans rfl
          have x3 : wc.cell? ⟨w.heap.size, 3, none⟩ = some (.int .i64 x.f3.f0) := (blk_cell hb 3).trans rfl
          have x4 : wc.cell? ⟨w.heap.size, 4, none⟩ = some (.int .i64 x.f3.f1) := (blk_cell hb 4).trans rfl
          have x5 : wc.cell? ⟨w.heap.size, 5, none⟩ = some (.string x.f3.f2) := (blk_cell hb 5).trans rfl
          have x6 : wc.cell? ⟨w.heap.size, 6, none⟩ = some (.bool x.f3.f3) := (blk_cell hb 6).trans rfl
          have x7 : wc.cell? ⟨w.heap.size, 7, none⟩ = some (.complex .f64 x.f3.f4.re x.f3.f4.im) := (blk_cell hb 7).trans rfl
          have x8 : wc.cell? ⟨w.heap.size, 8, none⟩ = some (.int .i64 x.f4) := (blk_cell hb 8).trans rfl
          have hne2 := World.new_ne wc ⟨g, 7, none⟩ c7
          go_wp2
          go_region_law ((refine Kd.R_append_step k54 (w0 := wc.drew) (W := wc.drew) B (by rfl) (.tmp 102) (.tmp 104) 23 54 _ 96 (by rfl) Try.underlying23 info54 rfl (by decide) (by decide) v xs x (tc x) (fun k => k ≠ g) (fun _ => False) (by rfl) (by rfl) (tc_M _ _ _ _) (fun _ h => h.elim) (fun k (hk : wc.heap.size ≤ k) e => by omega) (Kd.R_drew O) (Below.refl _ _) (by show B ≤ wc.heap.size; omega) (by omega) ?_; intro v1 w1 ho hb1 hg1 hat1; obtain ⟨e1, e2⟩ := cell7 (At.drew hg) (Kd.R_drew O) hg1; obtain ⟨A1, n1, e1v⟩ := Kd.R_slice ho; rw [show (xs ++ [x]).length = xs.length + 1 from by simp] at e1v; subst e1v; have HO1 := Aside0.mk ho; have HB1 := Aside0.mk hb1; have HG1 := Aside0.mk hg1; have HT1 := Aside0.mk hat1; clear ho hb1 hg1 hat1))
          all_goals (try go_wp2)
          all_goals go_end0
          all_goals exact apd_mk (kb_drew hk) (Below.less (below_drew1 hB) ge) (At.drew hg) (Kd.R_drew O) ge HO1.out HB1.out HG1.out HT1.out
    · simp (decide := true) only [atomF, HC.out, if_true, if_false] at hO
      have hk1 := cmp_kd (u := ⟨kd, lg, pl, tx, n⟩) (by rw [HC.out]; decide)
      clear HC
      cases hN : nextF s p with
      | bad pp er =>
        rw [hN] at hO
        simp only [Out.bind] at hO
        subst hO
        have C1 := Aside0.mk (next_all g s v ⟨p, ⟨kd, lg, pl, tx, n⟩⟩ hi.1 hs hN)
        clear hN
        go_wp2_with fail
        go_at_call 17
        refine (C1.out _ HG.out).mono ?_
        rintro e w2 ⟨rfl, hk2, hl2⟩
        unfold flt
        exact ⟨rfl, rfl, KeepBut.weaker (HK.out.trans hk2 (.inl rfl)) _, Below.less (HL.out.trans hl2) ge⟩
      | ok t1 =>
        rw [hN] at hO
        have i1 := next_up hi hk1 hN
        have C1 := Aside0.mk (next_all g s v ⟨p, ⟨kd, lg, pl, tx, n⟩⟩ hi.1 hs hN)
        clear hN
        have HO := Aside0.mk hO
        clear hO
        go_wp2_with fail
        go_at_call 17
        refine (C1.out _ HG.out).mono ?_
        rintro e w2 ⟨rfl, hg2, hk2, hl2⟩
        have HG2 := Aside0.mk hg2
        have HK2 := Aside0.mk (HK.out.trans hk2 (.inl rfl))
        have HL2 := Aside0.mk (HL.out.trans hl2)
        have BB2 := Aside0.mk (At.keep HB.out hk2 hne' (by simp))
        clear hg2 hk2 hl2 HG HK HL HB C1
        have HG := HG2
        have HK := HK2
        have HL := HL2
        have HB := BB2
        clear HG2 HK2 HL2 BB2
        clear x2
        have x2 : w2.cell? ⟨w.heap.size, 2, none⟩ = some (.int .i64 10) := (blk_cell HB.out 2).trans rfl
        go_upto_block 1 with (fail)
        go_cut [] (fun wd => ∃ (x : S54) (t2 : St), Aside0 (O = .ok ([x], t2)) ∧ Aside0 (At wd g (RC s t2 v) 61) ∧ Aside0 (At wd w.heap.size (TC x) 54) ∧ Aside0 (KeepBut w wd g none) ∧ Aside0 (Below g w wd))
        case first =>
          have hO := HO.out
          clear HO
          simp only [Out.bind] at hO
          cases hA : pointF s t1 with
          | bad pp er =>
            rw [hA] at hO
            simp only [Out.bind] at hO
            subst hO
            have C2 := Aside0.mk (point_all g s v t1 i1.1.1 hs hA)
            clear hA
            go_wp2_with fail
            go_at_call 80
            refine (C2.out _ (HG.out)).mono ?_
            rintro e w3 ⟨rfl, hk2, hl2⟩
            unfold flt
            exact ⟨rfl, rfl, KeepBut.weaker ((HK.out).trans hk2 (.inl rfl)) _, Below.less ((HL.out).trans hl2) ge⟩
          | ok r =>
            obtain ⟨a, t3⟩ := r
            rw [hA] at hO
            simp only [Out.bind] at hO
            have C2 := Aside0.mk (point_all g s v t1 i1.1.1 hs hA)
            have i3 := pointF_up i1.1 hA
            clear hA
            cases hB : wantF s 47 t3 with
            | bad pp er =>
              rw [hB] at hO
              simp only [Out.bind] at hO
              subst hO
              have C3 := Aside0.mk (want_all g s v t3 47 i3.1.1 hs hB)
              clear hB
              go_wp2_with fail
              go_at_call 80
              refine (C2.out _ (HG.out)).mono ?_
              rintro e w3 ⟨rfl, hg2, hk2, hl2⟩
              have HG3 := Aside0.mk hg2
              have HK3 := Aside0.mk ((HK.out).trans hk2 (.inl rfl))
              have HL3 := Aside0.mk ((HL.out).trans hl2)
              have BB3 := Aside0.mk (At.keep (HB.out) hk2 hne' (by simp))
              clear hg2 hk2 hl2 HG HK HL HB C2
              have HG := HG3
              have HK := HK3
              have HL := HL3
              have HB := BB3
              clear HG3 HK3 HL3 BB3
              simp only [venc]
              have z3 : w3.cell? ⟨w.heap.size, 3, none⟩ = some (.int .i64 0) := (blk_cell HB.out 3).trans rfl
              have y3 := blk_frozen HB.out 3
              have z4 : w3.cell? ⟨w.heap.size, 4, none⟩ = some (.int .i64 0) := (blk_cell HB.out 4).trans rfl
              have y4 := blk_frozen HB.out 4
              have z5 : w3.cell? ⟨w.heap.size, 5, none⟩ = some (.string ⟨#[]⟩) := (blk_cell HB.out 5).trans rfl
              have y5 := blk_frozen HB.out 5
              have z6 : w3.cell? ⟨w.heap.size, 6, none⟩ = some (.bool false) := (blk_cell HB.out 6).trans rfl
              have y6 := blk_frozen HB.out 6
              have z7 : w3.cell? ⟨w.heap.size, 7, none⟩ = some (.complex .f64 0 0) := (blk_cell HB.out 7).trans rfl
              have y7 := blk_frozen HB.out 7
              have z8 : w3.cell? ⟨w.heap.size, 8, none⟩ = some (.int .i64 0) := (blk_cell HB.out 8).trans rfl
              have y8 := blk_frozen HB.out 8
              go_wp2_with fail
              go_at_call 19
              refine (C3.out _ ((((((HG.out.other hne' 3 (.int .i64 a.f0)).other hne' 4 (.int .i64 a.f1)).other hne' 5 (.string a.f2)).other hne' 6 (.bool a.f3)).other hne' 7 (.complex .f64 a.f4.re a.f4.im)))).mono ?_
              rintro e w4 ⟨rfl, hk2, hl2⟩
              unfold flt
              exact ⟨rfl, rfl, KeepBut.weaker ((kb_new (kb_new (kb_new (kb_new (kb_new HK.out (Nat.le_refl _) 3 (.int .i64 a.f0)) (Nat.le_refl _) 4 (.int .i64 a.f1)) (Nat.le_refl _) 5 (.string a.f2)) (Nat.le_refl _) 6 (.bool a.f3)) (Nat.le_refl _) 7 (.complex .f64 a.f4.re a.f4.im)).trans hk2 (.inl rfl)) _, Below.less ((bl_set (bl_set (bl_set (bl_set (bl_set HL.out (Nat.le_of_lt hgb)) (Nat.le_of_lt hgb)) (Nat.le_of_lt hgb)) (Nat.le_of_lt hgb)) (Nat.le_of_lt hgb)).trans hl2) ge⟩
            | ok r =>
              obtain ⟨b, t4⟩ := r
              rw [hB] at hO
              simp only [Out.bind] at hO
              have C3 := Aside0.mk (want_all g s v t3 47 i3.1.1 hs hB)
              have i4 := wantF_up i3.1 (by decide) hB
              clear hB
              by_cases hn : t4.w.kd = 100 ∧ (t4.w.n < 0 ∨ t4.w.n > 1048576)
              · rw [if_pos hn] at hO
                simp only [Out.bind] at hO
                subst hO
                have hn1 : Aside0 ((t4.w.kd == 100) = true ∧ (decide (t4.w.n < 0) = true ∨ (decide (t4.w.n < 0) = false ∧ decide (1048576 < t4.w.n) = true))) := by
                  refine ⟨?_⟩
                  simp only [beq_iff_eq, decide_eq_true_eq, decide_eq_false_iff_not]
                  omega
                clear hn
                go_wp2_with fail
                go_at_call 80
                refine (C2.out _ (HG.out)).mono ?_
                rintro e w3 ⟨rfl, hg2, hk2, hl2⟩
                have HG3 := Aside0.mk hg2
                have HK3 := Aside0.mk ((HK.out).trans hk2 (.inl rfl))
                have HL3 := Aside0.mk ((HL.out).trans hl2)
                have BB3 := Aside0.mk (At.keep (HB.out) hk2 hne' (by simp))
                clear hg2 hk2 hl2 HG HK HL HB C2
                have HG := HG3
                have HK := HK3
                have HL := HL3
                have HB := BB3
                clear HG3 HK3 HL3 BB3
                simp only [venc]
                have z3 : w3.cell? ⟨w.heap.size, 3, none⟩ = some (.int .i64 0) := (blk_cell HB.out 3).trans rfl
                have y3 := blk_frozen HB.out 3
                have z4 : w3.cell? ⟨w.heap.size, 4, none⟩ = some (.int .i64 0) := (blk_cell HB.out 4).trans rfl
                have y4 := blk_frozen HB.out 4
                have z5 : w3.cell? ⟨w.heap.size, 5, none⟩ = some (.string ⟨#[]⟩) := (blk_cell HB.out 5).trans rfl
                have y5 := blk_frozen HB.out 5
                have z6 : w3.cell? ⟨w.heap.size, 6, none⟩ = some (.bool false) := (blk_cell HB.out 6).trans rfl
                have y6 := blk_frozen HB.out 6
                have z7 : w3.cell? ⟨w.heap.size, 7, none⟩ = some (.complex .f64 0 0) := (blk_cell HB.out 7).trans rfl
                have y7 := blk_frozen HB.out 7
                have z8 : w3.cell? ⟨w.heap.size, 8, none⟩ = some (.int .i64 0) := (blk_cell HB.out 8).trans rfl
                have y8 := blk_frozen HB.out 8
                go_wp2_with fail
                go_at_call 19
                refine (C3.out _ ((((((HG.out.other hne' 3 (.int .i64 a.f0)).other hne' 4 (.int .i64 a.f1)).other hne' 5 (.string a.f2)).other hne' 6 (.bool a.f3)).other hne' 7 (.complex .f64 a.f4.re a.f4.im)))).mono ?_
                rintro e w4 ⟨rfl, hg2, hk2, hl2⟩
                have HG4 := Aside0.mk hg2
                have HK4 := Aside0.mk ((kb_new (kb_new (kb_new (kb_new (kb_new HK.out (Nat.le_refl _) 3 (.int .i64 a.f0)) (Nat.le_refl _) 4 (.int .i64 a.f1)) (Nat.le_refl _) 5 (.string a.f2)) (Nat.le_refl _) 6 (.bool a.f3)) (Nat.le_refl _) 7 (.complex .f64 a.f4.re a.f4.im)).trans hk2 (.inl rfl))
                have HL4 := Aside0.mk ((bl_set (bl_set (bl_set (bl_set (bl_set HL.out (Nat.le_of_lt hgb)) (Nat.le_of_lt hgb)) (Nat.le_of_lt hgb)) (Nat.le_of_lt hgb)) (Nat.le_of_lt hgb)).trans hl2)
                have BB4 := Aside0.mk (At.keep ((((((HB.out).set 3 (.int .i64 a.f0)).set 4 (.int .i64 a.f1)).set 5 (.string a.f2)).set 6 (.bool a.f3)).set 7 (.complex .f64 a.f4.re a.f4.im)) hk2 hne' (by simp))
                clear hg2 hk2 hl2 HG HK HL HB C3
                have HG := HG4
                have HK := HK4
                have HL := HL4
                have HB := BB4
                clear HG4 HK4 HL4 BB4
                have p2 : w4.cell? ⟨g, 2, none⟩ = some (.int .u8 t4.w.kd) := (blk_cell HG.out 2).trans rfl
                have p3 : w4.cell? ⟨g, 3, none⟩ = some (.bool t4.w.lg) := (blk_cell HG.out 3).trans rfl
                have p4 : w4.cell? ⟨g, 4, none⟩ = some (.int .i64 t4.w.pl) := (blk_cell HG.out 4).trans rfl
                have p5 : w4.cell? ⟨g, 5, none⟩ = some (.string t4.w.tx) := (blk_cell HG.out 5).trans rfl
                have p6 : w4.cell? ⟨g, 6, none⟩ = some (.int .i64 t4.w.n) := (blk_cell HG.out 6).trans rfl
                obtain ⟨n0, n1 | ⟨n1, n2⟩⟩ := hn1.out
                all_goals
                  clear hn1
                  go_wp2_with (first | (go_at_call 20; refine (stop_ _ _ _).mono ?_; rintro e w2 ⟨rfl, hw⟩; subst hw; unfold flt))
                  exact ⟨rfl, rfl, KeepBut.weaker (by (with_reducible repeat (first | exact KeepBut.refl _ _ _ | exact HK.out | apply kb_drewN | apply kb_drew | apply kb_alloc | refine kb_new ?_ (Nat.le_refl _) _ _ | refine kb_new ?_ hbn _ _))) _, Below.less (by (with_reducible repeat (first | exact Below.refl _ _ | exact HL.out | apply pw_below_drewN | apply below_drew1 | refine bl_set ?_ (Nat.le_of_lt hgb) | refine bl_alloc ?_ hlt _))) ge⟩
              · rw [if_neg hn] at hO
                have hn1 : Aside0 ((t4.w.kd == 100) = false ∨ ((t4.w.kd == 100) = true ∧ decide (t4.w.n < 0) = false ∧ decide (1048576 < t4.w.n) = false)) := by
                  refine ⟨?_⟩
                  simp only [beq_iff_eq, beq_eq_false_iff_ne, decide_eq_false_iff_not]
                  omega
                clear hn
                cases hD : wantF s 100 t4 with
                | bad pp er =>
                  rw [hD] at hO
                  simp only [Out.bind] at hO
                  subst hO
                  have C4 := Aside0.mk (want_all g s v t4 100 i4.1.1 hs hD)
                  clear hD
                  go_wp2_with fail
                  go_at_call 80
                  refine (C2.out _ (HG.out)).mono ?_
                  rintro e w3 ⟨rfl, hg2, hk2, hl2⟩
                  have HG3 := Aside0.mk hg2
                  have HK3 := Aside0.mk ((HK.out).trans hk2 (.inl rfl))
                  have HL3 := Aside0.mk ((HL.out).trans hl2)
                  have BB3 := Aside0.mk (At.keep (HB.out) hk2 hne' (by simp))
                  clear hg2 hk2 hl2 HG HK HL HB C2
                  have HG := HG3
                  have HK := HK3
                  have HL := HL3
                  have HB := BB3
                  clear HG3 HK3 HL3 BB3
                  simp only [venc]
                  have z3 : w3.cell? ⟨w.heap.size, 3, none⟩ = some (.int .i64 0) := (blk_cell HB.out 3).trans rfl
                  have y3 := blk_frozen HB.out 3
                  have z4 : w3.cell? ⟨w.heap.size, 4, none⟩ = some (.int .i64 0) := (blk_cell HB.out 4).trans rfl
                  have y4 := blk_frozen HB.out 4
                  have z5 : w3.cell? ⟨w.heap.size, 5, none⟩ = some (.string ⟨#[]⟩) := (blk_cell HB.out 5).trans rfl
                  have y5 := blk_frozen HB.out 5
                  have z6 : w3.cell? ⟨w.heap.size, 6, none⟩ = some (.bool false) := (blk_cell HB.out 6).trans rfl
                  have y6 := blk_frozen HB.out 6
                  have z7 : w3.cell? ⟨w.heap.size, 7, none⟩ = some (.complex .f64 0 0) := (blk_cell HB.out 7).trans rfl
                  have y7 := blk_frozen HB.out 7
                  have z8 : w3.cell? ⟨w.heap.size, 8, none⟩ = some (.int .i64 0) := (blk_cell HB.out 8).trans rfl
                  have y8 := blk_frozen HB.out 8
                  go_wp2_with fail
                  go_at_call 19
                  refine (C3.out _ ((((((HG.out.other hne' 3 (.int .i64 a.f0)).other hne' 4 (.int .i64 a.f1)).other hne' 5 (.string a.f2)).other hne' 6 (.bool a.f3)).other hne' 7 (.complex .f64 a.f4.re a.f4.im)))).mono ?_
                  rintro e w4 ⟨rfl, hg2, hk2, hl2⟩
                  have HG4 := Aside0.mk hg2
                  have HK4 := Aside0.mk ((kb_new (kb_new (kb_new (kb_new (kb_new HK.out (Nat.le_refl _) 3 (.int .i64 a.f0)) (Nat.le_refl _) 4 (.int .i64 a.f1)) (Nat.le_refl _) 5 (.string a.f2)) (Nat.le_refl _) 6 (.bool a.f3)) (Nat.le_refl _) 7 (.complex .f64 a.f4.re a.f4.im)).trans hk2 (.inl rfl))
                  have HL4 := Aside0.mk ((bl_set (bl_set (bl_set (bl_set (bl_set HL.out (Nat.le_of_lt hgb)) (Nat.le_of_lt hgb)) (Nat.le_of_lt hgb)) (Nat.le_of_lt hgb)) (Nat.le_of_lt hgb)).trans hl2)
                  have BB4 := Aside0.mk (At.keep ((((((HB.out).set 3 (.int .i64 a.f0)).set 4 (.int .i64 a.f1)).set 5 (.string a.f2)).set 6 (.bool a.f3)).set 7 (.complex .f64 a.f4.re a.f4.im)) hk2 hne' (by simp))
                  clear hg2 hk2 hl2 HG HK HL HB C3
                  have HG := HG4
                  have HK := HK4
                  have HL := HL4
                  have HB := BB4
                  clear HG4 HK4 HL4 BB4
                  have p2 : w4.cell? ⟨g, 2, none⟩ = some (.int .u8 t4.w.kd) := (blk_cell HG.out 2).trans rfl
                  have p3 : w4.cell? ⟨g, 3, none⟩ = some (.bool t4.w.lg) := (blk_cell HG.out 3).trans rfl
                  have p4 : w4.cell? ⟨g, 4, none⟩ = some (.int .i64 t4.w.pl) := (blk_cell HG.out 4).trans rfl
                  have p5 : w4.cell? ⟨g, 5, none⟩ = some (.string t4.w.tx) := (blk_cell HG.out 5).trans rfl
                  have p6 : w4.cell? ⟨g, 6, none⟩ = some (.int .i64 t4.w.n) := (blk_cell HG.out 6).trans rfl
                  have hlt4 : g < w4.heap.size := HG.out.lt
                  have hle4 : w.heap.size ≤ w4.heap.size := HK.out.1
                  rcases hn1.out with n0 | ⟨n0, n1, n2⟩
                  all_goals
                    clear hn1
                    go_wp2_with fail
                    go_at_call 19
                    refine (C4.out _ (HG.out.alloc _)).mono ?_
                    rintro e w5 ⟨rfl, hk2, hl2⟩
                    unfold flt
                    exact ⟨rfl, rfl, KeepBut.weaker ((kb_alloc HK.out _).trans hk2 (.inl rfl)) _, Below.less ((HL.out.alloc (Nat.le_of_lt hlt4) _).trans hl2) ge⟩
                | ok r =>
                  obtain ⟨d, t5⟩ := r
                  rw [hD] at hO
                  simp only [Out.bind] at hO
                  have hO := Aside0.mk hO.symm
                  have C4 := Aside0.mk (want_all g s v t4 100 i4.1.1 hs hD)
                  clear hD
                  have hf : ∀ W : World, (Instr.field 59 (wenc d) 4).run Try.prog W = .ok (.int .i64 d.n) W := fun _ => by kernel_rfl
                  go_wp2_with fail
                  go_at_call 80
                  refine (C2.out _ (HG.out)).mono ?_
                  rintro e w3 ⟨rfl, hg2, hk2, hl2⟩
                  have HG3 := Aside0.mk hg2
                  have HK3 := Aside0.mk ((HK.out).trans hk2 (.inl rfl))
                  have HL3 := Aside0.mk ((HL.out).trans hl2)
                  have BB3 := Aside0.mk (At.keep (HB.out) hk2 hne' (by simp))
                  clear hg2 hk2 hl2 HG HK HL HB C2
                  have HG := HG3
                  have HK := HK3
                  have HL := HL3
                  have HB := BB3
                  clear HG3 HK3 HL3 BB3
                  simp only [venc]
                  have z3 : w3.cell? ⟨w.heap.size, 3, none⟩ = some (.int .i64 0) := (blk_cell HB.out 3).trans rfl
                  have y3 := blk_frozen HB.out 3
                  have z4 : w3.cell? ⟨w.heap.size, 4, none⟩ = some (.int .i64 0) := (blk_cell HB.out 4).trans rfl
                  have y4 := blk_frozen HB.out 4
                  have z5 : w3.cell? ⟨w.heap.size, 5, none⟩ = some (.string ⟨#[]⟩) := (blk_cell HB.out 5).trans rfl
                  have y5 := blk_frozen HB.out 5
                  have z6 : w3.cell? ⟨w.heap.size, 6, none⟩ = some (.bool false) := (blk_cell HB.out 6).trans rfl
                  have y6 := blk_frozen HB.out 6
                  have z7 : w3.cell? ⟨w.heap.size, 7, none⟩ = some (.complex .f64 0 0) := (blk_cell HB.out 7).trans rfl
                  have y7 := blk_frozen HB.out 7
                  have z8 : w3.cell? ⟨w.heap.size, 8, none⟩ = some (.int .i64 0) := (blk_cell HB.out 8).trans rfl
                  have y8 := blk_frozen HB.out 8
                  go_wp2_with fail
                  go_at_call 19
                  refine (C3.out _ ((((((HG.out.other hne' 3 (.int .i64 a.f0)).other hne' 4 (.int .i64 a.f1)).other hne' 5 (.string a.f2)).other hne' 6 (.bool a.f3)).other hne' 7 (.complex .f64 a.f4.re a.f4.im)))).mono ?_
                  rintro e w4 ⟨rfl, hg2, hk2, hl2⟩
                  have HG4 := Aside0.mk hg2
                  have HK4 := Aside0.mk ((kb_new (kb_new (kb_new (kb_new (kb_new HK.out (Nat.le_refl _) 3 (.int .i64 a.f0)) (Nat.le_refl _) 4 (.int .i64 a.f1)) (Nat.le_refl _) 5 (.string a.f2)) (Nat.le_refl _) 6 (.bool a.f3)) (Nat.le_refl _) 7 (.complex .f64 a.f4.re a.f4.im)).trans hk2 (.inl rfl))
                  have HL4 := Aside0.mk ((bl_set (bl_set (bl_set (bl_set (bl_set HL.out (Nat.le_of_lt hgb)) (Nat.le_of_lt hgb)) (Nat.le_of_lt hgb)) (Nat.le_of_lt hgb)) (Nat.le_of_lt hgb)).trans hl2)
                  have BB4 := Aside0.mk (At.keep ((((((HB.out).set 3 (.int .i64 a.f0)).set 4 (.int .i64 a.f1)).set 5 (.string a.f2)).set 6 (.bool a.f3)).set 7 (.complex .f64 a.f4.re a.f4.im)) hk2 hne' (by simp))
                  clear hg2 hk2 hl2 HG HK HL HB C3
                  have HG := HG4
                  have HK := HK4
                  have HL := HL4
                  have HB := BB4
                  clear HG4 HK4 HL4 BB4
                  have p2 : w4.cell? ⟨g, 2, none⟩ = some (.int .u8 t4.w.kd) := (blk_cell HG.out 2).trans rfl
                  have p3 : w4.cell? ⟨g, 3, none⟩ = some (.bool t4.w.lg) := (blk_cell HG.out 3).trans rfl
                  have p4 : w4.cell? ⟨g, 4, none⟩ = some (.int .i64 t4.w.pl) := (blk_cell HG.out 4).trans rfl
                  have p5 : w4.cell? ⟨g, 5, none⟩ = some (.string t4.w.tx) := (blk_cell HG.out 5).trans rfl
                  have p6 : w4.cell? ⟨g, 6, none⟩ = some (.int .i64 t4.w.n) := (blk_cell HG.out 6).trans rfl
                  have hlt4 : g < w4.heap.size := HG.out.lt
                  have hle4 : w.heap.size ≤ w4.heap.size := HK.out.1
                  clear z3 z4 z5 z6 z7 z8 y3 y4 y5 y6 y7 y8
                  rcases hn1.out with n0 | ⟨n0, n1, n2⟩
                  all_goals
                    clear hn1
                    go_wp2_with fail
                    go_at_call 19
                    refine (C4.out _ (HG.out.alloc _)).mono ?_
                    rintro e w5 ⟨rfl, hg2, hk2, hl2⟩
                    have HG5 := Aside0.mk hg2
                    have HK5 := Aside0.mk ((kb_alloc HK.out _).trans hk2 (.inl rfl))
                    have HL5 := Aside0.mk ((HL.out.alloc (Nat.le_of_lt hlt4) _).trans hl2)
                    have BB5 := Aside0.mk (At.keep (HB.out.alloc _) hk2 hne' (by simp))
                    clear hg2 hk2 hl2 HG HK HL HB C4
                    have HG := HG5
                    have HK := HK5
                    have HL := HL5
                    have HB := BB5
                    clear HG5 HK5 HL5 BB5
                    have z8 : w5.cell? ⟨w.heap.size, 8, none⟩ = some (.int .i64 0) := (blk_cell HB.out 8).trans rfl
                    have y8 := blk_frozen HB.out 8
                    go_wp2
                    go_meet
                    case rel => exact ⟨_, _, hO, ⟨by (apply At.fin; (focus (with_reducible repeat (first | exact HG.out | exact HB.out | exact HW.out | apply At.drew | apply At.drewN | apply At.alloc | (refine At.set (cs := ?_) ?_ _ _; rotate_left) | apply At.other (hne := hne') | apply At.other (hne := hne) | apply At.other (hne := hn01)))); (focus rfl))⟩, ⟨by (apply At.fin; (focus (with_reducible repeat (first | exact HG.out | exact HB.out | exact HW.out | apply At.drew | apply At.drewN | apply At.alloc | (refine At.set (cs := ?_) ?_ _ _; rotate_left) | apply At.other (hne := hne') | apply At.other (hne := hne) | apply At.other (hne := hn01)))); (focus rfl))⟩, ⟨by (with_reducible repeat (first | exact KeepBut.refl _ _ _ | exact HK.out | apply kb_drewN | apply kb_drew | apply kb_alloc | refine kb_new ?_ (Nat.le_refl _) _ _ | refine kb_new ?_ hbn _ _))⟩, ⟨by (with_reducible repeat (first | exact Below.refl _ _ | exact HL.out | apply pw_below_drewN | apply below_drew1 | refine bl_set ?_ (Nat.le_of_lt hgb) | refine bl_alloc ?_ hlt _))⟩⟩
        case rest =>
          clear x2 HG HB HK HL HO
          obtain ⟨x, t2, hO2, HG, HB, HK, HL⟩ := hcut
          have hO2 := hO2.out
          subst hO2
          have O : Kd.R k54 54 wc B (fun k => k ≠ g) v xs := Kd.R_keep HR.out HK.out (fun _ h => h)
          obtain ⟨hg⟩ := HG
          obtain ⟨hb⟩ := HB
          obtain ⟨hk⟩ := HK
          obtain ⟨hB⟩ := HL
          have hlX := hg.lt
          have c7 : wc.cell? ⟨g, 7, none⟩ = some v := (blk_cell hg 7).trans rfl
          have x0 : wc.cell? ⟨w.heap.size, 0, none⟩ = some (.int .i64 x.f0) := (blk_cell hb 0).trans rfl
          have x1 : wc.cell? ⟨w.heap.size, 1, none⟩ = some (.string x.f1) := (blk_cell hb 1).trans rfl
          have x2 : wc.cell? ⟨w.heap.size, 2, none⟩ = some (.int .i64 x.f2) := (blk_cell hb 2).trans rfl
          have x3 : wc.cell? ⟨w.heap.size, 3, none⟩ = some (.int .i64 x.f3.f0) := (blk_cell hb 3).trans rfl
          have x4 : wc.cell? ⟨w.heap.size, 4, none⟩ = some (.int .i64 x.f3.f1) := (blk_cell hb 4).trans rfl
          have x5 : wc.cell? ⟨w.heap.size, 5, none⟩ = some (.string x.f3.f2) := (blk_cell hb 5).trans rfl
          have x6 : wc.cell? ⟨w.heap.size, 6, none⟩ = some (.bool x.f3.f3) := (blk_cell hb 6).trans rfl
          have x7 : wc.cell? ⟨w.heap.size, 7, none⟩ = some (.complex .f64 x.f3.f4.re x.f3.f4.im) := (blk_cell hb 7).trans rfl
          have x8 : wc.cell? ⟨w.heap.size, 8, none⟩ = some (.int .i64 x.f4) := (blk_cell hb 8).trans rfl
          have hne2 := World.new_ne wc ⟨g, 7, none⟩ c7
          go_wp2
          go_region_law ((refine Kd.R_append_step k54 (w0 := wc.drew) (W := wc.drew) B (by rfl) (.tmp 102) (.tmp 104) 23 54 _ 96 (by rfl) Try.underlying23 info54 rfl (by decide) (by decide) v xs x (tc x) (fun k => k ≠ g) (fun _ => False) (by rfl) (by rfl) (tc_M _ _ _ _) (fun _ h => h.elim) (fun k (hk : wc.heap.size ≤ k) e => by omega) (Kd.R_drew O) (Below.refl _ _) (by show B ≤ wc.heap.size; omega) (by omega) ?_; intro v1 w1 ho hb1 hg1 hat1; obtain ⟨e1, e2⟩ := cell7 (At.drew hg) (Kd.R_drew O) hg1; obtain ⟨A1, n1, e1v⟩ := Kd.R_slice ho; rw [show (xs ++ [x]).length = xs.length + 1 from by simp] at e1v; subst e1v; have HO1 := Aside0.mk ho; have HB1 := Aside0.mk hb1; have HG1 := Aside0.mk hg1; have HT1 := Aside0.mk hat1; clear ho hb1 hg1 hat1))
          all_goals (try go_wp2)
          all_goals go_end0
          all_goals exact apd_mk (kb_drew hk) (Below.less (below_drew1 hB) ge) (At.drew hg) (Kd.R_drew O) ge HO1.out HB1.out HG1.out HT1.out
end Go.Proofs.Ytmgljgmieomngaa.Pz
