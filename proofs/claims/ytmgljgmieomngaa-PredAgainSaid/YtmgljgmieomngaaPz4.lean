/- The next word; is the word that sign; the word that is wanted. -/
import Derived.Test.YtmgljgmieomngaaPz1
import Derived.Test.YtmgljgmieomngaaPz2
import Derived.Test.YtmgljgmieomngaaPz3
namespace Go.Proofs.Ytmgljgmieomngaa.Pz
open Go Go.RowKit Go.Proofs.YtmgljgmieomngaaW.PrintWords Go.Proofs.YtmgljgmieomngaaW.PrintLast Go.Proofs.YtmgljgmieomngaaW.PrintMore
attribute [local go_sem] run_store_complex run_store_float isSome_setCell
set_option linter.unusedVariables false
set_option linter.unusedSimpArgs false
theorem kb_lex {w X w2 : World} {g b : Nat} (h : KeepBut w X g none) (k : KeepBut X w2 g (some b)) (hb : w.heap.size ≤ b) : KeepBut w w2 g none := h.trans k (.inr ⟨b, rfl, hb⟩)
/-- what a call that reads on leaves -/
def Rd1 (w : World) (g : Nat) (s : ByteArray) (v : Value) (o : Out St) (e : Ending) (w' : World) : Prop :=
  match o with
  | .ok t => e = .returned (.tuple #[]) ∧ At w' g (RC s t v) 61 ∧ KeepBut w w' g none ∧ Below g w w'
  | .bad p er => e = flt p er ∧ KeepBut w w' g none ∧ Below g w w'
theorem fold_wp {P : Program} {c : Code} {Q : Exit → Act → World → Prop} {a : Act} {W : World} (F : World → Prop) (h : F W) (k : ∀ X, F X → c.wp P Q a X) : c.wp P Q a W := k W h
theorem scan_end (f : Int → Bool) (s : ByteArray) : ∀ (d : Nat) (q : Int), (s.size : Int) ≤ q + d → scan f s d q < (s.size : Int) → f (bt s (scan f s d q)) = false
  | 0, q, h, h1 => by rw [scan] at h1; omega
  | d + 1, q, h, h1 => by
    rw [scan] at h1 ⊢
    by_cases c : q < (s.size : Int)
    · rw [if_pos c] at h1 ⊢
      by_cases e : f (bt s q) = true
      · rw [if_pos e] at h1 ⊢; exact scan_end f s d (q + 1) (by omega) h1
      · rw [if_neg e] at h1 ⊢; simpa using e
    · rw [if_neg c] at h1; exact absurd h1 c
set_option maxHeartbeats 8000000 in
set_option maxRecDepth 100000 in
theorem next_ (w : World) (g : Nat) (s : ByteArray) (v : Value) (t : St) (hg : At w g (RC s t v) 61) (h0 : 0 ≤ t.p) (h1 : t.p ≤ (s.size : Int)) (hs : s.size ≤ 400) :
    Calls Try.prog 17 #[.pointer (some ⟨g, 0, none⟩)] w (Rd1 w g s v (nextF s t.p)) := by
  obtain ⟨p, u0⟩ := t
  have hu61 := Try.underlying61
  have hu59 := Try.underlying59
  have HG := Aside0.mk hg
  have HK := Aside0.mk (KeepBut.refl w g none)
  have HL := Aside0.mk (Below.refl g w)
  have hlt := hg.lt
  have hne := hlt
  have hne' := hlt
  have hgb := hlt
  clear hg
  simp only at h0 h1 ⊢
  obtain ⟨O, hO⟩ : ∃ O, nextF s p = O := ⟨_, rfl⟩
  rw [hO]
  have HO := Aside0.mk hO
  clear hO
  go_enter Try.func17, Try.ntmps17
  go_wp2
  refine Go.Proofs.YtmgljgmieomngaaW.wp_scope_lab 0 (by exact rfl) ?_
  intro G_ hG_
  have HG_ := Aside0.mk hG_
  clear hG_
  go_wp2
  go_step3
  go_step
  go_step
  refine Go.Proofs.YtmgljgmieomngaaW.wp_lab_loop HG_.out (fun d a_ w' => ∃ (u1 u2 u3 u4 u5 u6 u7 u8 u9 u10 u11 u12 u13 u14 u15 u16 u17 u18 u19 u20 u21 u22 u23 u24 u25 u26 u27 u28 u29 u30 u31 u32 u33 u34 u35 u36 u37 u38 u39 u40 u41 u42 u43 u44 u45 u46 u47 u48 u49 u50 u51 u52 u53 u54 u55 u56 u57 u58 u59 u60 u61 u62 u63 u64 u65 u66 u67 u68 u69 u70 u71 u72 u73 u74 u75 u76 u77 u78 u79 u80 u81 u82 u83 u84 u85 u86 u87 u88 u89 u90 u91 u92 : Value), (∃ q : Int, Aside0 (p ≤ q ∧ q ≤ (s.size : Int) ∧ (s.size : Int) ≤ q + d) ∧ Aside0 (scan (fun c => c == 32) s d q = scan (fun c => c == 32) s s.size p) ∧ Aside0 (At w' g (RC s ⟨q, u0⟩ v) 61) ∧ Aside0 (KeepBut w w' g none) ∧ Aside0 (Below g w w')) ∧ a_ = { tmps := #[.pointer (some ⟨g, 0, none⟩), u1, u2, u3, u4, u5, u6, u7, u8, u9, u10, u11, u12, u13, u14, u15, u16, u17, u18, u19, u20, u21, u22, u23, u24, u25, u26, u27, u28, u29, u30, u31, u32, u33, u34, u35, u36, u37, u38, u39, u40, u41, u42, u43, u44, u45, u46, u47, u48, u49, u50, u51, u52, u53, u54, u55, u56, u57, u58, u59, u60, u61, u62, u63, u64, u65, u66, u67, u68, u69, u70, u71, u72, u73, u74, u75, u76, u77, u78, u79, u80, u81, u82, u83, u84, u85, u86, u87, u88, u89, u90, u91, u92], defers := [] }) s.size ?_ ?_
  · (repeat apply Exists.intro)
    refine ⟨?_, rfl⟩
    exact ⟨p, ⟨Int.le_refl _, h1, by omega⟩, ⟨rfl⟩, HG, HK, HL⟩
  intro gk a_ wr h
  refine h.elim fun u1 h => h.elim fun u2 h => h.elim fun u3 h => h.elim fun u4 h => h.elim fun u5 h => h.elim fun u6 h => h.elim fun u7 h => h.elim fun u8 h => h.elim fun u9 h => h.elim fun u10 h => h.elim fun u11 h => h.elim fun u12 h => h.elim fun u13 h => h.elim fun u14 h => h.elim fun u15 h => h.elim fun u16 h => h.elim fun u17 h => h.elim fun u18 h => h.elim fun u19 h => h.elim fun u20 h => h.elim fun u21 h => h.elim fun u22 h => h.elim fun u23 h => h.elim fun u24 h => h.elim fun u25 h => h.elim fun u26 h => h.elim fun u27 h => h.elim fun u28 h => h.elim fun u29 h => h.elim fun u30 h => h.elim fun u31 h => h.elim fun u32 h => h.elim fun u33 h => h.elim fun u34 h => h.elim fun u35 h => h.elim fun u36 h => h.elim fun u37 h => h.elim fun u38 h => h.elim fun u39 h => h.elim fun u40 h => h.elim fun u41 h => h.elim fun u42 h => h.elim fun u43 h => h.elim fun u44 h => h.elim fun u45 h => h.elim fun u46 h => h.elim fun u47 h => h.elim fun u48 h => h.elim fun u49 h => h.elim fun u50 h => h.elim fun u51 h => h.elim fun u52 h => h.elim fun u53 h => h.elim fun u54 h => h.elim fun u55 h => h.elim fun u56 h => h.elim fun u57 h => h.elim fun u58 h => h.elim fun u59 h => h.elim fun u60 h => h.elim fun u61 h => h.elim fun u62 h => h.elim fun u63 h => h.elim fun u64 h => h.elim fun u65 h => h.elim fun u66 h => h.elim fun u67 h => h.elim fun u68 h => h.elim fun u69 h => h.elim fun u70 h => h.elim fun u71 h => h.elim fun u72 h => h.elim fun u73 h => h.elim fun u74 h => h.elim fun u75 h => h.elim fun u76 h => h.elim fun u77 h => h.elim fun u78 h => h.elim fun u79 h => h.elim fun u80 h => h.elim fun u81 h => h.elim fun u82 h => h.elim fun u83 h => h.elim fun u84 h => h.elim fun u85 h => h.elim fun u86 h => h.elim fun u87 h => h.elim fun u88 h => h.elim fun u89 h => h.elim fun u90 h => h.elim fun u91 h => h.elim fun u92 h => ?_
  obtain ⟨⟨q, hq, hS, HG, HK, HL⟩, ha⟩ := h
  subst ha
  try dsimp only
  intro _ _ _ _
  obtain ⟨hq0, hq1, hq2⟩ := hq.out
  clear hq
  have q0 : wr.cell? ⟨g, 0, none⟩ = some (.string s) := (blk_cell HG.out 0).trans rfl
  have q1 : wr.cell? ⟨g, 1, none⟩ = some (.int .i64 q) := (blk_cell HG.out 1).trans rfl
  have f1 := blk_frozen HG.out 1
  have hx := bt_at s q
  have e0 : 0 ≤ q := by omega
  replace e0 := eq_true e0
  have hr := bt_range s q
  by_cases hm : q < (s.size : Int) ∧ bt s q = 32
  · cases gk with
    | zero => omega
    | succ d =>
      obtain ⟨m1, m2⟩ := hm
      have HS2 : Aside0 (scan (fun c => c == 32) s d (q + 1) = scan (fun c => c == 32) s s.size p) := ⟨by have := hS.out; rwa [scan, if_pos m1, if_pos (by simpa using m2)] at this⟩
      have b1 : decide (q < (s.size : Int)) = true := decide_eq_true m1
      have b2 : (bt s q == 32) = true := by simpa using m2
      have e1 := eq_true m1
      clear hS m2 m1
      go_wp2
      go_quiet (fail)
      go_wp2
      go_step3
      refine And.intro (Eq.refl 0) ?_
      go_step
      go_roundg d
      case measure => omega
      case rel => exact ⟨q + 1, ⟨by omega, by have := of_eq_true e1; omega, by omega⟩, HS2, ⟨by (apply At.fin; (focus (with_reducible repeat (first | exact HG.out | exact HB.out | apply At.drew | apply At.drewN | apply At.alloc | (refine At.set (cs := ?_) ?_ _ _; rotate_left) | apply At.other (hne := hne') | apply At.other (hne := hne)))); (focus rfl))⟩, ⟨by (with_reducible repeat (first | exact KeepBut.refl _ _ _ | exact HK.out | apply KeepBut.set_ | apply kb_drewN | apply kb_drew | apply kb_alloc | refine kb_new ?_ hbn _ _))⟩, ⟨by (with_reducible repeat (first | exact Below.refl _ _ | exact HL.out | apply pw_below_drewN | apply below_drew1 | refine bl_set ?_ (Nat.le_refl _) | refine bl_set ?_ (Nat.le_of_lt hgb) | refine bl_alloc ?_ hlt _))⟩⟩
  · have hQ : scan (fun c => c == 32) s s.size p = q := by
      have h := hS.out
      cases gk with
      | zero => rw [← h, scan]
      | succ d =>
        rw [scan] at h
        by_cases a : q < (s.size : Int)
        · rw [if_pos a, if_neg (fun e => hm ⟨a, by simpa using e⟩)] at h; exact h.symm
        · rw [if_neg a] at h; exact h.symm
    have hO := HO.out
    unfold nextF at hO
    rw [hQ] at hO
    clear hQ hS HO
    by_cases m1 : q < (s.size : Int)
    · have b2 : (bt s q == 32) = false := by
        have := fun e => hm ⟨m1, e⟩
        simpa using this
      simp only [if_pos m1] at hO
      have HO := Aside0.mk hO
      have b1 : decide (q < (s.size : Int)) = true := decide_eq_true m1
      have hqs := m1
      have e1 := eq_true m1
      clear hO hm m1
      go_wp2
      go_quiet (fail)
      go_upto_region 2 with (fail)
      refine fold_wp (fun X => At X g (RC s ⟨q, u0⟩ v) 61 ∧ KeepBut w X g none ∧ Below g w X) ⟨by (apply At.fin; (focus (with_reducible repeat (first | exact HG.out | exact HB.out | apply At.drew | apply At.drewN | apply At.alloc | (refine At.set (cs := ?_) ?_ _ _; rotate_left) | apply At.other (hne := hne') | apply At.other (hne := hne)))); (focus rfl)), by (with_reducible repeat (first | exact KeepBut.refl _ _ _ | exact HK.out | apply KeepBut.set_ | apply kb_drewN | apply kb_drew | apply kb_alloc | refine kb_new ?_ hbn _ _)), by (with_reducible repeat (first | exact Below.refl _ _ | exact HL.out | apply pw_below_drewN | apply below_drew1 | refine bl_set ?_ (Nat.le_refl _) | refine bl_set ?_ (Nat.le_of_lt hgb) | refine bl_alloc ?_ hlt _))⟩ ?_
      clear q0 q1 f1 HG HK HL
      rintro X ⟨hg, hk, hl⟩
      have HG := Aside0.mk hg
      have HK := Aside0.mk hk
      have HL := Aside0.mk hl
      have hbn : w.heap.size ≤ X.heap.size := hk.1
      have hgb := hg.lt
      have hne : g ≠ X.heap.size := by omega
      have hne' : X.heap.size ≠ g := by omega
      have q0 : X.cell? ⟨g, 0, none⟩ = some (.string s) := (blk_cell hg 0).trans rfl
      have q1 : X.cell? ⟨g, 1, none⟩ = some (.int .i64 q) := (blk_cell hg 1).trans rfl
      clear hg hk hl
      go_wp2
      go_quiet (fail)
      go_upto_if 47 with (fail)
      go_cut [] (fun wc => ∃ (p' : Int) (u : Wd), Aside0 (O = .ok ⟨p', u⟩) ∧ Aside0 (At wc g (RC s ⟨p', u0⟩ v) 61) ∧ Aside0 (At wc X.heap.size (WC u) 59) ∧ Aside0 (KeepBut w wc g none) ∧ Aside0 (Below g w wc))
      case first =>
        go_upto_region 4 with (fail)
        go_region
        go_upto_block 0 with (fail)
        refine fold_wp (fun Y => At Y g (RC s ⟨q, u0⟩ v) 61 ∧ At Y X.heap.size (WC ⟨bt s q, false, q, ⟨#[]⟩, 0⟩) 59 ∧ KeepBut w Y g none ∧ Below g w Y) ⟨by (apply At.fin; (focus (with_reducible repeat (first | exact HG.out | exact HB.out | apply At.drew | apply At.drewN | apply At.alloc | (refine At.set (cs := ?_) ?_ _ _; rotate_left) | apply At.other (hne := hne') | apply At.other (hne := hne)))); (focus rfl)), by (apply At.fin; (focus (repeat (first | exact At.new _ _ _ | with_reducible first | exact HG.out | exact HB.out | apply At.drew | apply At.drewN | apply At.alloc | (refine At.set (cs := ?_) ?_ _ _; rotate_left) | apply At.other (hne := hne') | apply At.other (hne := hne)))); (focus rfl)), by (with_reducible repeat (first | exact KeepBut.refl _ _ _ | exact HK.out | apply KeepBut.set_ | apply kb_drewN | apply kb_drew | apply kb_alloc | refine kb_new ?_ hbn _ _)), by (with_reducible repeat (first | exact Below.refl _ _ | exact HL.out | apply pw_below_drewN | apply below_drew1 | refine bl_set ?_ (Nat.le_refl _) | refine bl_set ?_ (Nat.le_of_lt hgb) | refine bl_alloc ?_ hlt _))⟩ ?_
        clear q0 q1 HG HK HL
        rintro Y ⟨hg, hb, hk, hl⟩
        have HK := Aside0.mk hk
        have HL := Aside0.mk hl
        have A1 := name_ Y g X.heap.size s v u0 q _ hg hb hgb (of_eq_true e0) hq1 hs
        have A2 := number_ Y g X.heap.size s v u0 q _ hg hb hgb (of_eq_true e0) hqs hs
        have A3 := str_ Y g X.heap.size s v u0 q _ hg hb hgb (of_eq_true e0) hqs hs
        have A4 := mark_ Y g X.heap.size s v u0 q _ hg hb hgb (of_eq_true e0) hqs hs
        clear hk hl hg hb
        have hO := HO.out
        clear HO hx e1 b1 b2
        generalize hc : bt s q = c at *
        clear hc
        have hcl : Aside0 ((decide (97 ≤ c) = true ∧ decide (c ≤ 122) = true) ∨ ((decide (97 ≤ c) = false ∧ (c == 45) = true) ∨ (decide (97 ≤ c) = false ∧ (c == 45) = false ∧ decide (48 ≤ c) = true ∧ decide (c ≤ 57) = true)) ∨ (decide (97 ≤ c) = false ∧ (c == 45) = false ∧ decide (48 ≤ c) = false ∧ (c == 34) = true) ∨
            ((decide (97 ≤ c) = true ∧ decide (c ≤ 122) = false ∧ (c == 45) = false ∧ decide (48 ≤ c) = true ∧ decide (c ≤ 57) = false ∧ (c == 34) = false) ∨ (decide (97 ≤ c) = false ∧ (c == 45) = false ∧ decide (48 ≤ c) = true ∧ decide (c ≤ 57) = false ∧ (c == 34) = false) ∨ (decide (97 ≤ c) = false ∧ (c == 45) = false ∧ decide (48 ≤ c) = false ∧ (c == 34) = false))) := by
          refine ⟨?_⟩
          simp only [beq_iff_eq, beq_eq_false_iff_ne, decide_eq_true_eq, decide_eq_false_iff_not]
          omega
        rcases hcl.out with ⟨t1, t2⟩ | (⟨t1, t2⟩ | ⟨t1, t2, t3, t4⟩) | ⟨t1, t2, t3, t4⟩ | (⟨t1, t2, t3, t4, t5, t6⟩ | ⟨t1, t2, t3, t4, t5⟩ | ⟨t1, t2, t3, t4⟩)
        all_goals clear hcl
        · rw [if_pos ⟨of_decide_eq_true t1, of_decide_eq_true t2⟩] at hO
          cases hL : nameF s q with
          | ok a =>
            obtain ⟨p', u⟩ := a
            have C := A1
            rw [hL] at C
            have hO2 : O = .ok ⟨p', u⟩ := by rw [← hO, hL]; rfl
            have C := Aside0.mk C
            have HO2 := Aside0.mk hO2
            clear hL hO hO2 A1 A2 A3 A4
            go_wp2_with (first | (go_at_call 35; refine C.out.mono ?_; rintro e w2 ⟨rfl, hg2, hb2, hk2, hl2⟩; have HG2 := Aside0.mk hg2; have HB2 := Aside0.mk hb2; have HK2 := Aside0.mk (kb_lex HK.out hk2 hbn); have HL2 := Aside0.mk (HL.out.trans hl2); clear hg2 hb2 hk2 hl2))
            go_meet
            case rel => exact ⟨p', u, HO2, HG2, HB2, HK2, HL2⟩
          | bad p' er =>
            have C := A1
            rw [hL] at C
            have hO2 : O = .bad p' er := by rw [← hO, hL]; rfl
            have C := Aside0.mk C
            subst hO2
            clear hL hO A1 A2 A3 A4
            go_wp2_with (first | (go_at_call 35; refine C.out.mono ?_; rintro e w2 ⟨rfl, hk2, hl2⟩; have HK2 := Aside0.mk (kb_lex HK.out hk2 hbn); have HL2 := Aside0.mk (HL.out.trans hl2); clear hk2 hl2; unfold flt))
            exact ⟨rfl, rfl, HK2.out, HL2.out⟩
        · rw [if_neg (fun h => by have := of_decide_eq_false t1; omega), if_pos (.inl (by simpa using t2))] at hO
          cases hL : numF s q with
          | ok a =>
            obtain ⟨p', u⟩ := a
            have C := A2
            rw [hL] at C
            have hO2 : O = .ok ⟨p', u⟩ := by rw [← hO, hL]; rfl
            have C := Aside0.mk C
            have HO2 := Aside0.mk hO2
            clear hL hO hO2 A1 A2 A3 A4
            go_wp2_with (first | (go_at_call 36; refine C.out.mono ?_; rintro e w2 ⟨rfl, hg2, hb2, hk2, hl2⟩; have HG2 := Aside0.mk hg2; have HB2 := Aside0.mk hb2; have HK2 := Aside0.mk (kb_lex HK.out hk2 hbn); have HL2 := Aside0.mk (HL.out.trans hl2); clear hg2 hb2 hk2 hl2))
            go_meet
            case rel => exact ⟨p', u, HO2, HG2, HB2, HK2, HL2⟩
          | bad p' er =>
            have C := A2
            rw [hL] at C
            have hO2 : O = .bad p' er := by rw [← hO, hL]; rfl
            have C := Aside0.mk C
            subst hO2
            clear hL hO A1 A2 A3 A4
            go_wp2_with (first | (go_at_call 36; refine C.out.mono ?_; rintro e w2 ⟨rfl, hk2, hl2⟩; have HK2 := Aside0.mk (kb_lex HK.out hk2 hbn); have HL2 := Aside0.mk (HL.out.trans hl2); clear hk2 hl2; unfold flt))
            exact ⟨rfl, rfl, HK2.out, HL2.out⟩
        · rw [if_neg (fun h => by have := of_decide_eq_false t1; omega), if_pos (.inr ⟨of_decide_eq_true t3, of_decide_eq_true t4⟩)] at hO
          cases hL : numF s q with
          | ok a =>
            obtain ⟨p', u⟩ := a
            have C := A2
            rw [hL] at C
            have hO2 : O = .ok ⟨p', u⟩ := by rw [← hO, hL]; rfl
            have C := Aside0.mk C
            have HO2 := Aside0.mk hO2
            clear hL hO hO2 A1 A2 A3 A4
            go_wp2_with (first | (go_at_call 36; refine C.out.mono ?_; rintro e w2 ⟨rfl, hg2, hb2, hk2, hl2⟩; have HG2 := Aside0.mk hg2; have HB2 := Aside0.mk hb2; have HK2 := Aside0.mk (kb_lex HK.out hk2 hbn); have HL2 := Aside0.mk (HL.out.trans hl2); clear hg2 hb2 hk2 hl2))
            go_meet
            case rel => exact ⟨p', u, HO2, HG2, HB2, HK2, HL2⟩
          | bad p' er =>
            have C := A2
            rw [hL] at C
            have hO2 : O = .bad p' er := by rw [← hO, hL]; rfl
            have C := Aside0.mk C
            subst hO2
            clear hL hO A1 A2 A3 A4
            go_wp2_with (first | (go_at_call 36; refine C.out.mono ?_; rintro e w2 ⟨rfl, hk2, hl2⟩; have HK2 := Aside0.mk (kb_lex HK.out hk2 hbn); have HL2 := Aside0.mk (HL.out.trans hl2); clear hk2 hl2; unfold flt))
            exact ⟨rfl, rfl, HK2.out, HL2.out⟩
        · rw [if_neg (fun h => by have := of_decide_eq_false t1; omega), if_neg (fun h => h.elim (show c ≠ 45 by simpa using t2) (fun h => by have := of_decide_eq_false t3; omega)), if_pos (by simpa using t4)] at hO
          cases hL : strF s q with
          | ok a =>
            obtain ⟨p', u⟩ := a
            have C := A3
            rw [hL] at C
            have hO2 : O = .ok ⟨p', u⟩ := by rw [← hO, hL]; rfl
            have C := Aside0.mk C
            have HO2 := Aside0.mk hO2
            clear hL hO hO2 A1 A2 A3 A4
            go_wp2_with (first | (go_at_call 37; refine C.out.mono ?_; rintro e w2 ⟨rfl, hg2, hb2, hk2, hl2⟩; have HG2 := Aside0.mk hg2; have HB2 := Aside0.mk hb2; have HK2 := Aside0.mk (kb_lex HK.out hk2 hbn); have HL2 := Aside0.mk (HL.out.trans hl2); clear hg2 hb2 hk2 hl2))
            go_meet
            case rel => exact ⟨p', u, HO2, HG2, HB2, HK2, HL2⟩
          | bad p' er =>
            have C := A3
            rw [hL] at C
            have hO2 : O = .bad p' er := by rw [← hO, hL]; rfl
            have C := Aside0.mk C
            subst hO2
            clear hL hO A1 A2 A3 A4
            go_wp2_with (first | (go_at_call 37; refine C.out.mono ?_; rintro e w2 ⟨rfl, hk2, hl2⟩; have HK2 := Aside0.mk (kb_lex HK.out hk2 hbn); have HL2 := Aside0.mk (HL.out.trans hl2); clear hk2 hl2; unfold flt))
            exact ⟨rfl, rfl, HK2.out, HL2.out⟩
        · rw [if_neg (fun h => by have := of_decide_eq_true t1; have := of_decide_eq_false t2; omega), if_neg (fun h => h.elim (show c ≠ 45 by simpa using t3) (fun h => by have := of_decide_eq_false t5; omega)), if_neg (show c ≠ 34 by simpa using t6)] at hO
          cases hL : markF s q c with
          | ok a =>
            obtain ⟨p', u⟩ := a
            have C := A4
            rw [hL] at C
            have hO2 : O = .ok ⟨p', u⟩ := by rw [← hO, hL]; rfl
            have C := Aside0.mk C
            have HO2 := Aside0.mk hO2
            clear hL hO hO2 A1 A2 A3 A4
            go_wp2_with (first | (go_at_call 38; refine C.out.mono ?_; rintro e w2 ⟨rfl, hg2, hb2, hk2, hl2⟩; have HG2 := Aside0.mk hg2; have HB2 := Aside0.mk hb2; have HK2 := Aside0.mk (kb_lex HK.out hk2 hbn); have HL2 := Aside0.mk (HL.out.trans hl2); clear hg2 hb2 hk2 hl2))
            go_meet
            case rel => exact ⟨p', u, HO2, HG2, HB2, HK2, HL2⟩
          | bad p' er =>
            have C := A4
            rw [hL] at C
            have hO2 : O = .bad p' er := by rw [← hO, hL]; rfl
            have C := Aside0.mk C
            subst hO2
            clear hL hO A1 A2 A3 A4
            go_wp2_with (first | (go_at_call 38; refine C.out.mono ?_; rintro e w2 ⟨rfl, hk2, hl2⟩; have HK2 := Aside0.mk (kb_lex HK.out hk2 hbn); have HL2 := Aside0.mk (HL.out.trans hl2); clear hk2 hl2; unfold flt))
            exact ⟨rfl, rfl, HK2.out, HL2.out⟩
        · rw [if_neg (fun h => by have := of_decide_eq_false t1; omega), if_neg (fun h => h.elim (show c ≠ 45 by simpa using t2) (fun h => by have := of_decide_eq_false t4; omega)), if_neg (show c ≠ 34 by simpa using t5)] at hO
          cases hL : markF s q c with
          | ok a =>
            obtain ⟨p', u⟩ := a
            have C := A4
            rw [hL] at C
            have hO2 : O = .ok ⟨p', u⟩ := by rw [← hO, hL]; rfl
            have C := Aside0.mk C
            have HO2 := Aside0.mk hO2
            clear hL hO hO2 A1 A2 A3 A4
            go_wp2_with (first | (go_at_call 38; refine C.out.mono ?_; rintro e w2 ⟨rfl, hg2, hb2, hk2, hl2⟩; have HG2 := Aside0.mk hg2; have HB2 := Aside0.mk hb2; have HK2 := Aside0.mk (kb_lex HK.out hk2 hbn); have HL2 := Aside0.mk (HL.out.trans hl2); clear hg2 hb2 hk2 hl2))
            go_meet
            case rel => exact ⟨p', u, HO2, HG2, HB2, HK2, HL2⟩
          | bad p' er =>
            have C := A4
            rw [hL] at C
            have hO2 : O = .bad p' er := by rw [← hO, hL]; rfl
            have C := Aside0.mk C
            subst hO2
            clear hL hO A1 A2 A3 A4
            go_wp2_with (first | (go_at_call 38; refine C.out.mono ?_; rintro e w2 ⟨rfl, hk2, hl2⟩; have HK2 := Aside0.mk (kb_lex HK.out hk2 hbn); have HL2 := Aside0.mk (HL.out.trans hl2); clear hk2 hl2; unfold flt))
            exact ⟨rfl, rfl, HK2.out, HL2.out⟩
        · rw [if_neg (fun h => by have := of_decide_eq_false t1; omega), if_neg (fun h => h.elim (show c ≠ 45 by simpa using t2) (fun h => by have := of_decide_eq_false t3; omega)), if_neg (show c ≠ 34 by simpa using t4)] at hO
          cases hL : markF s q c with
          | ok a =>
            obtain ⟨p', u⟩ := a
            have C := A4
            rw [hL] at C
            have hO2 : O = .ok ⟨p', u⟩ := by rw [← hO, hL]; rfl
            have C := Aside0.mk C
            have HO2 := Aside0.mk hO2
            clear hL hO hO2 A1 A2 A3 A4
            go_wp2_with (first | (go_at_call 38; refine C.out.mono ?_; rintro e w2 ⟨rfl, hg2, hb2, hk2, hl2⟩; have HG2 := Aside0.mk hg2; have HB2 := Aside0.mk hb2; have HK2 := Aside0.mk (kb_lex HK.out hk2 hbn); have HL2 := Aside0.mk (HL.out.trans hl2); clear hg2 hb2 hk2 hl2))
            go_meet
            case rel => exact ⟨p', u, HO2, HG2, HB2, HK2, HL2⟩
          | bad p' er =>
            have C := A4
            rw [hL] at C
            have hO2 : O = .bad p' er := by rw [← hO, hL]; rfl
            have C := Aside0.mk C
            subst hO2
            clear hL hO A1 A2 A3 A4
            go_wp2_with (first | (go_at_call 38; refine C.out.mono ?_; rintro e w2 ⟨rfl, hk2, hl2⟩; have HK2 := Aside0.mk (kb_lex HK.out hk2 hbn); have HL2 := Aside0.mk (HL.out.trans hl2); clear hk2 hl2; unfold flt))
            exact ⟨rfl, rfl, HK2.out, HL2.out⟩
      case rest =>
        obtain ⟨p', u, HO2, HG, HB, HK, HL⟩ := hcut
        have hO2 := HO2.out
        subst hO2
        clear HO2 q0 q1
        have z0 : wc.cell? ⟨X.heap.size, 0, none⟩ = some (.int .u8 u.kd) := (blk_cell HB.out 0).trans rfl
        have z1 : wc.cell? ⟨X.heap.size, 1, none⟩ = some (.bool u.lg) := (blk_cell HB.out 1).trans rfl
        have z2 : wc.cell? ⟨X.heap.size, 2, none⟩ = some (.int .i64 u.pl) := (blk_cell HB.out 2).trans rfl
        have z3 : wc.cell? ⟨X.heap.size, 3, none⟩ = some (.string u.tx) := (blk_cell HB.out 3).trans rfl
        have z4 : wc.cell? ⟨X.heap.size, 4, none⟩ = some (.int .i64 u.n) := (blk_cell HB.out 4).trans rfl
        have q2 : wc.cell? ⟨g, 2, none⟩ = some (.int .u8 u0.kd) := (blk_cell HG.out 2).trans rfl
        have f2 := blk_frozen HG.out 2
        have q3 : wc.cell? ⟨g, 3, none⟩ = some (.bool u0.lg) := (blk_cell HG.out 3).trans rfl
        have f3 := blk_frozen HG.out 3
        have q4 : wc.cell? ⟨g, 4, none⟩ = some (.int .i64 u0.pl) := (blk_cell HG.out 4).trans rfl
        have f4 := blk_frozen HG.out 4
        have q5 : wc.cell? ⟨g, 5, none⟩ = some (.string u0.tx) := (blk_cell HG.out 5).trans rfl
        have f5 := blk_frozen HG.out 5
        have q6 : wc.cell? ⟨g, 6, none⟩ = some (.int .i64 u0.n) := (blk_cell HG.out 6).trans rfl
        have f6 := blk_frozen HG.out 6
        go_wp2
        (try simp only [Exit.then, Exit.jump])
        go_end0
        exact ⟨rfl, by (apply At.fin; (focus (with_reducible repeat (first | exact HG.out | exact HB.out | apply At.drew | apply At.drewN | apply At.alloc | (refine At.set (cs := ?_) ?_ _ _; rotate_left) | apply At.other (hne := hne') | apply At.other (hne := hne)))); (focus rfl)), by (with_reducible repeat (first | exact KeepBut.refl _ _ _ | exact HK.out | apply KeepBut.set_ | apply kb_drewN | apply kb_drew | apply kb_alloc | refine kb_new ?_ hbn _ _)), by (with_reducible repeat (first | exact Below.refl _ _ | exact HL.out | apply pw_below_drewN | apply below_drew1 | refine bl_set ?_ (Nat.le_refl _) | refine bl_set ?_ (Nat.le_of_lt hgb) | refine bl_alloc ?_ hlt _))⟩
    · rw [if_neg m1] at hO
      subst hO
      have b1 : decide (q < (s.size : Int)) = false := decide_eq_false m1
      clear hm m1
      go_wp2
      go_quiet (fail)
      go_upto_region 2 with (fail)
      refine fold_wp (fun X => At X g (RC s ⟨q, u0⟩ v) 61 ∧ KeepBut w X g none ∧ Below g w X) ⟨by (apply At.fin; (focus (with_reducible repeat (first | exact HG.out | exact HB.out | apply At.drew | apply At.drewN | apply At.alloc | (refine At.set (cs := ?_) ?_ _ _; rotate_left) | apply At.other (hne := hne') | apply At.other (hne := hne)))); (focus rfl)), by (with_reducible repeat (first | exact KeepBut.refl _ _ _ | exact HK.out | apply KeepBut.set_ | apply kb_drewN | apply kb_drew | apply kb_alloc | refine kb_new ?_ hbn _ _)), by (with_reducible repeat (first | exact Below.refl _ _ | exact HL.out | apply pw_below_drewN | apply below_drew1 | refine bl_set ?_ (Nat.le_refl _) | refine bl_set ?_ (Nat.le_of_lt hgb) | refine bl_alloc ?_ hlt _))⟩ ?_
      clear q0 q1 f1 HG HK HL
      rintro X ⟨hg, hk, hl⟩
      have HG := Aside0.mk hg
      have HK := Aside0.mk hk
      have HL := Aside0.mk hl
      have hbn : w.heap.size ≤ X.heap.size := hk.1
      have hgb := hg.lt
      have hne : g ≠ X.heap.size := by omega
      have hne' : X.heap.size ≠ g := by omega
      have q0 : X.cell? ⟨g, 0, none⟩ = some (.string s) := (blk_cell hg 0).trans rfl
      have q1 : X.cell? ⟨g, 1, none⟩ = some (.int .i64 q) := (blk_cell hg 1).trans rfl
      have q2 : X.cell? ⟨g, 2, none⟩ = some (.int .u8 u0.kd) := (blk_cell hg 2).trans rfl
      have f2 := blk_frozen hg 2
      have q3 : X.cell? ⟨g, 3, none⟩ = some (.bool u0.lg) := (blk_cell hg 3).trans rfl
      have f3 := blk_frozen hg 3
      have q4 : X.cell? ⟨g, 4, none⟩ = some (.int .i64 u0.pl) := (blk_cell hg 4).trans rfl
      have f4 := blk_frozen hg 4
      have q5 : X.cell? ⟨g, 5, none⟩ = some (.string u0.tx) := (blk_cell hg 5).trans rfl
      have f5 := blk_frozen hg 5
      have q6 : X.cell? ⟨g, 6, none⟩ = some (.int .i64 u0.n) := (blk_cell hg 6).trans rfl
      have f6 := blk_frozen hg 6
      clear hg hk hl
      go_wp2
      go_quiet (fail)
      go_wp2
      (try simp only [Exit.then, Exit.jump])
      go_end0
      exact ⟨rfl, by (apply At.fin; (focus (with_reducible repeat (first | exact HG.out | exact HB.out | apply At.drew | apply At.drewN | apply At.alloc | (refine At.set (cs := ?_) ?_ _ _; rotate_left) | apply At.other (hne := hne') | apply At.other (hne := hne)))); (focus rfl)), by (with_reducible repeat (first | exact KeepBut.refl _ _ _ | exact HK.out | apply KeepBut.set_ | apply kb_drewN | apply kb_drew | apply kb_alloc | refine kb_new ?_ hbn _ _)), by (with_reducible repeat (first | exact Below.refl _ _ | exact HL.out | apply pw_below_drewN | apply below_drew1 | refine bl_set ?_ (Nat.le_refl _) | refine bl_set ?_ (Nat.le_of_lt hgb) | refine bl_alloc ?_ hlt _))⟩
end Go.Proofs.Ytmgljgmieomngaa.Pz
